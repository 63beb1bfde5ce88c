import PyProof.Rows.All
import Wide.All
import OpenK.AllK
import Wide.FinOn
import HandS.Base
import HandS.Call
import HandS.List
import HandS.TupAny
import HandS.Dict
import HandS.Walk
import HandS.Words
import HandS.Text
import HandS.TupMul
import HandS.More
import HandS.Conv
import HandS.IsInst
import HandS.Style
import HandS.Flow
import HandS.SortInts
import PyProof.AutoSeq1
import HandS.Replace
import HandS.Strs
import HandS.Zip
import HandS.Iter
import KE.GoesMore
import HandS.DictComp
import HandS.Defaults
import HandS.SetFor
import HandS.CallRecv
import HandS.HeadWalk
import HandS.Head0
import HandS.Head1
import HandS.Head2
import HandS.HeadEnd
import HandS.HeadHook1
import HandS.HeadHook2
import KE.KStateDown
import PySem.Challenge.RW_meantlog_k83_journals_as_octets
set_option Elab.async false
set_option linter.all false
set_option maxRecDepth 100000
set_option maxHeartbeats 0
namespace PyE
open PySem

/-- a value: data inline; lst, dct: an object that nobody changes any more; ref: a cell of the store; fn: an instance of a class, by the class's name (a cell alone), its attributes -/
inductive D where
  | non | bl (b : Bool) | int (i : Int) | str (s : Str)
  | tup (xs : List D) | lst (xs : List D) | dct (es : List D) | ref (n : Nat) | fn (c : Str) (es : List D)
  deriving Inhabited

mutual
def D.beq : D → D → Bool
  | .non, .non => true
  | .bl a, .bl b => a == b
  | .int a, .int b => a == b
  | .str a, .str b => decide (a = b)
  | .tup a, .tup b => D.beqL a b
  | .lst a, .lst b => D.beqL a b
  | .dct a, .dct b => D.beqL a b
  | .ref a, .ref b => a == b
  | .fn a xs, .fn b ys => decide (a = b) && D.beqL xs ys
  | _, _ => false
def D.beqL : List D → List D → Bool
  | [], [] => true
  | a :: as, b :: bs => D.beq a b && D.beqL as bs
  | _, _ => false
end

mutual
/-- no cell is named within -/
def D.pure : D → Bool
  | .ref _ => false
  | .fn _ _ => false
  | .tup xs => D.pureL xs
  | .lst xs => D.pureL xs
  | .dct xs => D.pureL xs
  | _ => true
def D.pureL : List D → Bool
  | [] => true
  | x :: xs => D.pure x && D.pureL xs
end
mutual
/-- all cells named within are below n -/
def D.bel (n : Nat) : D → Bool
  | .ref k => decide (k < n)
  | .tup xs => D.belL n xs
  | .lst xs => D.belL n xs
  | .dct xs => D.belL n xs
  | .fn _ xs => D.belL n xs
  | _ => true
def D.belL (n : Nat) : List D → Bool
  | [] => true
  | x :: xs => D.bel n x && D.belL n xs
end
mutual
/-- plain data -/
def D.py : D → Option PyData
  | .non => some .none
  | .bl b => some (.bool b)
  | .int i => some (.int i)
  | .str s => some (.str s)
  | .tup xs => (D.pyL xs).map .tuple
  | .lst xs => (D.pyL xs).map .list
  | _ => none
def D.pyL : List D → Option (List PyData)
  | [] => some []
  | x :: xs => (D.py x).bind fun d => (D.pyL xs).map fun ds => d :: ds
end

abbrev Store := List D
abbrev En := List (Option D)

inductive R (α : Type) where
  | ok (a : α) (st : Store)
  | exc (e : D) (st : Store)
  | bad
/-- nothing; it keeps a rewriting out of what comes behind -/
class Un where
  u : Unit
instance un : Un := ⟨()⟩
@[reducible] def Laz {α β : Type} (f : α → Store → R β) : Type := Un
def R.bind {α β : Type} : R α → (f : α → Store → R β) → [Laz f] → R β
  | .ok a st, f, _ => f a st
  | .exc e st, _, _ => .exc e st
  | .bad, _, _ => .bad
def opt {α : Type} (o : Option α) (st : Store) : R α := match o with
  | some a => .ok a st
  | none => .bad
def guardB {α : Type} (b : Bool) (r : R α) : R α := if b = true then r else .bad
def line : Nat := 16777216

inductive BOp where | add | sub | mul | fdiv | mod | pow | xor deriving DecidableEq
inductive COp where | eq | ne | lt | le | gt | ge | is | isnot | in_ | notin deriving DecidableEq
inductive Bi where | len | abs | int | max2 | min2 | max1 | min1 | sum | all | any | tuple | list | sorted | str | sortedSet deriving DecidableEq
inductive Mt where | append | extend | insert | pop | popAt | index | get | setdefault | join | tindex | sindex deriving DecidableEq
inductive Ty where | int | bool | str | tuple | list deriving DecidableEq
mutual
inductive C where
  | lit (d : D)
  | var (i : Nat)
  | tup (es : Cs) | list (es : Cs) | dict (ks : List D) (vs : Cs)
  | mut (e : C)
  | bin (op : BOp) (a b : C)
  | neg (a : C)
  | cmp (op : COp) (a b : C)
  | and (a b : C) | or (a b : C) | not (a : C)
  | ife (c a b : C)
  | ix (a b : C)
  | sl (a : C) (lo hi : Co)
  | call (f : Nat) (es : Cs) (io : List Nat) (fresh : Bool)
  | callS (f : Nat) (es : Cs)
  | bi (f : Bi) (es : Cs)
  | mt (m : Mt) (o : C) (es : Cs)
  | fld (c : Str) (o : C) (f : Str)
  | new (c : Str) (i : Nat) (es : Cs)
  | meth (c m : Str) (i : Nat) (o : C) (es : Cs)
  | rev (e : C)
  | isi (a : C) (ts : List Ty)
  | lc (own : List Nat) (t : T) (it : I) (cond : Co) (elt : C)
  | dc (own : List Nat) (t : T) (it : I) (cond : Co) (k v : C)
inductive Cs where | nil | cons (e : C) (es : Cs)
inductive Co where | none | some (e : C)
inductive T where
  | name (i : Nat) | tup (ts : Ts) | sub (o i : C)
inductive Ts where | nil | cons (t : T) (ts : Ts)
inductive I where
  | val (e : C) | range1 (a : C) | range2 (a b : C) | enum (e : C) | zip (a b : C)
end
mutual
inductive S where
  | asg (t : T) (e : C)
  | aug (i : Nat) (op : BOp) (e : C)
  | expr (e : C)
  | ret (e : C) | retN
  | ife (c : C) (a b : Ss)
  | for_ (t : T) (it : I) (ws : List Nat) (body : Ss)
  | pass | brk | cont
  | fld (c : Str) (o : C) (f : Str) (e : C)
  | fldaug (c : Str) (o : C) (f : Str) (op : BOp) (e : C)
  | subaug (o i : C) (op : BOp) (e : C)
  | while_ (c : C) (ws : List Nat) (body : Ss)
  | try_ (body : Ss)
  | nope
inductive Ss where | nil | cons (s : S) (r : Ss)
end
inductive Fl where | nx | brk | ct | rt (d : D)

def view (st : Store) : D → D
  | .ref n => (st[n]?).getD (.ref n)
  | d => d
def seqOf (st : Store) (d : D) : Option (List D) := match view st d with
  | .tup xs => some xs
  | .lst xs => some xs
  | _ => none
def truth (st : Store) (d : D) : Option Bool := match view st d with
  | .non => some false
  | .bl b => some b
  | .int i => some (i != 0)
  | .str s => if s.length ≤ line then some ((s.length : Int) != 0) else none
  | .tup xs => some (!xs.isEmpty)
  | .lst xs => some (!xs.isEmpty)
  | .dct xs => some (!xs.isEmpty)
  | _ => none
def mkTup (xs : List D) (st : Store) : R D := guardB (decide (xs.length ≤ line)) (.ok (.tup xs) st)
def mkLst (xs : List D) (st : Store) : R D := guardB (decide (xs.length ≤ line)) (.ok (.lst xs) st)
def mulOk (i j : Int) : Bool := (decide (-18446744073709551616 < i) && decide (i < 18446744073709551616)) || (decide (-18446744073709551616 < j) && decide (j < 18446744073709551616))
/-- keys of dicts: ints, texts -/
def isKey : D → Bool
  | .int _ => true
  | .str _ => true
  | _ => false
def keq : D → D → Bool
  | .int a, .int b => decide (a = b)
  | .str a, .str b => decide (a = b)
  | _, _ => false
def dget : List D → D → Option D
  | [], _ => none
  | .tup [k', v] :: r, k => if keq k' k = true then some v else dget r k
  | _ :: r, k => dget r k
def isK (k : D) : D → Bool
  | .tup [k', _] => keq k' k
  | _ => false
def dput (es : List D) (k v : D) : List D := if es.any (isK k) = true then es.map fun e => if isK k e = true then .tup [k, v] else e else es ++ [.tup [k, v]]
def binD (op : BOp) (x y : D) (st : Store) : R D := match op, view st x, view st y with
  | .add, .int i, .int j => .ok (.int (i + j)) st
  | .add, .str i, .str j => guardB (decide (i.length + j.length ≤ line)) (.ok (.str (i ++ j)) st)
  | .add, .tup i, .tup j => guardB (decide (i.length + j.length ≤ line)) (.ok (.tup (i ++ j)) st)
  | .add, .lst i, .lst j => guardB (decide (i.length + j.length ≤ line)) (.ok (.lst (i ++ j)) st)
  | .sub, .int i, .int j => .ok (.int (i - j)) st
  | .mul, .int i, .int j => guardB (mulOk i j) (.ok (.int (i * j)) st)
  | .fdiv, .int i, .int j => guardB (decide (0 < j) && decide (j < 1073741824)) (.ok (.int (i / j)) st)
  | .mod, .int i, .int j => guardB (decide (0 < j)) (.ok (.int (i % j)) st)
  | .pow, .int i, .int j => guardB (decide (0 ≤ j) && decide (j ≤ 1000000) && decide (i.natAbs < 18446744073709551616)) (.ok (.int (i ^ j.toNat)) st)
  | .xor, .int i, .int j => .ok (.int (Builtin.bitXor i j)) st
  | .mul, .tup i, .int j => guardB (!i.isEmpty && decide (2 ≤ j) && decide (j ≤ 1000) && decide (i.length ≤ 1000)) (.ok (.tup (List.replicate j.toNat i).flatten) st)
  | _, _, _ => .bad
def eqG (st : Store) (x y : D) : Option Bool := match (view st x).py, (view st y).py with
  | some a, some b => if SeqAt.shaped a = true ∧ SeqAt.shaped b = true then some (PyData.eqv a b) else none
  | _, _ => none
def eqD (st : Store) (x y : D) : Option Bool := match view st x, view st y with
  | .str a, .str b => some (decide (a = b))
  | _, _ => eqG st x y
def flatD : D → Bool
  | .non => true | .bl _ => true | .int _ => true | .str _ => true | _ => false
/-- == of flat values -/
def eqF : D → D → Bool
  | .non, .non => true
  | .bl a, .bl b => a == b
  | .bl a, .int b => (if a then 1 else 0) == b
  | .int a, .bl b => a == (if b then 1 else 0)
  | .int a, .int b => a == b
  | .str a, .str b => a == b
  | _, _ => false
def inD (x : D) (ys : List D) : Option Bool := if flatD x = true ∧ ys.all flatD = true then some (ys.any fun y => eqF y x) else none
def hasIn (st : Store) (x y : D) : Option Bool := match view st y with
  | .tup ys => inD x ys
  | .lst ys => inD x ys
  | .dct es => if isKey x = true then some (dget es x).isSome else none
  | .str s => (match x with
    | .str z => some (!(Builtin.Str.occurrences s z 0 s.length 1).isEmpty)
    | _ => none)
  | _ => none
def ordI (op : COp) (i j : Int) : Option Bool := match op with
  | .lt => some (decide (i < j))
  | .le => some (decide (i ≤ j))
  | .gt => some (decide (j < i))
  | .ge => some (decide (j ≤ i))
  | _ => none
def isNon : D → Bool
  | .non => true
  | _ => false
def isBl : D → Bool → Bool
  | .bl a, b => a == b
  | _, _ => false
def isB (x : D) : D → Option Bool
  | .non => some (isNon x)
  | .bl b => some (isBl x b)
  | _ => none
def ordB (op : COp) : D → D → Option Bool
  | .int i, .int j => ordI op i j
  | _, _ => none
def cmpB (op : COp) (x y : D) (st : Store) : Option Bool := match op with
  | .eq => eqD st x y
  | .ne => (eqD st x y).map (!·)
  | .in_ => hasIn st x y
  | .notin => (hasIn st x y).map (!·)
  | .is => isB x y
  | .isnot => (isB x y).map (!·)
  | op => ordB op x y
def cmpD (op : COp) (x y : D) (st : Store) : R D := opt ((cmpB op x y st).map .bl) st
def ixB (x y : D) (st : Store) : Option D := match view st x, y with
  | .tup xs, .int i => L2.atI xs i
  | .lst xs, .int i => L2.atI xs i
  | .str s, .int i => if s.length ≤ line then (L2.atI s.cps.toList i).map fun c => .str ⟨#[c]⟩ else none
  | .dct es, k => if isKey k = true then dget es k else none
  | _, _ => none
def ixD (x y : D) (st : Store) : R D := opt (ixB x y st) st
def cut {α : Type} (xs : List α) (lo hi : Option Int) : List α := (xs.drop (HT.sIx xs.length 0 lo)).take (HT.sIx xs.length xs.length hi - HT.sIx xs.length 0 lo)
def slB (x : D) (lo hi : Option Int) (st : Store) : Option D := match view st x with
  | .tup xs => some (.tup (cut xs lo hi))
  | .lst xs => some (.lst (cut xs lo hi))
  | .str s => if s.length ≤ line then some (.str ⟨(cut s.cps.toList lo hi).toArray⟩) else none
  | _ => none
def intsOf : List D → Option (List Int)
  | [] => some []
  | .int i :: r => (intsOf r).map (i :: ·)
  | _ => none
def blsOf : List D → Option (List Bool)
  | [] => some []
  | .bl i :: r => (blsOf r).map (i :: ·)
  | _ => none
def maxL : Int → List Int → Int
  | m, [] => m
  | m, n :: r => maxL (if n > m then n else m) r
def minL : Int → List Int → Int
  | m, [] => m
  | m, n :: r => minL (if n < m then n else m) r
def insI (x : Int) : List Int → List Int
  | [] => [x]
  | y :: r => if x ≤ y then x :: y :: r else y :: insI x r
def sortI : List Int → List Int
  | [] => []
  | x :: r => insI x (sortI r)
def dedupI : List Int → List Int
  | [] => []
  | x :: r => if x ∈ r then dedupI r else x :: dedupI r
def lenB : D → Option D
  | .tup xs => some (.int xs.length)
  | .lst xs => some (.int xs.length)
  | .dct xs => some (.int xs.length)
  | .str s => if s.length ≤ line then some (.int s.length) else none
  | _ => none
def absB : D → Option D
  | .int i => some (.int (if i < 0 then -i else i))
  | _ => none
def intB : D → Option D
  | .int i => some (.int i)
  | .bl b => some (.int (if b then 1 else 0))
  | _ => none
def tupB : D → Option D
  | .lst xs => some (.tup xs)
  | .tup xs => some (.tup xs)
  | _ => none
def lstB : D → Option D
  | .lst xs => some (.lst xs)
  | .tup xs => some (.lst xs)
  | _ => none
def intsB (f : List Int → Option D) : D → Option D
  | .lst xs => (intsOf xs).bind f
  | _ => none
def blsB (f : List Bool → Option D) : D → Option D
  | .lst xs => (blsOf xs).bind f
  | _ => none
def maxB : List Int → Option D
  | n :: ns => some (.int (maxL n ns))
  | [] => none
def minB : List Int → Option D
  | n :: ns => some (.int (minL n ns))
  | [] => none
def strB : D → Option D
  | .int i => if i.natAbs.log2 < 1920 then some (.str (toString i)) else none
  | _ => none
def bi1 (f : Bi) (x : D) (st : Store) : Option D := match f with
  | .len => lenB (view st x)
  | .abs => absB (view st x)
  | .int => intB (view st x)
  | .tuple => tupB (view st x)
  | .list => lstB (view st x)
  | .sum => intsB (fun ns => some (.int ns.sum)) (view st x)
  | .all => blsB (fun bs => some (.bl (bs.all id))) (view st x)
  | .any => blsB (fun bs => some (.bl (bs.any id))) (view st x)
  | .max1 => intsB maxB (view st x)
  | .min1 => intsB minB (view st x)
  | .sorted => intsB (fun ns => some (.lst ((sortI ns).map .int))) (view st x)
  | .sortedSet => intsB (fun ns => if ns.length < 64 then some (.lst ((sortI (dedupI ns)).map .int)) else none) (view st x)
  | .str => strB (view st x)
  | _ => none
def bi2 (f : Bi) (x y : D) (st : Store) : Option D := match f, x, y with
  | .max2, .int i, .int j => some (.int (if j > i then j else i))
  | .min2, .int i, .int j => some (.int (if j < i then j else i))
  | _, _, _ => none
def bd1 (f : Bi) (xs : List D) (st : Store) : R D := match xs with
  | [x] => opt (bi1 f x st) st
  | _ => .bad
def bd2 (f : Bi) (xs : List D) (st : Store) : R D := match xs with
  | [x, y] => opt (bi2 f x y st) st
  | _ => .bad
def biD (f : Bi) (xs : List D) (st : Store) : R D := match f with
  | .max2 => bd2 f xs st
  | .min2 => bd2 f xs st
  | _ => bd1 f xs st
def posOf (x : D) : List D → Nat → Option Nat
  | [], _ => none
  | y :: r, i => if eqF y x = true then some i else posOf x r (i + 1)
/-- the receiver is of the method's kind -/
def mtTy : Mt → D → Bool
  | .get, .dct _ => true
  | .setdefault, .dct _ => true
  | .join, .str _ => true
  | .tindex, .tup _ => true
  | .sindex, .str _ => true
  | .get, _ => false
  | .setdefault, _ => false
  | .join, _ => false
  | .tindex, _ => false
  | .sindex, _ => false
  | _, .lst _ => true
  | _, _ => false
/-- a cell that is a list -/
def lstAt (st : Store) : D → Option (Nat × List D)
  | .ref n => (match st[n]? with
    | some (.lst ys) => some (n, ys)
    | _ => none)
  | _ => none
def apB (o : D) (xs : List D) (st : Store) : R D := match lstAt st o, xs with
  | some (n, ys), [y] => guardB (decide (ys.length < line)) (.ok .non (st.set n (.lst (ys ++ [y]))))
  | _, _ => .bad
def insB (o : D) (xs : List D) (st : Store) : R D := match lstAt st o, xs with
  | some (n, ys), [.int i, y] => guardB (decide (ys.length < line) && decide (0 ≤ i) && decide (i < 9223372036854775808)) (.ok .non (st.set n (.lst (ys.take i.toNat ++ [y] ++ ys.drop i.toNat))))
  | _, _ => .bad
def extB (o : D) (xs : List D) (st : Store) : R D := match lstAt st o, xs with
  | some (n, ys), [y] => (match view st y with
    | .lst zs => guardB (decide (ys.length + zs.length ≤ line)) (.ok .non (st.set n (.lst (ys ++ zs))))
    | .tup zs => guardB (decide (ys.length + zs.length ≤ line)) (.ok .non (st.set n (.lst (ys ++ zs))))
    | _ => .bad)
  | _, _ => .bad
def popB (o : D) (xs : List D) (st : Store) : R D := match lstAt st o, xs with
  | some (n, ys), [] => (match ys[ys.length - 1]? with
    | some y => .ok y (st.set n (.lst ys.dropLast))
    | none => .bad)
  | _, _ => .bad
def popAtB (o : D) (xs : List D) (st : Store) : R D := match lstAt st o, xs with
  | some (n, ys), [.int i] => (match L2.ixN ys.length i with
    | some k => (match ys[k]? with
      | some y => guardB (decide (-9223372036854775808 ≤ i) && decide (i < 9223372036854775808)) (.ok y (st.set n (.lst (ys.eraseIdx k))))
      | none => .bad)
    | none => .bad)
  | _, _ => .bad
def idxB (o : D) (xs : List D) (st : Store) : R D := match view st o, xs with
  | .lst ys, [y] => guardB (flatD y && ys.all flatD) (opt ((posOf y ys 0).map fun (k : Nat) => D.int (k : Int)) st)
  | _, _ => .bad
def getB (o : D) (xs : List D) (st : Store) : R D := match view st o, xs with
  | .dct es, [k, d] => guardB (isKey k) (.ok ((dget es k).getD d) st)
  | _, _ => .bad
def strsOf : List D → Option (List Str)
  | [] => some []
  | .str s :: r => (strsOf r).map (s :: ·)
  | _ => none
def joinB (o : D) (xs : List D) (st : Store) : R D := match view st o, xs with
  | .str a, [y] => (match view st y with
    | .lst ys => (match strsOf ys with
      | some ss => guardB (decide ((ss.map (·.length)).sum + ss.length * a.length ≤ 16777216)) (.ok (.str (Str.join a ss)) st)
      | none => .bad)
    | _ => .bad)
  | _, _ => .bad
def posS (x : Str) : List Str → Nat → Option Nat
  | [], _ => none
  | y :: r, i => if y = x then some i else posS x r (i + 1)
def tidxB (o : D) (xs : List D) (st : Store) : R D := match view st o, xs with
  | .tup ys, [.str x] => (match strsOf ys with
    | some ss => opt ((posS x ss 0).map fun (k : Nat) => D.int (k : Int)) st
    | none => .bad)
  | _, _ => .bad
def sidxB (o : D) (xs : List D) (st : Store) : R D := match view st o, xs with
  | .str a, [.str b] => (match Builtin.Str.occurrences a b 0 a.length 1 with
    | i :: _ => .ok (.int (i : Nat)) st
    | [] => .bad)
  | _, _ => .bad
def mtD (m : Mt) (o : D) (xs : List D) (st : Store) : R D := match m with
  | .append => apB o xs st
  | .insert => insB o xs st
  | .extend => extB o xs st
  | .pop => popB o xs st
  | .popAt => popAtB o xs st
  | .index => idxB o xs st
  | .get => getB o xs st
  | .join => joinB o xs st
  | .tindex => tidxB o xs st
  | .sindex => sidxB o xs st
  | _ => .bad
def isTy : D → Ty → Bool
  | .int _, .int => true
  | .bl _, .int => true
  | .bl _, .bool => true
  | .str _, .str => true
  | .tup _, .tuple => true
  | .lst _, .list => true
  | _, _ => false
def isPl : D → Bool
  | .ref _ => false
  | .fn _ _ => false
  | _ => true
/-- a copy without cells: the callee's cells below rs.length are the caller's rs, all others stand still from now on -/
def mapO {α β : Type} (f : α → Option β) : List α → Option (List β)
  | [] => some []
  | x :: r => (f x).bind fun y => (mapO f r).map fun ys => y :: ys
def frz (rs : List Nat) (st : Store) : Nat → D → Option D
  | 0, _ => none
  | n + 1, .tup xs => (mapO (frz rs st n) xs).map .tup
  | n + 1, .lst xs => (mapO (frz rs st n) xs).map .lst
  | n + 1, .dct xs => (mapO (frz rs st n) xs).map .dct
  | n + 1, .ref k => if k < rs.length then (rs[k]?).map .ref else (st[k]?).bind (frz rs st n)
  | _ + 1, .fn _ _ => none
  | _ + 1, d => some d
def back (rs : List Nat) (st : Store) (d : D) : Option D := if d.pure = true then some d else frz rs st 50 d
/-- the cells rs take what the callee has left in its first cells -/
def putBack (rs : List Nat) (cs : Store) : Nat → List Nat → Store → Option Store
  | _, [], st => some st
  | i, r :: q, st => (cs[i]?).bind fun c => (back rs cs c).bind fun c' => putBack rs cs (i + 1) q (st.set r c')
mutual
/-- no list, dict, cell within -/
def D.clean : D → Bool
  | .ref _ => false
  | .lst _ => false
  | .dct _ => false
  | .fn _ _ => false
  | .tup xs => D.cleanL xs
  | _ => true
def D.cleanL : List D → Bool
  | [] => true
  | x :: xs => D.clean x && D.cleanL xs
end
/-- a cell whose items are clean -/
def cleanCell : D → Bool
  | .lst xs => D.cleanL xs
  | .dct xs => D.cleanL xs
  | _ => false
/-- the arguments as the callee has them; the cells that it may change (io), the cells that it may look at -/
def prep (io : List Nat) (st : Store) : Nat → Nat → List D → Option (List D × List Nat × List Nat)
  | _, _, [] => some ([], [], [])
  | i, j, x :: r => if io.contains i then (match x with
      | .ref n => (prep io st (i + 1) (j + 1) r).map fun p => (.ref j :: p.1, n :: p.2.1, p.2.2)
      | _ => none)
    else if x.pure = true then (prep io st (i + 1) j r).map fun p => (x :: p.1, p.2)
    else (match x with
      | .ref n => (st[n]?).bind fun c => if c.pure = true then (prep io st (i + 1) j r).map fun p => (c :: p.1, p.2.1, n :: p.2.2) else none
      | _ => none)
def cellsAt (st : Store) : List Nat → Option Store
  | [] => some []
  | r :: q => (st[r]?).bind fun c => (cellsAt st q).bind fun cs => if c.pure = true then some (c :: cs) else none
abbrev CallF := Nat → List D → Store → R D
/-- behind a call: d what came, cs' the callee's cells -/
def callBack (rs vs : List Nat) (fresh : Bool) (st : Store) (d : D) (cs' : Store) : R D :=
  match putBack rs cs' 0 rs st with
  | none => .bad
  | some st' => if fresh = true then (match d with
      | .ref k => (match cs'[k]? with
          | some c => guardB (decide (rs.length ≤ k) && c.pure && (cs'.take rs.length).all D.pure && vs.isEmpty) (.ok (.ref st'.length) (st' ++ [c]))
          | none => .bad)
      | _ => .bad)
    else match back rs cs' d with
      | some d' => guardB (vs.isEmpty || (d'.clean && (cs'.take rs.length).all cleanCell)) (.ok d' st')
      | none => .bad
def callIn (cf : CallF) (f : Nat) (xs : List D) (io : List Nat) (fresh : Bool) (st : Store) : R D :=
  match prep io st 0 0 xs with
  | none => .bad
  | some (ys, rs, vs) => match cellsAt st rs with
    | none => .bad
    | some cs => guardB (decide rs.Nodup && vs.all fun v => !rs.contains v) (match cf f ys cs with
      | .ok d cs' => callBack rs vs fresh st d cs'
      | _ => .bad)

def foldR {β : Type} (f : D → β → Store → R β) : List D → β → Store → R β
  | [], b, st => .ok b st
  | x :: r, b, st => (f x b st).bind fun b' st' => foldR f r b' st'
def wipe (en : En) : List Nat → En
  | [] => en
  | v :: vs => (wipe en vs).set v none
abbrev Guard := List (Nat × D)
def held (g : Guard) (st : Store) : Bool := g.all fun p => match st[p.1]? with | some c => D.beq c p.2 | none => false
def pairs : Nat → List D → List D
  | _, [] => []
  | i, x :: r => .tup [.int i, x] :: pairs (i + 1) r
def zips : List D → List D → List D
  | x :: r, y :: q => .tup [x, y] :: zips r q
  | _, _ => []
def rangeD (lo : Int) (n : Nat) : List D := (List.range n).map fun i => .int (lo + (i : Nat))
def rgOk (i : Int) : Bool := decide (-4611686018427387904 ≤ i) && decide (i < 4611686018427387904)
def guardOf (st : Store) (d : D) : Guard := match d with
  | .ref n => (match st[n]? with | some c => [(n, c)] | none => [])
  | _ => []
def iterOf (st : Store) (d : D) : Option (List D × Guard) := match view st d with
  | .tup xs => some (xs, [])
  | .lst xs => some (xs, guardOf st d)
  | .str s => some (s.cps.toList.map fun c => .str ⟨#[c]⟩, [])
  | _ => none
/-- an attribute, an attribute stored -/
def fget (f : Str) : List D → Option D
  | [] => none
  | .tup [.str g, x] :: r => if g = f then some x else fget f r
  | _ :: r => fget f r
def fput (f : Str) (v : D) : List D → List D
  | [] => [.tup [.str f, v]]
  | .tup [.str g, x] :: r => if g = f then .tup [.str g, v] :: r else .tup [.str g, x] :: fput f v r
  | e :: r => e :: fput f v r
/-- an instance among the cells: its class, its attributes -/
def insAt (st : Store) : D → Option (Nat × Str × List D)
  | .ref n => (match st[n]? with
    | some (.fn c es) => some (n, c, es)
    | _ => none)
  | _ => none
def fldB (c f : Str) (x : D) (st : Store) : R D := match insAt st x with
  | some (_, c', es) => guardB (decide (c' = c)) (opt (fget f es) st)
  | none => .bad
def setB (c f : Str) (x y : D) (st : Store) : R Unit := match insAt st x with
  | some (n, c', es) => guardB (decide (c' = c) && decide (es.length < 1000)) (.ok () (st.set n (.fn c' (fput f y es))))
  | none => .bad
def revB (x : D) (st : Store) : R D := match view st x with
  | .lst xs => .ok (.lst xs.reverse) st
  | _ => .bad
def noneD (x : D) (st : Store) (v : D) : R D := match v with
  | .non => .ok x st
  | _ => .bad
/-- a method of an instance, not hidden by an attribute -/
def isM (c m : Str) (x : D) (st : Store) : Bool := match insAt st x with
  | some (_, c', es) => decide (c' = c) && (fget m es).isNone
  | none => false
def trim (n : Nat) (en : En) (st : Store) : Store :=
  if en.all (fun o => match o with | some d => d.bel n | none => true) && (st.take n).all (D.bel n) then st.take n else st
def dictD : List D → List D → List D → Option (List D)
  | [], [], acc => some acc
  | k :: ks, v :: vs, acc => if isKey k = true then dictD ks vs (dput acc k v) else none
  | _, _, _ => none

mutual
def evE (cf : CallF) : C → En → Store → R D
  | .lit d, _, st => .ok d st
  | .var i, en, st => (match en[i]? with
    | some (some d) => .ok d st
    | _ => .bad)
  | .tup es, en, st => (evEs cf es en st).bind fun xs s1 => mkTup xs s1
  | .list es, en, st => (evEs cf es en st).bind fun xs s1 => mkLst xs s1
  | .dict ks vs, en, st => (evEs cf vs en st).bind fun xs s1 => opt ((dictD ks xs []).map .dct) s1
  | .mut e, en, st => (evE cf e en st).bind fun x s1 => match x with
    | .lst _ => .ok (.ref s1.length) (s1 ++ [x])
    | .dct _ => .ok (.ref s1.length) (s1 ++ [x])
    | _ => .bad
  | .bin op a b, en, st => (evE cf a en st).bind fun x s1 => (evE cf b en s1).bind fun y s2 => binD op x y s2
  | .neg a, en, st => (evE cf a en st).bind fun x s1 => (match x with
    | .int i => .ok (.int (-i)) s1
    | _ => .bad)
  | .cmp op a b, en, st => (evE cf a en st).bind fun x s1 => (evE cf b en s1).bind fun y s2 => cmpD op x y s2
  | .and a b, en, st => (evE cf a en st).bind fun x s1 => (match truth s1 x with
    | some true => evE cf b en s1
    | some false => .ok x s1
    | none => .bad)
  | .or a b, en, st => (evE cf a en st).bind fun x s1 => (match truth s1 x with
    | some true => .ok x s1
    | some false => evE cf b en s1
    | none => .bad)
  | .not a, en, st => (evE cf a en st).bind fun x s1 => opt ((truth s1 x).map fun b => .bl (!b)) s1
  | .ife c a b, en, st => (evE cf c en st).bind fun x s1 => (match truth s1 x with
    | some true => evE cf a en s1
    | some false => evE cf b en s1
    | none => .bad)
  | .ix a b, en, st => (evE cf a en st).bind fun x s1 => (evE cf b en s1).bind fun y s2 => ixD x y s2
  | .sl a lo hi, en, st => (evE cf a en st).bind fun x s1 => (evO cf lo en s1).bind fun l s2 => (evO cf hi en s2).bind fun h s3 => opt (slB x l h s3) s3
  | .call f es io fresh, en, st => (evEs cf es en st).bind fun xs s1 => callIn cf f xs io fresh s1
  | .callS f es, en, st => (evEs cf es en st).bind fun xs s1 => cf f xs s1
  | .bi f es, en, st => (evEs cf es en st).bind fun xs s1 => biD f xs s1
  | .mt m o es, en, st => (evE cf o en st).bind fun x s1 => guardB (mtTy m (view s1 x)) ((evEs cf es en s1).bind fun xs s2 => mtD m x xs s2)
  | .fld c o f, en, st => (evE cf o en st).bind fun x s1 => fldB c f x s1
  | .new c i es, en, st => (evEs cf es en st).bind fun xs s1 => (cf i (.ref s1.length :: xs) (s1 ++ [.fn c []])).bind fun v s2 => noneD (.ref s1.length) s2 v
  | .meth c m i o es, en, st => (evE cf o en st).bind fun x s1 => guardB (isM c m x s1) ((evEs cf es en s1).bind fun xs s2 => cf i (x :: xs) s2)
  | .rev e, en, st => (evE cf e en st).bind fun x s1 => revB x s1
  | .isi a ts, en, st => (evE cf a en st).bind fun x s1 => guardB (isPl (view s1 x)) (.ok (.bl (ts.any (isTy (view s1 x)))) s1)
  | .lc own t it cond elt, en, st => (evI cf it en st).bind fun p s1 =>
    (foldR (fun x acc s2 => (asT cf t x (wipe en own) s2).bind fun en2 s3 => (evCo cf cond en2 s3).bind fun b s4 =>
      if b = true then (evE cf elt en2 s4).bind fun y s5 => guardB (decide (acc.length < line) && held p.2 s5) (.ok (acc ++ [y]) s5) else guardB (held p.2 s4) (.ok acc s4)) p.1 [] s1).bind fun acc s6 => .ok (.lst acc) s6
  | .dc own t it cond k v, en, st => (evI cf it en st).bind fun p s1 =>
    (foldR (fun x acc s2 => (asT cf t x (wipe en own) s2).bind fun en2 s3 => (evCo cf cond en2 s3).bind fun b s4 =>
      if b = true then (evE cf k en2 s4).bind fun y s5 => (evE cf v en2 s5).bind fun z s6 => guardB (isKey y && decide (acc.length < line) && held p.2 s6) (.ok (dput acc y z) s6) else guardB (held p.2 s4) (.ok acc s4)) p.1 [] s1).bind fun acc s6 => .ok (.dct acc) s6
def evEs (cf : CallF) : Cs → En → Store → R (List D)
  | .nil, _, st => .ok [] st
  | .cons e es, en, st => (evE cf e en st).bind fun x s1 => (evEs cf es en s1).bind fun xs s2 => .ok (x :: xs) s2
def evO (cf : CallF) : Co → En → Store → R (Option Int)
  | .none, _, st => .ok none st
  | .some e, en, st => (evE cf e en st).bind fun x s1 => (match x with
    | .int i => .ok (some i) s1
    | _ => .bad)
def evCo (cf : CallF) : Co → En → Store → R Bool
  | .none, _, st => .ok true st
  | .some e, en, st => (evE cf e en st).bind fun x s1 => opt (truth s1 x) s1
def asT (cf : CallF) : T → D → En → Store → R En
  | .name i, d, en, st => .ok (en.set i (some d)) st
  | .tup ts, d, en, st => (match view st d with
    | .tup xs => asTs cf ts xs en st
    | _ => .bad)
  | .sub o i, d, en, st => (evE cf o en st).bind fun x s1 => (evE cf i en s1).bind fun y s2 => (match x with
    | .ref n => (match s2[n]? with
      | some (.lst xs) => (match y with
        | .int k => (match L2.ixN xs.length k with
          | some j => .ok en (s2.set n (.lst (xs.set j d)))
          | none => .bad)
        | _ => .bad)
      | some (.dct es) => guardB (isKey y && decide (es.length < line)) (.ok en (s2.set n (.dct (dput es y d))))
      | _ => .bad)
    | _ => .bad)
def asTs (cf : CallF) : Ts → List D → En → Store → R En
  | .nil, xs, en, st => (match xs with
    | [] => .ok en st
    | _ => .bad)
  | .cons t ts, xs, en, st => (match xs with
    | x :: r => (asT cf t x en st).bind fun en1 s1 => asTs cf ts r en1 s1
    | [] => .bad)
def evI (cf : CallF) : I → En → Store → R (List D × Guard)
  | .val e, en, st => (evE cf e en st).bind fun x s1 => opt (iterOf s1 x) s1
  | .range1 a, en, st => (evE cf a en st).bind fun x s1 => (match x with
    | .int j => guardB (rgOk j) (.ok (rangeD 0 j.toNat, []) s1)
    | _ => .bad)
  | .range2 a b, en, st => (evE cf a en st).bind fun x s1 => (evE cf b en s1).bind fun y s2 => (match x, y with
    | .int i, .int j => guardB (rgOk i && rgOk j) (.ok (rangeD i (j - i).toNat, []) s2)
    | _, _ => .bad)
  | .enum e, en, st => (evE cf e en st).bind fun x s1 => (match view s1 x with
    | .lst xs => .ok (pairs 0 xs, guardOf s1 x) s1
    | .tup xs => .ok (pairs 0 xs, []) s1
    | _ => .bad)
  | .zip a b, en, st => (evE cf a en st).bind fun x s1 => (evE cf b en s1).bind fun y s2 => (match view s2 x, view s2 y with
    | .lst xs, .lst ys => .ok (zips xs ys, guardOf s2 x ++ guardOf s2 y) s2
    | .tup xs, .tup ys => .ok (zips xs ys, []) s2
    | _, _ => .bad)
end

/-- name op= value: ints, texts -/
def augD (op : BOp) (x y : D) (st : Store) : R D := match x, y with
  | .int _, .int _ => if op = .pow then .bad else binD op x y st
  | .str _, .str _ => binD op x y st
  | _, _ => .bad
/-- a for's turns -/
def forR (asg : D → En → Store → R En) (body : En → Store → R (Fl × En)) (ws : List Nat) (n : Nat) (g : Guard) : List D → En → Store → R (Fl × En)
  | [], en, st => .ok (.nx, en) st
  | x :: r, en, st => (asg x en st).bind fun en1 s1 => (body en1 s1).bind fun p s2 => match p.1 with
    | .brk => .ok (.nx, wipe p.2 ws) s2
    | .rt d => .ok (.rt d, p.2) s2
    | _ => guardB (held g s2) (forR asg body ws n g r (wipe p.2 ws) (trim n (wipe p.2 ws) s2))
/-- a while's turns: so many at most -/
def whR (test : En → Store → R Bool) (body : En → Store → R (Fl × En)) (ws : List Nat) (n : Nat) : Nat → En → Store → R (Fl × En)
  | 0, _, _ => .bad
  | k + 1, en, st => (test en st).bind fun b s1 => if b = true then (body en s1).bind fun p s2 => (match p.1 with
      | .brk => .ok (.nx, wipe p.2 ws) s2
      | .rt d => .ok (.rt d, p.2) s2
      | _ => whR test body ws n k (wipe p.2 ws) (trim n (wipe p.2 ws) s2)) else .ok (.nx, en) s1
def turns : Nat := 100000
def itB (y x : D) (st : Store) : R D := match lstAt st x, y with
  | some (_, xs), .int i => opt (L2.atI xs i) st
  | _, _ => .bad
def putB (x y d : D) (st : Store) : R Unit := match lstAt st x, y with
  | some (n, xs), .int k => (match L2.ixN xs.length k with
    | some j => .ok () (st.set n (.lst (xs.set j d)))
    | none => .bad)
  | _, _ => .bad
mutual
def evS (cf : CallF) : S → En → Store → R (Fl × En)
  | .asg t e, en, st => (evE cf e en st).bind fun x s1 => (asT cf t x en s1).bind fun en1 s2 => .ok (.nx, en1) s2
  | .aug i op e, en, st => (match en[i]? with
    | some (some d) => (evE cf e en st).bind fun y s1 => (augD op d y s1).bind fun z s2 => .ok (.nx, en.set i (some z)) s2
    | _ => .bad)
  | .expr e, en, st => (evE cf e en st).bind fun _ s1 => .ok (.nx, en) s1
  | .ret e, en, st => (evE cf e en st).bind fun x s1 => .ok (.rt x, en) s1
  | .retN, en, st => .ok (.rt .non, en) st
  | .ife c a b, en, st => (evE cf c en st).bind fun x s1 => (match truth s1 x with
    | some true => evSs cf a en s1
    | some false => evSs cf b en s1
    | none => .bad)
  | .for_ t it ws body, en, st => (evI cf it en st).bind fun p s1 => (forR (asT cf t) (evSs cf body) ws s1.length p.2 p.1 en s1)
  | .fld c o f e, en, st => (evE cf e en st).bind fun y s1 => (evE cf o en s1).bind fun x s2 => (setB c f x y s2).bind fun _ s3 => .ok (.nx, en) s3
  | .fldaug c o f op e, en, st => (evE cf o en st).bind fun x s1 => (fldB c f x s1).bind fun v s2 => (evE cf e en s2).bind fun y s3 => (augD op v y s3).bind fun w s4 => (setB c f x w s4).bind fun _ s5 => .ok (.nx, en) s5
  | .subaug o i op e, en, st => (evE cf o en st).bind fun x s1 => (evE cf i en s1).bind fun y s2 => (itB y x s2).bind fun v s3 => (evE cf e en s3).bind fun u s4 => (augD op v u s4).bind fun w s5 => (putB x y w s5).bind fun _ s6 => .ok (.nx, en) s6
  | .while_ c ws body, en, st => whR (fun en s => (evE cf c en s).bind fun x s1 => opt (truth s1 x) s1) (evSs cf body) ws st.length turns en st
  | .try_ body, en, st => evSs cf body en st
  | .nope, _, _ => .bad
  | .pass, en, st => .ok (.nx, en) st
  | .brk, en, st => .ok (.brk, en) st
  | .cont, en, st => .ok (.ct, en) st
def evSs (cf : CallF) : Ss → En → Store → R (Fl × En)
  | .nil, en, st => .ok (.nx, en) st
  | .cons s r, en, st => (evS cf s en st).bind fun p s1 => match p.1 with
    | .nx => evSs cf r p.2 s1
    | f => .ok (f, p.2) s1
end
/-- a def: how many parameters, how many names, its body -/
structure Fd where
  np : Nat
  nn : Nat
  body : Ss
def runFd (cf : CallF) (d : Fd) (xs : List D) (st : Store) : R D :=
  if xs.length = d.np then (evSs cf d.body (xs.map some ++ List.replicate (d.nn - d.np) none) st).bind fun p s1 => match p.1 with
    | .rt v => .ok v s1
    | .nx => .ok .non s1
    | _ => .bad
  else .bad
def callF (P : Nat → Option Fd) : Nat → CallF
  | 0, _, _, _ => .bad
  | k + 1, f, xs, st => match P f with
    | some d => runFd (callF P k) d xs st
    | none => .bad
end PyE

namespace PyE
open PySem PySem.Spec PyProof.Rows L2

def kD : Key → D
  | .inl i => .int i
  | .inr s => .str s
section
variable (H : Hp) (K : PySem.W.Frag) (μ : Nat → Addr) (n : Nat)
mutual
inductive DV : D → V → Prop
  | non : DV .non .non
  | bl (b : Bool) : DV (.bl b) (.bl b)
  | int (i : Int) : DV (.int i) (.int i)
  | str (s : Str) : DV (.str s) (.str s)
  | tup {xs : List D} {a : Addr} {vs : List V} : SqT K H a vs → DVs xs vs → DV (.tup xs) (.ref a)
  | lst {xs : List D} {a : Addr} {vs : List V} : Rd H a (.lst vs) → (∀ i, i < n → μ i ≠ a) → DVs xs vs → DV (.lst xs) (.ref a)
  | dct {es : List D} {a : Addr} {kvs : List (Key × V)} : H a = some (.dK kvs) → (∀ i, i < n → μ i ≠ a) → DKs es kvs → DV (.dct es) (.ref a)
  | ref {k : Nat} : k < n → DV (.ref k) (.ref (μ k))
inductive DVs : List D → List V → Prop
  | nil : DVs [] []
  | cons {x : D} {v : V} {xs : List D} {vs : List V} : DV x v → DVs xs vs → DVs (x :: xs) (v :: vs)
inductive DKs : List D → List (Key × V) → Prop
  | nil : DKs [] []
  | cons {k : Key} {x : D} {v : V} {es : List D} {kvs : List (Key × V)} : DV x v → DKs es kvs → DKs (.tup [kD k, x] :: es) ((k, v) :: kvs)
end
end

/-- a class by its name -/
def cAd (K : PySem.W.Frag) (c : Str) : Addr := match PySem.W.nsIn K mainGlobals c with
  | some (some (.ref a)) => a
  | _ => 0
/-- an instance's attributes -/
inductive DFs (H : Hp) (K : PySem.W.Frag) (μ : Nat → Addr) (n : Nat) : List D → List (Str × V) → Prop
  | nil : DFs H K μ n [] []
  | cons {f : Str} {x : D} {v : V} {es : List D} {fs : List (Str × V)} : DV H K μ n x v → DFs H K μ n es fs → DFs H K μ n (.tup [.str f, x] :: es) ((f, v) :: fs)
def CellOk (H : Hp) (K : PySem.W.Frag) (μ : Nat → Addr) (n : Nat) (c : D) (a : Addr) : Prop := match c with
  | .fn c es => ∃ dx fs, H a = some (.ins (cAd K c) dx fs) ∧ DFs H K μ n es fs
  | .lst xs => ∃ vs, H a = some (.lst vs) ∧ DVs H K μ n xs vs
  | .dct es => ∃ kvs, H a = some (.dK kvs) ∧ DKs H K μ n es kvs
  | _ => False
structure Sim (H : Hp) (K : PySem.W.Frag) (μ : Nat → Addr) (st : Store) : Prop where
  inj : ∀ i j, i < st.length → j < st.length → μ i = μ j → i = j
  cell : ∀ i c, st[i]? = some c → CellOk H K μ st.length c (μ i)
structure Ext (H : Hp) (μ : Nat → Addr) (n : Nat) (H' : Hp) (μ' : Nat → Addr) (n' : Nat) : Prop where
  le : n ≤ n'
  mu : ∀ i, i < n → μ' i = μ i
  fresh : ∀ i, n ≤ i → i < n' → H (μ' i) = none
  keep : ∀ a o, H a = some o → (∀ i, i < n → μ i ≠ a) → H' a = some o
  there : ∀ a, H' a = none → H a = none

section
variable {H H1 H2 H' : Hp} {K : PySem.W.Frag} {μ μ1 μ2 μ' : Nat → Addr} {n n1 n2 n' : Nat} {st st1 st2 st' : Store}
theorem Ext.refl : Ext H μ n H μ n := ⟨Nat.le_refl _, fun _ _ => rfl, fun i h1 h2 => absurd h2 (Nat.not_lt.mpr h1), fun _ _ h _ => h, fun _ h => h⟩
theorem Ext.trans (a : Ext H μ n H1 μ1 n1) (b : Ext H1 μ1 n1 H2 μ2 n2) : Ext H μ n H2 μ2 n2 where
  le := Nat.le_trans a.le b.le
  mu := fun i hi => (b.mu i (Nat.lt_of_lt_of_le hi a.le)).trans (a.mu i hi)
  fresh := fun i h1 h2 => by
    by_cases h : i < n1
    · rw [b.mu i h]; exact a.fresh i h1 h
    · exact a.there _ (b.fresh i (Nat.not_lt.mp h) h2)
  keep := fun c o e hc => by
    refine b.keep c o (a.keep c o e hc) fun i hi z => ?_
    by_cases h : i < n
    · exact hc i h ((a.mu i h).symm.trans z)
    · have := a.fresh i (Nat.not_lt.mp h) hi
      rw [z, e] at this; cases this
  there := fun c h => a.there c (b.there c h)
/-- an address out of the cells stays out of them -/
theorem Ext.out (x : Ext H μ n H' μ' n') {a : Addr} {o : HO} (h : H a = some o) (hn : ∀ i, i < n → μ i ≠ a) : ∀ i, i < n' → μ' i ≠ a := fun i hi z => by
  by_cases h1 : i < n
  · exact hn i h1 ((x.mu i h1).symm.trans z)
  · have := x.fresh i (Nat.not_lt.mp h1) hi
    rw [z, h] at this; cases this
/-- cells are lists and dicts -/
theorem Sim.kind (S : Sim H K μ st) {i : Nat} (hi : i < st.length) : (∃ vs, H (μ i) = some (.lst vs)) ∨ (∃ kvs, H (μ i) = some (.dK kvs)) ∨ ∃ C dx fs, H (μ i) = some (.ins C dx fs) := by
  have h := S.cell i st[i] (List.getElem?_eq_getElem hi)
  cases e : st[i] with
  | lst xs => rw [e] at h; obtain ⟨vs, h1, _⟩ := h; exact .inl ⟨vs, h1⟩
  | dct xs => rw [e] at h; obtain ⟨vs, h1, _⟩ := h; exact .inr (.inl ⟨vs, h1⟩)
  | fn c xs => rw [e] at h; obtain ⟨dx, fs, h1, _⟩ := h; exact .inr (.inr ⟨_, dx, fs, h1⟩)
  | _ => rw [e] at h; exact h.elim
theorem Sim.ne_tup (S : Sim H K μ st) {a : Addr} {vs : List V} (h : H a = some (.tup vs)) : ∀ i, i < st.length → μ i ≠ a := fun i hi z => by
  rcases S.kind hi with ⟨_, e⟩ | ⟨_, e⟩ | ⟨_, _, _, e⟩ <;> (rw [z, h] at e; cases e)
theorem Sim.ne_frz (S : Sim H K μ st) {a : Addr} {o : Obj} {u : HO} (h : H a = some (.frz o u)) : ∀ i, i < st.length → μ i ≠ a := fun i hi z => by
  rcases S.kind hi with ⟨_, e⟩ | ⟨_, e⟩ | ⟨_, _, _, e⟩ <;> (rw [z, h] at e; cases e)
theorem Ext.sqT (x : Ext H μ st.length H' μ' n') (S : Sim H K μ st) {a : Addr} {vs : List V} (h : SqT K H a vs) : SqT K H' a vs := by
  rcases h with (h | ⟨o, h⟩) | h
  · exact .inl (.inl (x.keep a _ h (S.ne_tup h)))
  · exact .inl (.inr ⟨o, x.keep a _ h (S.ne_frz h)⟩)
  · exact .inr h
theorem Ext.rd (x : Ext H μ n H' μ' n') {a : Addr} {u : HO} (h : Rd H a u) (hn : ∀ i, i < n → μ i ≠ a) : Rd H' a u := by
  rcases h with h | ⟨o, h⟩
  · exact .inl (x.keep a _ h hn)
  · exact .inr ⟨o, x.keep a _ h hn⟩
theorem Ext.rdOut (x : Ext H μ n H' μ' n') {a : Addr} {u : HO} (h : Rd H a u) (hn : ∀ i, i < n → μ i ≠ a) : ∀ i, i < n' → μ' i ≠ a := by
  rcases h with h | ⟨o, h⟩
  · exact x.out h hn
  · exact x.out h hn
mutual
theorem DV.mono (x : Ext H μ st.length H' μ' n') (S : Sim H K μ st) : ∀ {d : D} {v : V}, DV H K μ st.length d v → DV H' K μ' n' d v
  | _, _, .non => .non
  | _, _, .bl b => .bl b
  | _, _, .int i => .int i
  | _, _, .str s => .str s
  | _, _, .tup h1 h2 => .tup (x.sqT S h1) (DVs.mono x S h2)
  | _, _, .lst h1 h2 h3 => .lst (x.rd h1 h2) (x.rdOut h1 h2) (DVs.mono x S h3)
  | _, _, .dct h1 h2 h3 => .dct (x.keep _ _ h1 h2) (x.out h1 h2) (DKs.mono x S h3)
  | _, _, .ref (k := k) h => by rw [← x.mu k h]; exact .ref (Nat.lt_of_lt_of_le h x.le)
theorem DVs.mono (x : Ext H μ st.length H' μ' n') (S : Sim H K μ st) : ∀ {d : List D} {v : List V}, DVs H K μ st.length d v → DVs H' K μ' n' d v
  | _, _, .nil => .nil
  | _, _, .cons h t => .cons (DV.mono x S h) (DVs.mono x S t)
theorem DKs.mono (x : Ext H μ st.length H' μ' n') (S : Sim H K μ st) : ∀ {d : List D} {v : List (Key × V)}, DKs H K μ st.length d v → DKs H' K μ' n' d v
  | _, _, .nil => .nil
  | _, _, .cons h t => .cons (DV.mono x S h) (DKs.mono x S t)
end
theorem DVs.length : ∀ {xs : List D} {vs : List V}, DVs H K μ n xs vs → xs.length = vs.length
  | _, _, .nil => rfl
  | _, _, .cons _ t => by rw [List.length_cons, List.length_cons, DVs.length t]
theorem DKs.length : ∀ {xs : List D} {vs : List (Key × V)}, DKs H K μ n xs vs → xs.length = vs.length
  | _, _, .nil => rfl
  | _, _, .cons _ t => by rw [List.length_cons, List.length_cons, DKs.length t]
theorem DVs.get : ∀ {xs : List D} {vs : List V} {i : Nat} {x : D}, DVs H K μ n xs vs → xs[i]? = some x → ∃ v, vs[i]? = some v ∧ DV H K μ n x v
  | _, _, _, _, .nil, e => by simp at e
  | _, _, 0, _, .cons h t, e => by simp at e; subst e; exact ⟨_, rfl, h⟩
  | _, _, i + 1, x, .cons h t, e => by
    obtain ⟨v, h1, h2⟩ := DVs.get (i := i) (x := x) t (by simpa using e)
    exact ⟨v, by simpa using h1, h2⟩
theorem DVs.get' : ∀ {xs : List D} {vs : List V} {i : Nat} {v : V}, DVs H K μ n xs vs → vs[i]? = some v → ∃ x, xs[i]? = some x ∧ DV H K μ n x v
  | _, _, _, _, .nil, e => by simp at e
  | _, _, 0, _, .cons h t, e => by simp at e; subst e; exact ⟨_, rfl, h⟩
  | _, _, i + 1, x, .cons h t, e => by
    obtain ⟨v, h1, h2⟩ := DVs.get' (i := i) (v := x) t (by simpa using e)
    exact ⟨v, by simpa using h1, h2⟩
theorem DVs.append : ∀ {xs ys : List D} {vs ws : List V}, DVs H K μ n xs vs → DVs H K μ n ys ws → DVs H K μ n (xs ++ ys) (vs ++ ws)
  | _, _, _, _, .nil, s => s
  | _, _, _, _, .cons h t, s => .cons h (DVs.append t s)
theorem DVs.take : ∀ {xs : List D} {vs : List V} (k : Nat), DVs H K μ n xs vs → DVs H K μ n (xs.take k) (vs.take k)
  | _, _, 0, _ => .nil
  | _, _, _ + 1, .nil => .nil
  | _, _, k + 1, .cons h t => .cons h (DVs.take k t)
theorem DVs.drop : ∀ {xs : List D} {vs : List V} (k : Nat), DVs H K μ n xs vs → DVs H K μ n (xs.drop k) (vs.drop k)
  | _, _, 0, h => h
  | _, _, _ + 1, .nil => .nil
  | _, _, k + 1, .cons h t => DVs.drop k t
theorem DVs.set {x : D} {v : V} (h : DV H K μ n x v) : ∀ {xs : List D} {vs : List V} (i : Nat), DVs H K μ n xs vs → DVs H K μ n (xs.set i x) (vs.set i v)
  | _, _, _, .nil => .nil
  | _, _, 0, .cons _ t => .cons h t
  | _, _, i + 1, .cons q t => .cons q (DVs.set h i t)

theorem Ext.new {p : Addr} {o : HO} (hp : H p = none) : Ext H μ n (upd H p o) μ n where
  le := Nat.le_refl _
  mu := fun _ _ => rfl
  fresh := fun i h1 h2 => absurd h2 (Nat.not_lt.mpr h1)
  keep := fun a o e _ => by rw [upd_ne (ne_of_none e hp)]; exact e
  there := fun a h => by
    by_cases e : a = p
    · subst e; exact hp
    · rwa [upd_ne e] at h
theorem Sim.ne_none (S : Sim H K μ st) {a : Addr} (h : H a = none) : ∀ i, i < st.length → μ i ≠ a := fun i hi z => by
  rcases S.kind hi with ⟨_, e⟩ | ⟨_, e⟩ | ⟨_, _, _, e⟩ <;> (rw [z, h] at e; cases e)
theorem DFs.mono (x : Ext H μ st.length H' μ' n') (S : Sim H K μ st) : ∀ {d : List D} {v : List (Str × V)}, DFs H K μ st.length d v → DFs H' K μ' n' d v
  | _, _, .nil => .nil
  | _, _, .cons h t => .cons (DV.mono x S h) (DFs.mono x S t)
theorem DFs.length {d : List D} {v : List (Str × V)} (h : DFs H K μ n d v) : d.length = v.length := by
  induction h with
  | nil => rfl
  | cons _ _ ih => rw [List.length_cons, List.length_cons, ih]
theorem CellOk.mono (x : Ext H μ st.length H' μ' n') (S : Sim H K μ st) {c : D} {a a' : Addr} (e : H' a' = H a) (h : CellOk H K μ st.length c a) : CellOk H' K μ' n' c a' := by
  cases c with
  | lst xs => obtain ⟨vs, h1, h2⟩ := h; exact ⟨vs, e.trans h1, DVs.mono x S h2⟩
  | dct xs => obtain ⟨vs, h1, h2⟩ := h; exact ⟨vs, e.trans h1, DKs.mono x S h2⟩
  | fn c xs => obtain ⟨dx, fs, h1, h2⟩ := h; exact ⟨dx, fs, e.trans h1, DFs.mono x S h2⟩
  | _ => exact h.elim
theorem Sim.new {p : Addr} {o : HO} (S : Sim H K μ st) (hp : H p = none) : Sim (upd H p o) K μ st :=
  ⟨S.inj, fun i c e => (S.cell i c e).mono (Ext.new hp) S (upd_ne (S.ne_none hp i (List.getElem?_eq_some_iff.mp e).1))⟩
/-- the cell k is changed -/
theorem Ext.cell {k : Nat} {o : HO} (hk : k < n) (h0 : H (μ k) ≠ none) : Ext H μ n (upd H (μ k) o) μ n where
  le := Nat.le_refl _
  mu := fun _ _ => rfl
  fresh := fun i h1 h2 => absurd h2 (Nat.not_lt.mpr h1)
  keep := fun a o e hn => by rw [upd_ne (Ne.symm (hn k hk))]; exact e
  there := fun a h => by
    by_cases e : a = μ k
    · subst e; rw [upd_same] at h; cases h
    · rwa [upd_ne e] at h
theorem Sim.cellSet {k : Nat} {o : HO} {c : D} (S : Sim H K μ st) (hk : k < st.length) (ok : CellOk (upd H (μ k) o) K μ st.length c (μ k)) : Sim (upd H (μ k) o) K μ (st.set k c) := by
  have h0 : H (μ k) ≠ none := by rcases S.kind hk with ⟨_, e⟩ | ⟨_, e⟩ | ⟨_, _, _, e⟩ <;> (rw [e]; simp)
  refine ⟨fun i j hi hj => S.inj i j (by simpa using hi) (by simpa using hj), fun i d e => ?_⟩
  have hl : (st.set k c).length = st.length := List.length_set
  rw [hl]
  by_cases hik : k = i
  · subst hik
    rw [List.getElem?_set_self hk] at e
    cases e
    exact ok
  · rw [List.getElem?_set_ne hik] at e
    have hi := (List.getElem?_eq_some_iff.mp e).1
    exact (S.cell i d e).mono (Ext.cell hk h0) S (upd_ne fun z => hik (S.inj k i hk hi z.symm))
/-- an address becomes a new cell -/
def muAt (μ : Nat → Addr) (n : Nat) (a : Addr) : Nat → Addr := fun i => if i = n then a else μ i
theorem muAt_old {μ : Nat → Addr} {n i : Nat} {a : Addr} (h : i < n) : muAt μ n a i = μ i := by
  unfold muAt
  rw [if_neg (by omega)]
theorem muAt_new {μ : Nat → Addr} {n : Nat} {a : Addr} : muAt μ n a n = a := by
  unfold muAt
  rw [if_pos rfl]
theorem Ext.thaw {a : Addr} {o : HO} (h : H a = none) : Ext H μ n (upd H a o) (muAt μ n a) (n + 1) where
  le := Nat.le_succ _
  mu := fun i hi => muAt_old hi
  fresh := fun i h1 h2 => by
    have e : i = n := by omega
    subst e
    rw [muAt_new]; exact h
  keep := fun b u e _ => by rw [upd_ne (ne_of_none e h)]; exact e
  there := fun b e => by
    by_cases q : b = a
    · subst q; exact h
    · rwa [upd_ne q] at e
theorem Sim.thaw {a : Addr} {o : HO} {c : D} (S : Sim H K μ st) (h : H a = none) (ok : CellOk (upd H a o) K (muAt μ st.length a) (st.length + 1) c a) : Sim (upd H a o) K (muAt μ st.length a) (st ++ [c]) := by
  have out := S.ne_none h
  refine ⟨fun i j hi hj e => ?_, fun i d e => ?_⟩
  · rw [List.length_append, List.length_singleton] at hi hj
    by_cases h1 : i < st.length
    · by_cases h2 : j < st.length
      · rw [muAt_old h1, muAt_old h2] at e; exact S.inj i j h1 h2 e
      · have : j = st.length := by omega
        subst this
        rw [muAt_old h1, muAt_new] at e; exact absurd e (out i h1)
    · have : i = st.length := by omega
      subst this
      by_cases h2 : j < st.length
      · rw [muAt_old h2, muAt_new] at e; exact absurd e.symm (out j h2)
      · omega
  · rw [List.length_append, List.length_singleton]
    by_cases h1 : i < st.length
    · rw [List.getElem?_append_left h1] at e
      rw [muAt_old h1]
      exact (S.cell i d e).mono (Ext.thaw h) S (upd_ne (out i h1))
    · have hl := (List.getElem?_eq_some_iff.mp e).1
      rw [List.length_append, List.length_singleton] at hl
      have : i = st.length := by omega
      subst this
      rw [List.getElem?_append_right (Nat.le_refl _)] at e
      simp at e
      subst e
      rw [muAt_new]
      exact ok
end

/-- what the evaluator sees of the heap, where its cells lie, the store -/
structure Z where
  he : Hp
  mu : Nat → Addr
  st : Store
abbrev Z.n (z : Z) : Nat := z.st.length
structure Ok (K : PySem.W.Frag) (H : Hp) (z : Z) : Prop where
  sub : ∀ a o, z.he a = some o → H a = some o
  sim : Sim z.he K z.mu z.st
structure To (H : Hp) (z : Z) (H' : Hp) (z' : Z) : Prop where
  ext : Ext z.he z.mu z.n z'.he z'.mu z'.n
  hid : ∀ a o, H a = some o → z.he a = none → H' a = some o ∧ z'.he a = none
  there : ∀ a, H' a = none → H a = none
abbrev DVz (K : PySem.W.Frag) (z : Z) (d : D) (v : V) : Prop := DV z.he K z.mu z.n d v
abbrev DVsz (K : PySem.W.Frag) (z : Z) (d : List D) (v : List V) : Prop := DVs z.he K z.mu z.n d v
abbrev DKsz (K : PySem.W.Frag) (z : Z) (d : List D) (v : List (Key × V)) : Prop := DKs z.he K z.mu z.n d v
def EnvR (K : PySem.W.Frag) (z : Z) (en : En) (σ : L2.St) : Prop := en.length = σ.length ∧ ∀ (i : Nat) (d : D), en[i]? = some (some d) → ∃ v, σ[i]? = some (some v) ∧ DVz K z d v
section
variable {K : PySem.W.Frag} {H H1 H2 H' : Hp} {z z1 z2 z' : Z} {en : En} {σ : L2.St} {d : D} {v : V}
theorem To.refl : To H z H z := ⟨.refl, fun _ _ h e => ⟨h, e⟩, fun _ h => h⟩
theorem To.trans (a : To H z H1 z1) (b : To H1 z1 H2 z2) : To H z H2 z2 :=
  ⟨a.ext.trans b.ext, fun c o h e => by
    obtain ⟨h1, e1⟩ := a.hid c o h e
    exact b.hid c o h1 e1, fun c h => a.there c (b.there c h)⟩
theorem Ok.dv (ok : Ok K H z) (t : To H z H' z') (h : DVz K z d v) : DVz K z' d v := h.mono t.ext ok.sim
theorem Ok.dvs (ok : Ok K H z) (t : To H z H' z') {ds : List D} {vs : List V} (h : DVsz K z ds vs) : DVsz K z' ds vs := h.mono t.ext ok.sim
theorem Ok.env (ok : Ok K H z) (t : To H z H' z') (h : EnvR K z en σ) : EnvR K z' en σ := ⟨h.1, fun i d e => by
  obtain ⟨v, h1, h2⟩ := h.2 i d e
  exact ⟨v, h1, ok.dv t h2⟩⟩
theorem Ok.rd (ok : Ok K H z) {a : Addr} {u : HO} (h : Rd z.he a u) : Rd H a u := by
  rcases h with h | ⟨o, h⟩
  · exact .inl (ok.sub _ _ h)
  · exact .inr ⟨o, ok.sub _ _ h⟩
theorem Ok.sqT (ok : Ok K H z) {a : Addr} {vs : List V} (h : SqT K z.he a vs) : SqT K H a vs := by
  rcases h with h | h
  · exact .inl (ok.rd h)
  · exact .inr h
theorem Ok.none (ok : Ok K H z) {a : Addr} (h : H a = Option.none) : z.he a = Option.none := by
  cases e : z.he a with
  | none => rfl
  | some o => rw [ok.sub a o e] at h; cases h
theorem EnvR.set (h : EnvR K z en σ) (hv : DVz K z d v) (i : Nat) : EnvR K z (en.set i (some d)) (σ.set i (some v)) := by
  refine ⟨by rw [List.length_set, List.length_set]; exact h.1, fun j e hj => ?_⟩
  by_cases hij : i = j
  · subst hij
    by_cases hl : i < en.length
    · rw [List.getElem?_set_self hl] at hj
      cases hj
      exact ⟨v, by rw [List.getElem?_set_self (by rw [← h.1]; exact hl)], hv⟩
    · rw [List.getElem?_eq_none (by rw [List.length_set]; omega)] at hj; cases hj
  · rw [List.getElem?_set_ne hij] at hj ⊢
    exact h.2 j e hj
/-- a new object, seen -/
def Z.put (z : Z) (p : Addr) (o : HO) : Z := { z with he := upd z.he p o }
theorem Ok.put (ok : Ok K H z) {p : Addr} {o : HO} (hp : H p = Option.none) : Ok K (upd H p o) (z.put p o) :=
  ⟨fun a u e => by
    have e : upd z.he p o a = some u := e
    by_cases q : a = p
    · subst q; rw [upd_same] at e ⊢; exact e
    · rw [upd_ne q] at e ⊢; exact ok.sub a u e, ok.sim.new (ok.none hp)⟩
theorem To.put (ok : Ok K H z) {p : Addr} {o : HO} (hp : H p = Option.none) : To H z (upd H p o) (z.put p o) :=
  ⟨Ext.new (ok.none hp), fun a u e q => by
    have hne : a ≠ p := ne_of_none e hp
    exact ⟨by rw [upd_ne hne]; exact e, by show upd z.he p o a = _; rw [upd_ne hne]; exact q⟩, fun a e => by
    by_cases q : a = p
    · subst q; exact hp
    · rwa [upd_ne q] at e⟩
/-- a new object, not seen -/
theorem Ok.hide (ok : Ok K H z) {p : Addr} {o : HO} (hp : H p = Option.none) : Ok K (upd H p o) z :=
  ⟨fun a u e => by
    have h1 := ok.sub a u e
    rw [upd_ne (ne_of_none h1 hp)]; exact h1, ok.sim⟩
/-- the cell k is changed -/
def Z.cell (z : Z) (k : Nat) (o : HO) (c : D) : Z := { z with he := upd z.he (z.mu k) o, st := z.st.set k c }
theorem Z.cell_n {k : Nat} {o : HO} {c : D} : (z.cell k o c).n = z.n := by unfold Z.n Z.cell; simp
theorem Sim.there {μ : Nat → Addr} {st : Store} (S : Sim H K μ st) {k : Nat} (hk : k < st.length) : H (μ k) ≠ Option.none := by
  rcases S.kind hk with ⟨_, e⟩ | ⟨_, e⟩ | ⟨_, _, _, e⟩ <;> (rw [e]; simp)
theorem Ok.cell (ok : Ok K H z) {k : Nat} {o : HO} {c : D} (hk : k < z.n) (h : CellOk (upd z.he (z.mu k) o) K z.mu z.n c (z.mu k)) : Ok K (upd H (z.mu k) o) (z.cell k o c) :=
  ⟨fun a u e => by
    have e : upd z.he (z.mu k) o a = some u := e
    by_cases q : a = z.mu k
    · subst q; rw [upd_same] at e ⊢; exact e
    · rw [upd_ne q] at e ⊢; exact ok.sub a u e, ok.sim.cellSet hk h⟩
theorem To.cell (ok : Ok K H z) {k : Nat} {o : HO} {c : D} (hk : k < z.n) : To H z (upd H (z.mu k) o) (z.cell k o c) := by
  refine ⟨?_, fun a u e q => ?_, fun a e => ?_⟩
  · rw [Z.cell_n]; exact Ext.cell hk (ok.sim.there hk)
  · have hne : a ≠ z.mu k := fun w => ok.sim.there hk (w ▸ q)
    exact ⟨by rw [upd_ne hne]; exact e, by show upd z.he (z.mu k) o a = _; rw [upd_ne hne]; exact q⟩
  · by_cases q : a = z.mu k
    · subst q; rw [upd_same] at e; cases e
    · rwa [upd_ne q] at e
end

def isBox : D → Bool
  | .lst _ => true
  | .dct _ => true
  | _ => false
def isBoxO : D → Bool
  | .fn _ _ => true
  | d => isBox d
/-- a list or dict that is new and that nobody else knows -/
def FreshOk (K : PySem.W.Frag) (z z' : Z) (d : D) (v : V) : Prop := ∃ (h0 : Hp) (a : Addr), v = .ref a ∧ h0 a = none ∧ Ext z.he z.mu z.n h0 z'.mu z'.n ∧ Sim h0 K z'.mu z'.st ∧ (match d with
  | .lst xs => ∃ vs, z'.he = upd h0 a (.lst vs) ∧ DVs h0 K z'.mu z'.n xs vs
  | .dct es => ∃ kvs, z'.he = upd h0 a (.dK kvs) ∧ DKs h0 K z'.mu z'.n es kvs
  | _ => True)
theorem FreshOk.trans {K : PySem.W.Frag} {H H1 : Hp} {z z1 z2 : Z} {d : D} {v : V} (a : To H z H1 z1) (b : FreshOk K z1 z2 d v) : FreshOk K z z2 d v := by
  obtain ⟨h0, p, e, hn, x, r⟩ := b
  exact ⟨h0, p, e, hn, a.ext.trans x, r⟩
def Frs (K : PySem.W.Frag) (fr : Bool) (z z' : Z) (d : D) (v : V) : Prop := fr = true → isBox d = true → FreshOk K z z' d v
theorem Frs.no {K : PySem.W.Frag} {z z' : Z} {d : D} {v : V} : Frs K false z z' d v := fun h => by cases h
def End (K : PySem.W.Frag) (fr : Bool) (H : Hp) (z : Z) (d : D) (st' : Store) (Q : VK) : Prop :=
  ∀ H' z' v, z'.st = st' → Ok K H' z' → To H z H' z' → DVz K z' d v → Frs K fr z z' d v → Q v H'
theorem End.trans {K : PySem.W.Frag} {fr : Bool} {H H1 : Hp} {z z1 : Z} {d : D} {st' : Store} {Q : VK} (a : To H z H1 z1) (q : End K fr H z d st' Q) : End K fr H1 z1 d st' Q :=
  fun H' z' v e ok t dv f => q H' z' v e ok (a.trans t) dv fun h1 h2 => (f h1 h2).trans a
theorem End.weak {K : PySem.W.Frag} {fr : Bool} {H : Hp} {z : Z} {d : D} {st' : Store} {Q : VK} (q : End K false H z d st' Q) : End K fr H z d st' Q :=
  fun H' z' v e ok t dv _ => q H' z' v e ok t dv .no
/-- nothing changes -/
theorem End.same {K : PySem.W.Frag} {H : Hp} {z : Z} {d : D} {Q : VK} {v : V} (q : End K false H z d z.st Q) (ok : Ok K H z) (dv : DVz K z d v) : Q v H := q H z v rfl ok .refl dv .no
/-- a new tuple, list -/
theorem End.tup {K : PySem.W.Frag} {fr : Bool} {H : Hp} {z : Z} {xs : List D} {vs : List V} {Q : VK} (q : End K fr H z (.tup xs) z.st Q) (ok : Ok K H z) (dv : DVsz K z xs vs) : ∀ p, H p = none → Q (.ref p) (upd H p (.tup vs)) := fun p hp =>
  q _ (z.put p (.tup vs)) _ rfl (ok.put hp) (.put ok hp) (.tup (.inl (.inl upd_same)) (ok.dvs (.put ok hp) dv)) fun _ h => by cases h
theorem End.lst {K : PySem.W.Frag} {fr : Bool} {H : Hp} {z : Z} {xs : List D} {vs : List V} {Q : VK} (q : End K fr H z (.lst xs) z.st Q) (ok : Ok K H z) (dv : DVsz K z xs vs) : ∀ p, H p = none → Q (.ref p) (upd H p (.lst vs)) := fun p hp =>
  q _ (z.put p (.lst vs)) _ rfl (ok.put hp) (.put ok hp) (.lst (.inl upd_same) (ok.sim.ne_none (ok.none hp)) (ok.dvs (.put ok hp) dv)) fun _ _ => ⟨z.he, p, rfl, ok.none hp, .refl, ok.sim, vs, rfl, dv⟩
theorem End.dct {K : PySem.W.Frag} {fr : Bool} {H : Hp} {z : Z} {es : List D} {kvs : List (Key × V)} {Q : VK} (q : End K fr H z (.dct es) z.st Q) (ok : Ok K H z) (dv : DKsz K z es kvs) : ∀ p, H p = none → Q (.ref p) (upd H p (.dK kvs)) := fun p hp =>
  q _ (z.put p (.dK kvs)) _ rfl (ok.put hp) (.put ok hp) (.dct upd_same (ok.sim.ne_none (ok.none hp)) (dv.mono (To.put ok hp).ext ok.sim)) fun _ _ => ⟨z.he, p, rfl, ok.none hp, .refl, ok.sim, kvs, rfl, dv⟩

section
variable {K : PySem.W.Frag} {H : Hp} {z : Z} {d : D} {v : V}
theorem view_ref {n : Nat} {c : D} (h : z.st[n]? = some c) : view z.st (.ref n) = c := by
  show (z.st[n]?).getD _ = c
  rw [h]; rfl
theorem view_cases (ok : Ok K H z) (dv : DVz K z d v) : (view z.st d = d ∧ ∀ n, d ≠ .ref n) ∨ ∃ n c, d = .ref n ∧ n < z.n ∧ z.st[n]? = some c ∧ view z.st d = c ∧ v = .ref (z.mu n) ∧ CellOk z.he K z.mu z.n c (z.mu n) := by
  cases dv with
  | ref h =>
    rename_i k
    have e := List.getElem?_eq_getElem h
    exact .inr ⟨k, _, rfl, h, e, view_ref e, rfl, ok.sim.cell k _ e⟩
  | _ => exact .inl ⟨rfl, fun n => by intro z; cases z⟩
theorem view_tup {xs : List D} (ok : Ok K H z) (dv : DVz K z d v) (e : view z.st d = .tup xs) : ∃ a vs, v = .ref a ∧ SqT K z.he a vs ∧ DVsz K z xs vs := by
  rcases view_cases ok dv with ⟨h, _⟩ | ⟨n, c, _, _, _, h, _, k⟩
  · rw [h] at e; subst e
    cases dv with
    | tup h1 h2 => exact ⟨_, _, rfl, h1, h2⟩
  · rw [h] at e; subst e; exact k.elim
theorem view_lst {xs : List D} (ok : Ok K H z) (dv : DVz K z d v) (e : view z.st d = .lst xs) : ∃ a vs, v = .ref a ∧ Rd z.he a (.lst vs) ∧ DVsz K z xs vs := by
  rcases view_cases ok dv with ⟨h, _⟩ | ⟨n, c, _, _, _, h, hv, k⟩
  · rw [h] at e; subst e
    cases dv with
    | lst h1 _ h2 => exact ⟨_, _, rfl, h1, h2⟩
  · rw [h] at e; subst e
    obtain ⟨vs, h1, h2⟩ := k
    exact ⟨_, vs, hv, .inl h1, h2⟩
theorem view_dct {es : List D} (ok : Ok K H z) (dv : DVz K z d v) (e : view z.st d = .dct es) : ∃ a kvs, v = .ref a ∧ z.he a = some (.dK kvs) ∧ DKsz K z es kvs := by
  rcases view_cases ok dv with ⟨h, _⟩ | ⟨n, c, _, _, _, h, hv, k⟩
  · rw [h] at e; subst e
    cases dv with
    | dct h1 _ h2 => exact ⟨_, _, rfl, h1, h2⟩
  · rw [h] at e; subst e
    obtain ⟨vs, h1, h2⟩ := k
    exact ⟨_, vs, hv, h1, h2⟩
/-- what is no list, no dict shows itself -/
theorem view_flat (ok : Ok K H z) (dv : DVz K z d v) (h : isBoxO (view z.st d) = false) : view z.st d = d := by
  rcases view_cases ok dv with ⟨h, _⟩ | ⟨n, c, _, _, _, h1, hv, k⟩
  · exact h
  · rw [h1] at h
    cases c with
    | lst xs => cases h
    | dct xs => cases h
    | fn c xs => cases h
    | _ => exact k.elim
theorem view_int {i : Int} (ok : Ok K H z) (dv : DVz K z d v) (e : view z.st d = .int i) : d = .int i ∧ v = .int i := by
  have h := view_flat ok dv (by rw [e]; rfl)
  rw [h] at e; subst e; cases dv; exact ⟨rfl, rfl⟩
theorem view_str {i : Str} (ok : Ok K H z) (dv : DVz K z d v) (e : view z.st d = .str i) : d = .str i ∧ v = .str i := by
  have h := view_flat ok dv (by rw [e]; rfl)
  rw [h] at e; subst e; cases dv; exact ⟨rfl, rfl⟩
theorem view_bl {i : Bool} (ok : Ok K H z) (dv : DVz K z d v) (e : view z.st d = .bl i) : d = .bl i ∧ v = .bl i := by
  have h := view_flat ok dv (by rw [e]; rfl)
  rw [h] at e; subst e; cases dv; exact ⟨rfl, rfl⟩
theorem view_non (ok : Ok K H z) (dv : DVz K z d v) (e : view z.st d = .non) : d = .non ∧ v = .non := by
  have h := view_flat ok dv (by rw [e]; rfl)
  rw [h] at e; subst e; cases dv; exact ⟨rfl, rfl⟩
end

theorem bind_ok {α β : Type} {r : R α} {f : α → Store → R β} {b : β} {st' : Store} (h : r.bind f = .ok b st') : ∃ a s1, r = .ok a s1 ∧ f a s1 = .ok b st' := by
  cases r with
  | ok a s => exact ⟨a, s, rfl, h⟩
  | exc e s => cases h
  | bad => cases h
theorem opt_ok {α : Type} {o : Option α} {st st' : Store} {a : α} (h : opt o st = .ok a st') : o = some a ∧ st' = st := by
  cases o with
  | none => cases h
  | some b => cases h; exact ⟨rfl, rfl⟩
theorem guard_ok {α : Type} {b : Bool} {r : R α} {a : α} {st' : Store} (h : guardB b r = .ok a st') : b = true ∧ r = .ok a st' := by
  unfold guardB at h
  cases b with
  | true => exact ⟨rfl, h⟩
  | false => cases h
end PyE

namespace PyE
open PySem PySem.Spec PyProof.Rows L2

def bopOf : BOp → Operator
  | .add => .Add | .sub => .Sub | .mul => .Mult | .fdiv => .FloorDiv | .mod => .Mod | .pow => .Pow | .xor => .BitXor
def copOf : COp → CmpOp
  | .eq => .Eq | .ne => .NotEq | .lt => .Lt | .le => .LtE | .gt => .Gt | .ge => .GtE | .is => .Is | .isnot => .IsNot | .in_ => .In | .notin => .NotIn
def rD1 (K : PySem.W.Frag) (fr : Bool) (f : D → Store → R D) : V → Hp → VK → Prop := fun x H Q =>
  ∃ z dx d st', Ok K H z ∧ DVz K z dx x ∧ f dx z.st = .ok d st' ∧ End K fr H z d st' Q
def rD2 (K : PySem.W.Frag) (fr : Bool) (f : D → D → Store → R D) : R2 := fun x y H Q =>
  ∃ z dx dy d st', Ok K H z ∧ DVz K z dx x ∧ DVz K z dy y ∧ f dx dy z.st = .ok d st' ∧ End K fr H z d st' Q
theorem line_eq : line = sizeLine := by rw [sizeLine_eq]; rfl
theorem End.same' {K : PySem.W.Frag} {fr : Bool} {H : Hp} {z : Z} {d : D} {Q : VK} {v : V} (q : End K fr H z d z.st Q) (hb : isBox d = false) (ok : Ok K H z) (dv : DVz K z d v) : Q v H :=
  q H z v rfl ok .refl dv fun _ h => by rw [hb] at h; cases h
section
variable {X : Cx}
/-- list + list, of lists that are read -/
theorem op_catR : OpR X (binaryOp .Add) (fun x y H Q => ∃ l b xs zs, x = .ref l ∧ y = .ref b ∧ Rd H l (.lst xs) ∧ Rd H b (.lst zs) ∧ xs.length + zs.length ≤ sizeLine ∧ ∀ p, H p = none → Q (.ref p) (upd H p (.lst (xs ++ zs)))) := by
  intro pins s σ H x y v u Q I rx ry h
  obtain ⟨l, b, xs, zs, rfl, rfl, hH, hB, hz, q⟩ := h
  cases rx
  cases ry
  obtain ⟨z, its, n, r, e⟩ := hH.ok I.hok
  obtain ⟨z2, its2, n2, r2, e2⟩ := hB.ok I.hok
  have hl := r.length
  have hl2 := r2.length
  refine PySem.P.add_list e e2 ?_ (by rw [List.size_toArray, List.size_toArray]; omega)
  have ea : its.toArray ++ its2.toArray = (its ++ its2).toArray := by simp
  rw [ea]
  exact ⟨.ref _, _, I.lnew (t' := s.toks) (r.append r2) (by rw [List.length_append]; omega), rfl, q _ I.fresh⟩
theorem mulOk_C {i j : Int} (h : mulOk i j = true) : CMul i j := by
  unfold mulOk at h
  simp only [Bool.or_eq_true, Bool.and_eq_true, decide_eq_true_eq] at h
  unfold CMul
  rcases h with h | h
  · exact .inl ⟨by omega, by omega⟩
  · exact .inr ⟨by omega, by omega⟩
theorem nil_of_DVs {H : Hp} {K : PySem.W.Frag} {μ : Nat → Addr} {n : Nat} {xs : List D} (h : DVs H K μ n xs []) : xs = [] := by cases h; rfl
theorem DVs.nil_iff {H : Hp} {K : PySem.W.Frag} {μ : Nat → Addr} {n : Nat} {xs : List D} {vs : List V} (h : DVs H K μ n xs vs) : xs = [] ↔ vs = [] := by
  cases h with
  | nil => simp
  | cons a b => simp
theorem DVsz.rep {K : PySem.W.Frag} {z : Z} {ds : List D} {vs : List V} (h : DVsz K z ds vs) : ∀ n : Nat, DVsz K z (List.replicate n ds).flatten (List.replicate n vs).flatten
  | 0 => .nil
  | n + 1 => by
    rw [List.replicate_succ, List.flatten_cons, List.replicate_succ, List.flatten_cons]
    exact h.append (DVsz.rep h n)
theorem op_bin (op : BOp) : OpR X (binaryOp (bopOf op)) (rD2 X.K true (binD op)) := by
  intro pins s σ H x y v u Q I rx ry h
  obtain ⟨z, dx, dy, d, st', ok, vx, vy, he, q⟩ := h
  unfold binD at he
  split at he
  · rename_i hx hy
    obtain ⟨rfl, rfl⟩ := view_int ok vx hx
    obtain ⟨rfl, rfl⟩ := view_int ok vy hy
    cases he
    exact op_add pins s σ H _ _ v u Q I rx ry ⟨_, _, rfl, rfl, q.same' rfl ok (.int _)⟩
  · rename_i hx hy
    obtain ⟨rfl, rfl⟩ := view_str ok vx hx
    obtain ⟨rfl, rfl⟩ := view_str ok vy hy
    obtain ⟨hl, he⟩ := guard_ok he
    cases he
    exact op_add_str pins s σ H _ _ v u Q I rx ry ⟨_, _, rfl, rfl, by rw [← line_eq]; exact of_decide_eq_true hl, q.same' rfl ok (.str _)⟩
  · rename_i hx hy
    obtain ⟨a, vs, rfl, h1, h2⟩ := view_tup ok vx hx
    obtain ⟨b, ws, rfl, h3, h4⟩ := view_tup ok vy hy
    obtain ⟨hl, he⟩ := guard_ok he
    cases he
    have l1 := h2.length
    have l2 := h4.length
    have hz : vs.length + ws.length ≤ sizeLine := by rw [← line_eq, ← l1, ← l2]; exact of_decide_eq_true hl
    refine op_catA pins s σ H _ _ v u Q I rx ry ⟨a, b, vs, ws, rfl, rfl, ok.sqT h1, ok.sqT h3, hz, fun e => ?_, fun e1 e => ?_, fun _ _ => q.tup ok (h2.append h4)⟩
    · have e2 := h2.nil_iff.mpr e
      subst e2
      exact q.same' rfl ok (.tup h3 (by simpa using h4))
    · have e2 := h4.nil_iff.mpr e
      subst e2
      exact q.same' rfl ok (.tup h1 (by simpa using h2))
  · rename_i hx hy
    obtain ⟨a, vs, rfl, h1, h2⟩ := view_lst ok vx hx
    obtain ⟨b, ws, rfl, h3, h4⟩ := view_lst ok vy hy
    obtain ⟨hl, he⟩ := guard_ok he
    cases he
    have l1 := h2.length
    have l2 := h4.length
    have hz : vs.length + ws.length ≤ sizeLine := by rw [← line_eq, ← l1, ← l2]; exact of_decide_eq_true hl
    exact op_catR pins s σ H _ _ v u Q I rx ry ⟨a, b, vs, ws, rfl, rfl, ok.rd h1, ok.rd h3, hz, q.lst ok (h2.append h4)⟩
  · rename_i hx hy
    obtain ⟨rfl, rfl⟩ := view_int ok vx hx
    obtain ⟨rfl, rfl⟩ := view_int ok vy hy
    cases he
    exact op_sub pins s σ H _ _ v u Q I rx ry ⟨_, _, rfl, rfl, q.same' rfl ok (.int _)⟩
  · rename_i hx hy
    obtain ⟨rfl, rfl⟩ := view_int ok vx hx
    obtain ⟨rfl, rfl⟩ := view_int ok vy hy
    obtain ⟨hl, he⟩ := guard_ok he
    cases he
    exact op_mul pins s σ H _ _ v u Q I rx ry ⟨_, _, rfl, rfl, mulOk_C hl, q.same' rfl ok (.int _)⟩
  · rename_i hx hy
    obtain ⟨rfl, rfl⟩ := view_int ok vx hx
    obtain ⟨rfl, rfl⟩ := view_int ok vy hy
    obtain ⟨hl, he⟩ := guard_ok he
    simp only [Bool.and_eq_true, decide_eq_true_eq] at hl
    cases he
    exact op_fdiv pins s σ H _ _ v u Q I rx ry ⟨_, _, rfl, rfl, hl, q.same' rfl ok (.int _)⟩
  · rename_i hx hy
    obtain ⟨rfl, rfl⟩ := view_int ok vx hx
    obtain ⟨rfl, rfl⟩ := view_int ok vy hy
    obtain ⟨hl, he⟩ := guard_ok he
    simp only [decide_eq_true_eq] at hl
    cases he
    exact op_mod pins s σ H _ _ v u Q I rx ry ⟨_, _, rfl, rfl, hl, q.same' rfl ok (.int _)⟩
  · rename_i hx hy
    obtain ⟨rfl, rfl⟩ := view_int ok vx hx
    obtain ⟨rfl, rfl⟩ := view_int ok vy hy
    obtain ⟨hl, he⟩ := guard_ok he
    simp only [Bool.and_eq_true, decide_eq_true_eq] at hl
    cases he
    exact op_pow pins s σ H _ _ v u Q I rx ry ⟨_, _, rfl, rfl, ⟨hl.1.1, hl.1.2, by omega⟩, q.same' rfl ok (.int _)⟩
  · rename_i hx hy
    obtain ⟨rfl, rfl⟩ := view_int ok vx hx
    obtain ⟨rfl, rfl⟩ := view_int ok vy hy
    cases he
    exact op_xor pins s σ H _ _ v u Q I rx ry ⟨_, _, rfl, rfl, q.same' rfl ok (.int _)⟩
  · rename_i hx hy
    obtain ⟨a, vs, rfl, h1, h2⟩ := view_tup ok vx hx
    obtain ⟨rfl, rfl⟩ := view_int ok vy hy
    obtain ⟨hl, he⟩ := guard_ok he
    cases he
    simp only [Bool.and_eq_true, decide_eq_true_eq, Bool.not_eq_true'] at hl
    obtain ⟨⟨⟨l1, l2⟩, l3⟩, l4⟩ := hl
    have hl := h2.length
    refine op_repT pins s σ H _ _ v u Q I rx ry ⟨a, _, vs, rfl, rfl, ok.sqT h1, fun e => ?_, l2, l3, by omega, fun p hp => q.tup ok (DVsz.rep h2 _) p hp⟩
    have e2 := h2.nil_iff.mpr e
    rw [e2] at l1
    cases l1
  · cases he

mutual
theorem dp_of {H : Hp} {K : PySem.W.Frag} {z : Z} (ok : Ok K H z) : ∀ {d : D} {v : V} {p : PyData}, DVz K z d v → d.py = some p → Dp K H v p
  | _, _, _, .non, e => by simp [D.py] at e; subst e; exact .non
  | _, _, _, .bl b, e => by simp [D.py] at e; subst e; exact .bl b
  | _, _, _, .int b, e => by simp [D.py] at e; subst e; exact .int b
  | _, _, _, .str b, e => by simp [D.py] at e; subst e; exact .str b
  | _, _, _, .tup h1 h2, e => by
    simp only [D.py, Option.map_eq_some_iff] at e
    obtain ⟨ps, e1, e2⟩ := e
    subst e2
    exact .tup (ok.sqT h1) (dps_of ok h2 e1)
  | _, _, _, .lst h1 _ h2, e => by
    simp only [D.py, Option.map_eq_some_iff] at e
    obtain ⟨ps, e1, e2⟩ := e
    subst e2
    exact .lst (.inl (ok.rd h1)) (dps_of ok h2 e1)
  | _, _, _, .dct _ _ _, e => by simp [D.py] at e
  | _, _, _, .ref _, e => by simp [D.py] at e
theorem dps_of {H : Hp} {K : PySem.W.Frag} {z : Z} (ok : Ok K H z) : ∀ {d : List D} {v : List V} {p : List PyData}, DVsz K z d v → D.pyL d = some p → DpAll K H v p
  | _, _, _, .nil, e => by simp [D.pyL] at e; subst e; exact .nil
  | _, _, _, .cons h t, e => by
    simp only [D.pyL, Option.bind_eq_some_iff, Option.map_eq_some_iff] at e
    obtain ⟨a, e1, b, e2, e3⟩ := e
    subst e3
    exact .cons (dp_of ok h e1) (dps_of ok t e2)
end
theorem dp_view {H : Hp} {K : PySem.W.Frag} {z : Z} {d : D} {v : V} {p : PyData} (ok : Ok K H z) (dv : DVz K z d v) (e : (view z.st d).py = some p) : Dp K H v p := by
  rcases view_cases ok dv with ⟨h, _⟩ | ⟨n, c, _, _, _, h, hv, k⟩
  · rw [h] at e; exact dp_of ok dv e
  · rw [h] at e
    cases c with
    | lst xs =>
      obtain ⟨vs, h1, h2⟩ := k
      subst hv
      simp only [D.py, Option.map_eq_some_iff] at e
      obtain ⟨ps, e1, e2⟩ := e
      subst e2
      exact .lst (.inl (ok.rd (.inl h1))) (dps_of ok h2 e1)
    | dct xs => simp [D.py] at e
    | fn _ xs => simp [D.py] at e
    | _ => exact k.elim
theorem eqD_ok {H : Hp} {K : PySem.W.Frag} {z : Z} {dx dy : D} {x y : V} {b : Bool} (ok : Ok K H z) (vx : DVz K z dx x) (vy : DVz K z dy y) (e : eqD z.st dx dy = some b) :
    (∃ i j, x = .str i ∧ y = .str j ∧ b = decide (i = j)) ∨ ∃ p q, Dp K H x p ∧ Dp K H y q ∧ SeqAt.shaped p = true ∧ SeqAt.shaped q = true ∧ b = PyData.eqv p q := by
  unfold eqD at e
  split at e
  · rename_i i j h1 h2
    cases e
    exact .inl ⟨i, j, (view_str ok vx h1).2, (view_str ok vy h2).2, rfl⟩
  · unfold eqG at e
    split at e
    · rename_i p q h1 h2
      split at e
      · rename_i h
        cases e
        exact .inr ⟨p, q, dp_view ok vx h1, dp_view ok vy h2, h.1, h.2, rfl⟩
      · cases e
    · cases e

theorem flat_of {H : Hp} {K : PySem.W.Frag} {μ : Nat → Addr} {n : Nat} {d : D} {v : V} (dv : DV H K μ n d v) (h : flatD d = true) : flatV v = true := by
  cases dv <;> first | rfl | cases h
theorem eqF_V {H : Hp} {K : PySem.W.Frag} {μ : Nat → Addr} {n : Nat} {d e : D} {v w : V} (dv : DV H K μ n d v) (ew : DV H K μ n e w) (h : flatD d = true) (h' : flatD e = true) : eqF d e = eqV v w := by
  cases dv <;> cases ew <;> first | rfl | cases h | cases h'
theorem all_flat {H : Hp} {K : PySem.W.Frag} {μ : Nat → Addr} {n : Nat} : ∀ {ds : List D} {vs : List V}, DVs H K μ n ds vs → ds.all flatD = true → vs.all flatV = true
  | _, _, .nil, _ => rfl
  | _, _, .cons h t, e => by
    rw [List.all_cons, Bool.and_eq_true] at e ⊢
    exact ⟨flat_of h e.1, all_flat t e.2⟩
theorem any_eq {H : Hp} {K : PySem.W.Frag} {μ : Nat → Addr} {n : Nat} {x : D} {v : V} (dx : DV H K μ n x v) (fx : flatD x = true) : ∀ {ds : List D} {vs : List V}, DVs H K μ n ds vs → ds.all flatD = true → (ds.any fun y => eqF y x) = inV v vs
  | _, _, .nil, _ => rfl
  | _, _, .cons h t, e => by
    rw [List.all_cons, Bool.and_eq_true] at e
    unfold inV
    rw [List.any_cons, List.any_cons, eqF_V h dx e.1 fx, any_eq dx fx t e.2]
    rfl
theorem key_of {H : Hp} {K : PySem.W.Frag} {μ : Nat → Addr} {n : Nat} {d : D} {v : V} (dv : DV H K μ n d v) (h : isKey d = true) : ∃ k : Key, d = kD k ∧ v = kV k := by
  cases dv <;> first | cases h | skip
  · rename_i i; exact ⟨.inl i, rfl, rfl⟩
  · rename_i i; exact ⟨.inr i, rfl, rfl⟩
theorem keq_kD (j k : Key) : keq (kD j) (kD k) = decide (j = k) := by
  cases j <;> cases k
  · rename_i a b
    show decide (a = b) = _
    by_cases h : a = b
    · subst h; simp
    · rw [decide_eq_false h, decide_eq_false fun e => h (Sum.inl.inj e)]
  · exact (decide_eq_false fun q => nomatch q).symm
  · exact (decide_eq_false fun q => nomatch q).symm
  · rename_i a b
    show decide (a = b) = _
    by_cases h : a = b
    · subst h; simp
    · rw [decide_eq_false h, decide_eq_false fun e => h (Sum.inr.inj e)]
/-- looking up -/
theorem dget_ok {H : Hp} {K : PySem.W.Frag} {μ : Nat → Addr} {n : Nat} (k : Key) : ∀ {es : List D} {kvs : List (Key × V)}, DKs H K μ n es kvs →
    (dget es (kD k) = none ∧ valV kvs k = none) ∨ ∃ d v, dget es (kD k) = some d ∧ valV kvs k = some v ∧ DV H K μ n d v
  | _, _, .nil => .inl ⟨rfl, rfl⟩
  | _, _, .cons (k := j) (x := x) (v := v) (es := es) (kvs := kvs) h t => by
    have e : dget (.tup [kD j, x] :: es) (kD k) = if keq (kD j) (kD k) = true then some x else dget es (kD k) := rfl
    rw [e, keq_kD]
    by_cases hk : j = k
    · subst hk
      rw [if_pos (by simp), valV_pos (by rfl)]
      exact .inr ⟨_, _, rfl, rfl, h⟩
    · rw [if_neg (by simp [hk]), valV_neg (by exact hk)]
      exact dget_ok k t
theorem DKs.any {H : Hp} {K : PySem.W.Frag} {μ : Nat → Addr} {n : Nat} {es : List D} {kvs : List (Key × V)} (h : DKs H K μ n es kvs) (k : Key) : (dget es (kD k)).isSome = (valV kvs k).isSome := by
  rcases dget_ok k h with ⟨e1, e2⟩ | ⟨d, v, e1, e2, _⟩ <;> (rw [e1, e2]; try rfl)
theorem isK_kD (j k : Key) (x : D) : isK (kD k) (.tup [kD j, x]) = decide (j = k) := keq_kD j k
theorem anyK {H : Hp} {K : PySem.W.Frag} {μ : Nat → Addr} {n : Nat} (k : Key) : ∀ {es : List D} {kvs : List (Key × V)}, DKs H K μ n es kvs → es.any (isK (kD k)) = kvs.any fun kv => decide (kv.1 = k)
  | _, _, .nil => rfl
  | _, _, .cons h t => by rw [List.any_cons, List.any_cons, anyK k t, isK_kD]
theorem mapK {H : Hp} {K : PySem.W.Frag} {μ : Nat → Addr} {n : Nat} (k : Key) {d : D} {v : V} (dv : DV H K μ n d v) : ∀ {es : List D} {kvs : List (Key × V)}, DKs H K μ n es kvs →
    DKs H K μ n (es.map fun e => if isK (kD k) e = true then .tup [kD k, d] else e) (kvs.map fun kv => if kv.1 = k then (kv.1, v) else kv)
  | _, _, .nil => .nil
  | _, _, .cons (k := j) h t => by
    rw [List.map_cons, List.map_cons, isK_kD]
    by_cases e : j = k
    · subst e
      rw [if_pos (by simp), if_pos rfl]
      exact .cons dv (mapK _ dv t)
    · rw [if_neg (by simp [e]), if_neg (by exact e)]
      exact .cons h (mapK k dv t)
theorem DKs.append {H : Hp} {K : PySem.W.Frag} {μ : Nat → Addr} {n : Nat} : ∀ {es : List D} {kvs : List (Key × V)} {fs : List D} {kws : List (Key × V)}, DKs H K μ n es kvs → DKs H K μ n fs kws → DKs H K μ n (es ++ fs) (kvs ++ kws)
  | _, _, _, _, .nil, s => s
  | _, _, _, _, .cons h t, s => .cons h (DKs.append t s)
theorem dput_ok {H : Hp} {K : PySem.W.Frag} {μ : Nat → Addr} {n : Nat} (k : Key) {d : D} {v : V} (dv : DV H K μ n d v) {es : List D} {kvs : List (Key × V)} (h : DKs H K μ n es kvs) : DKs H K μ n (dput es (kD k) d) (putK kvs k v) := by
  unfold dput putK
  rw [anyK k h]
  split
  · exact mapK k dv h
  · exact h.append (.cons dv .nil)

def blEq : V → Bool → Bool
  | .bl a, b => a == b
  | _, _ => false
theorem is_any {x : V} {b : Bool} {v u : Value} {pins : List (Addr × Obj)} {s : Shared} {σ : L2.St} {H : Hp} {Q : VK} (I : Inv X pins σ H s) (rx : RelV x v) (ru : RelV (.bl b) u) (k : Bool) (hk : blEq x b = k) :
    PySem.plainIs v u = true ∧ (v == u) = k := by
  cases (show u = Value.bool b from ru)
  cases x with
  | non => cases rx; exact ⟨rfl, hk⟩
  | bl a =>
    cases rx
    refine ⟨rfl, ?_⟩
    rw [← hk]
    show (Value.bool a == Value.bool b) = (a == b)
    cases a <;> cases b <;> rfl
  | int i => obtain ⟨t, rfl⟩ := rx; exact ⟨rfl, hk⟩
  | str i => obtain ⟨t, rfl⟩ := rx; exact ⟨rfl, hk⟩
  | byt i => obtain ⟨t, rfl⟩ := rx; exact ⟨rfl, hk⟩
  | flt i => obtain ⟨t, rfl⟩ := rx; exact ⟨rfl, hk⟩
  | ref a => cases rx; exact ⟨rfl, hk⟩
  | ty n => cases rx; exact ⟨rfl, hk⟩
theorem is_ok {H : Hp} {K : PySem.W.Frag} {z : Z} {dx dy : D} {x y : V} {b : Bool} (vx : DVz K z dx x) (vy : DVz K z dy y) (e : isB dx dy = some b) : (y = .non ∧ b = decide (x = .non)) ∨ ∃ c, y = .bl c ∧ b = blEq x c := by
  cases vy <;> first | (cases e; done) | skip
  · cases e
    refine .inl ⟨rfl, ?_⟩
    cases vx <;> rfl
  · cases e
    refine .inr ⟨_, rfl, ?_⟩
    cases vx <;> rfl
theorem ord_ok {K : PySem.W.Frag} {z : Z} {dx dy : D} {x y : V} {op : COp} {b : Bool} (vx : DVz K z dx x) (vy : DVz K z dy y) (e : ordB op dx dy = some b) : ∃ i j, x = .int i ∧ y = .int j ∧ ordI op i j = some b := by
  cases vx <;> first | (cases e; done) | skip
  cases vy <;> first | (cases e; done) | skip
  exact ⟨_, _, rfl, rfl, e⟩
theorem has_ok (hu : X.A.units + 64 < cLine) {pins : List (Addr × Obj)} {s : Shared} {σ : L2.St} {H : Hp} {x y : V} {v u : Value} {Q : VK} {z : Z} {dx dy : D} {c : Bool} (I : L2.Inv X pins σ H s) (rx : RelV x v) (ry : RelV y u) (ok : Ok X.K H z) (vx : DVz X.K z dx x) (vy : DVz X.K z dy y)
    (hc : hasIn z.st dx dy = some c) : (Q (.bl c) H → wpAny (model X.prog X.w) X.A (compareOp .In v u) (EP X pins σ Q) X.xe s) ∧ (Q (.bl (!c)) H → wpAny (model X.prog X.w) X.A (compareOp .NotIn v u) (EP X pins σ Q) X.xe s) := by
  unfold hasIn at hc
  split at hc
  · rename_i ys hy
    obtain ⟨a, vs, rfl, h1, h2⟩ := view_tup ok vy hy
    unfold inD at hc
    split at hc
    · rename_i hf
      cases hc
      rw [any_eq vx hf.1 h2 hf.2]
      exact ⟨fun q => op_in_seq pins s σ H _ _ v u Q I rx ry ⟨a, vs, rfl, .inr (ok.sqT h1), flat_of vx hf.1, all_flat h2 hf.2, q⟩, fun q => op_notIn_seq pins s σ H _ _ v u Q I rx ry ⟨a, vs, rfl, .inr (ok.sqT h1), flat_of vx hf.1, all_flat h2 hf.2, q⟩⟩
    · cases hc
  · rename_i ys hy
    obtain ⟨a, vs, rfl, h1, h2⟩ := view_lst ok vy hy
    unfold inD at hc
    split at hc
    · rename_i hf
      cases hc
      rw [any_eq vx hf.1 h2 hf.2]
      exact ⟨fun q => op_in_seq pins s σ H _ _ v u Q I rx ry ⟨a, vs, rfl, .inl (.inl (ok.rd h1)), flat_of vx hf.1, all_flat h2 hf.2, q⟩, fun q => op_notIn_seq pins s σ H _ _ v u Q I rx ry ⟨a, vs, rfl, .inl (.inl (ok.rd h1)), flat_of vx hf.1, all_flat h2 hf.2, q⟩⟩
    · cases hc
  · rename_i es hy
    obtain ⟨a, kvs, rfl, h1, h2⟩ := view_dct ok vy hy
    split at hc
    · rename_i hk
      cases hc
      obtain ⟨k, rfl, rfl⟩ := key_of vx hk
      cases ry
      rw [h2.any k]
      exact ⟨fun q => d_in (by omega) I (DGet.k (ok.sub _ _ h1)) rx fun s' I' => ⟨.bl _, H, I', rfl, q⟩, fun q => d_notIn (by omega) I (DGet.k (ok.sub _ _ h1)) rx fun s' I' => ⟨.bl _, H, I', rfl, q⟩⟩
    · cases hc
  · rename_i t hy
    obtain ⟨rfl, rfl⟩ := view_str ok vy hy
    split at hc
    · rename_i t2
      cases hc
      cases vx
      exact ⟨fun q => op_in_str pins s σ H _ _ v u Q I rx ry ⟨_, _, rfl, rfl, q⟩, fun q => L2.op_notIn_str pins s σ H _ _ v u Q I rx ry ⟨_, _, rfl, rfl, q⟩⟩
    · cases hc
  · cases hc
theorem op_cmp (hu : X.A.units + 64 < cLine) (op : COp) : OpR X (compareOp (copOf op)) (rD2 X.K false (cmpD op)) := by
  intro pins s σ H x y v u Q I rx ry h
  obtain ⟨z, dx, dy, d, st', ok, vx, vy, he0, q⟩ := h
  unfold cmpD at he0
  obtain ⟨he2, rfl⟩ := opt_ok he0
  rw [Option.map_eq_some_iff] at he2
  obtain ⟨b, he, rfl⟩ := he2
  clear he0
  have fin : Q (.bl b) H := q.same ok (.bl b)
  cases op with
  | eq =>
    rcases eqD_ok ok vx vy he with ⟨i, j, rfl, rfl, h5⟩ | ⟨p, r, h1, h2, h3, h4, h5⟩
    · refine L2.op_eq pins s σ H _ _ v u Q I rx ry ⟨rfl, ?_⟩
      have e2 : decide (V.str i = V.str j) = b := by
        rw [h5]
        by_cases e : i = j
        · subst e; simp
        · have : ¬ V.str i = V.str j := fun q => e (V.str.inj q)
          rw [decide_eq_false e, decide_eq_false this]
      rw [e2]; exact fin
    exact op_eqD hu pins s σ H _ _ v u Q I rx ry ⟨p, r, h1, h2, h3, h4, h5 ▸ fin⟩
  | ne =>
    have he : (eqD z.st dx dy).map (!·) = some b := he
    rw [Option.map_eq_some_iff] at he
    obtain ⟨c, hf, rfl⟩ := he
    rcases eqD_ok ok vx vy hf with ⟨i, j, rfl, rfl, h5⟩ | ⟨p, r, h1, h2, h3, h4, h5⟩
    · refine L2.op_ne pins s σ H _ _ v u Q I rx ry ⟨rfl, ?_⟩
      have e2 : decide (V.str i = V.str j) = c := by
        rw [h5]
        by_cases e : i = j
        · subst e; simp
        · have : ¬ V.str i = V.str j := fun q => e (V.str.inj q)
          rw [decide_eq_false e, decide_eq_false this]
      rw [e2]; exact fin
    exact op_neD hu pins s σ H _ _ v u Q I rx ry ⟨p, r, h1, h2, h3, h4, h5 ▸ fin⟩
  | in_ => exact (has_ok hu I rx ry ok vx vy he).1 fin
  | notin =>
    have he : (hasIn z.st dx dy).map (!·) = some b := he
    rw [Option.map_eq_some_iff] at he
    obtain ⟨c, hf, rfl⟩ := he
    exact (has_ok hu I rx ry ok vx vy hf).2 fin
  | is =>
    rcases is_ok (H := H) vx vy he with ⟨rfl, e⟩ | ⟨c, rfl, e⟩
    · exact op_isN pins s σ H _ _ v u Q I rx ry ⟨rfl, e ▸ fin⟩
    · obtain ⟨h1, h2⟩ := is_any (Q := Q) I rx ry b e.symm
      exact wpAny_is_plain h1 ⟨.bl b, H, I, by rw [h2]; rfl, fin⟩
  | isnot =>
    have he : (isB dx dy).map (!·) = some b := he
    rw [Option.map_eq_some_iff] at he
    obtain ⟨b', hf, rfl⟩ := he
    rcases is_ok (H := H) vx vy hf with ⟨rfl, e⟩ | ⟨c, rfl, e⟩
    · exact op_notN pins s σ H _ _ v u Q I rx ry ⟨rfl, e ▸ fin⟩
    · obtain ⟨h1, h2⟩ := is_any (Q := Q) I rx ry b' e.symm
      exact wpAny_isNot_plain h1 ⟨.bl _, H, I, by rw [h2]; rfl, fin⟩
  | lt =>
    obtain ⟨i, j, rfl, rfl, e⟩ := ord_ok vx vy he
    cases e
    exact op_lt pins s σ H _ _ v u Q I rx ry ⟨_, _, rfl, rfl, fin⟩
  | le =>
    obtain ⟨i, j, rfl, rfl, e⟩ := ord_ok vx vy he
    cases e
    exact op_le pins s σ H _ _ v u Q I rx ry ⟨_, _, rfl, rfl, fin⟩
  | gt =>
    obtain ⟨i, j, rfl, rfl, e⟩ := ord_ok vx vy he
    cases e
    exact op_gt pins s σ H _ _ v u Q I rx ry ⟨_, _, rfl, rfl, fin⟩
  | ge =>
    obtain ⟨i, j, rfl, rfl, e⟩ := ord_ok vx vy he
    cases e
    exact op_ge pins s σ H _ _ v u Q I rx ry ⟨_, _, rfl, rfl, fin⟩
end
end PyE

namespace PyE
open PySem PySem.Spec PyProof.Rows L2
def rDL (K : PySem.W.Frag) (fr : Bool) (f : List D → Store → R D) : List V → Hp → VK → Prop := fun xs H Q =>
  ∃ z ds d st', Ok K H z ∧ DVsz K z ds xs ∧ f ds z.st = .ok d st' ∧ End K fr H z d st' Q
def rDM (K : PySem.W.Frag) (f : D → List D → Store → R D) : V → List V → Hp → VK → Prop := fun x xs H Q =>
  ∃ z dx ds d st', Ok K H z ∧ DVz K z dx x ∧ DVsz K z ds xs ∧ f dx ds z.st = .ok d st' ∧ End K false H z d st' Q
section
variable {K : PySem.W.Frag} {H : Hp} {z : Z}
theorem DVs.cut {xs : List D} {vs : List V} (h : DVsz K z xs vs) (lo hi : Option Int) : DVsz K z (PyE.cut xs lo hi) (cutV vs lo hi) := by
  unfold PyE.cut cutV
  rw [h.length]
  exact (h.drop _).take _
theorem cut_all {xs : List D} {vs : List V} {lo hi : Option Int} (h : DVsz K z xs vs) (e : HT.sIx vs.length 0 lo = 0 ∧ HT.sIx vs.length vs.length hi = vs.length) : PyE.cut xs lo hi = xs := by
  unfold PyE.cut
  rw [h.length, e.1, e.2, List.drop_zero, Nat.sub_zero, ← h.length, List.take_length]
theorem atI_ok {xs : List D} {vs : List V} {i : Int} {d : D} (h : DVsz K z xs vs) (e : atI xs i = some d) : ∃ v, atI vs i = some v ∧ DVz K z d v := by
  unfold atI at e ⊢
  rw [Option.bind_eq_some_iff] at e
  obtain ⟨j, e1, e2⟩ := e
  obtain ⟨v, h1, h2⟩ := h.get e2
  rw [← h.length, e1]
  exact ⟨v, h1, h2⟩
theorem truV_of {d : D} {v : V} {k : Bool} (ok : Ok K H z) (dv : DVz K z d v) (e : truth z.st d = some k) : TruV K v H k := by
  unfold truth at e
  split at e
  · rename_i h; obtain ⟨rfl, rfl⟩ := view_non ok dv h; cases e; rfl
  · rename_i h; obtain ⟨rfl, rfl⟩ := view_bl ok dv h; cases e; rfl
  · rename_i h; obtain ⟨rfl, rfl⟩ := view_int ok dv h; cases e; rfl
  · rename_i h
    obtain ⟨rfl, rfl⟩ := view_str ok dv h
    split at e
    · rename_i hl; cases e; exact ⟨by rw [← line_eq]; exact hl, rfl⟩
    · cases e
  · rename_i h
    obtain ⟨a, vs, rfl, h1, h2⟩ := view_tup ok dv h
    cases e
    refine .inr (.inl ⟨vs, ok.sqT h1, ?_⟩)
    cases h2 <;> rfl
  · rename_i h
    obtain ⟨a, vs, rfl, h1, h2⟩ := view_lst ok dv h
    cases e
    refine .inl ⟨vs, .inl (ok.rd h1), ?_⟩
    cases h2 <;> rfl
  · rename_i h
    obtain ⟨a, vs, rfl, h1, h2⟩ := view_dct ok dv h
    cases e
    refine .inr (.inr ⟨vs, ok.sub _ _ h1, ?_⟩)
    cases h2 <;> rfl
  · cases e
theorem ints_of : ∀ {xs : List D} {vs : List V} {ns : List Int}, DVsz K z xs vs → intsOf xs = some ns → vs = ns.map V.int
  | _, _, _, .nil, e => by cases e; rfl
  | x :: xs, v :: vs, ns, .cons h t, e => by
    cases h <;> first | (cases e; done) | skip
    unfold intsOf at e
    rw [Option.map_eq_some_iff] at e
    obtain ⟨ms, e1, e2⟩ := e
    subst e2
    rw [ints_of t e1]; rfl
theorem bls_of : ∀ {xs : List D} {vs : List V} {ns : List Bool}, DVsz K z xs vs → blsOf xs = some ns → vs = ns.map V.bl
  | _, _, _, .nil, e => by cases e; rfl
  | x :: xs, v :: vs, ns, .cons h t, e => by
    cases h <;> first | (cases e; done) | skip
    unfold blsOf at e
    rw [Option.map_eq_some_iff] at e
    obtain ⟨ms, e1, e2⟩ := e
    subst e2
    rw [bls_of t e1]; rfl
theorem of_ints : ∀ (ns : List Int), DVsz K z (ns.map .int) (ns.map V.int)
  | [] => .nil
  | n :: ns => .cons (.int n) (of_ints ns)
theorem DVs.one {x : D} {vs : List V} (h : DVsz K z [x] vs) : ∃ v, vs = [v] ∧ DVz K z x v := by
  cases h with
  | cons a b => cases b; exact ⟨_, rfl, a⟩
theorem DVs.two {x y : D} {vs : List V} (h : DVsz K z [x, y] vs) : ∃ v w, vs = [v, w] ∧ DVz K z x v ∧ DVz K z y w := by
  cases h with
  | cons a b => obtain ⟨w, rfl, c⟩ := DVs.one b; exact ⟨_, _, rfl, a, c⟩
end
theorem maxL_ge (ns : List Int) : ∀ m, m ≤ maxL m ns ∧ ∀ y, y ∈ ns → y ≤ maxL m ns := by
  induction ns with
  | nil => intro m; exact ⟨Int.le_refl _, fun y h => by cases h⟩
  | cons n r ih =>
    intro m
    unfold maxL
    obtain ⟨h1, h2⟩ := ih (if n > m then n else m)
    have h3 : m ≤ (if n > m then n else m) ∧ n ≤ (if n > m then n else m) := by split <;> omega
    refine ⟨Int.le_trans h3.1 h1, fun y hy => ?_⟩
    rcases List.mem_cons.mp hy with e | e
    · subst e; exact Int.le_trans h3.2 h1
    · exact h2 y e
theorem maxL_mem (ns : List Int) : ∀ m, maxL m ns = m ∨ maxL m ns ∈ ns := by
  induction ns with
  | nil => intro m; exact .inl rfl
  | cons n r ih =>
    intro m
    unfold maxL
    rcases ih (if n > m then n else m) with h | h
    · rw [h]
      split
      · exact .inr List.mem_cons_self
      · exact .inl rfl
    · exact .inr (List.mem_cons_of_mem _ h)
theorem minL_le (ns : List Int) : ∀ m, minL m ns ≤ m ∧ ∀ y, y ∈ ns → minL m ns ≤ y := by
  induction ns with
  | nil => intro m; exact ⟨Int.le_refl _, fun y h => by cases h⟩
  | cons n r ih =>
    intro m
    unfold minL
    obtain ⟨h1, h2⟩ := ih (if n < m then n else m)
    have h3 : (if n < m then n else m) ≤ m ∧ (if n < m then n else m) ≤ n := by split <;> omega
    refine ⟨Int.le_trans h1 h3.1, fun y hy => ?_⟩
    rcases List.mem_cons.mp hy with e | e
    · subst e; exact Int.le_trans h1 h3.2
    · exact h2 y e
theorem minL_mem (ns : List Int) : ∀ m, minL m ns = m ∨ minL m ns ∈ ns := by
  induction ns with
  | nil => intro m; exact .inl rfl
  | cons n r ih =>
    intro m
    unfold minL
    rcases ih (if n < m then n else m) with h | h
    · rw [h]
      split
      · exact .inr List.mem_cons_self
      · exact .inl rfl
    · exact .inr (List.mem_cons_of_mem _ h)
theorem insI_perm (x : Int) : ∀ l, (insI x l).Perm (x :: l)
  | [] => .refl _
  | y :: r => by
    unfold insI
    split
    · exact .refl _
    · exact ((insI_perm x r).cons y).trans (.swap x y r)
theorem sortI_perm : ∀ l, (sortI l).Perm l
  | [] => .refl _
  | x :: r => by unfold sortI; exact (insI_perm x _).trans ((sortI_perm r).cons x)
theorem insI_sorted (x : Int) : ∀ l, l.Pairwise (· ≤ ·) → (insI x l).Pairwise (· ≤ ·)
  | [], _ => by unfold insI; exact List.pairwise_singleton _ _
  | y :: r, h => by
    unfold insI
    obtain ⟨h1, h2⟩ := List.pairwise_cons.mp h
    split
    · rename_i hxy
      refine List.pairwise_cons.mpr ⟨fun a ha => ?_, h⟩
      rcases List.mem_cons.mp ha with e | e
      · subst e; exact hxy
      · exact Int.le_trans hxy (h1 a e)
    · rename_i hxy
      refine List.pairwise_cons.mpr ⟨fun a ha => ?_, insI_sorted x r h2⟩
      rcases List.mem_cons.mp ((insI_perm x r).mem_iff.mp ha) with e | e
      · subst e; omega
      · exact h1 a e
theorem sortI_sorted : ∀ l, (sortI l).Pairwise (· ≤ ·)
  | [] => .nil
  | x :: r => by unfold sortI; exact insI_sorted x _ (sortI_sorted r)
theorem sorted_one : ∀ {a b : List Int}, a.Perm b → a.Pairwise (· ≤ ·) → b.Pairwise (· ≤ ·) → a = b
  | [], b, p, _, _ => by rw [List.nil_perm.mp p]
  | x :: a, [], p, _, _ => by exact absurd p.length_eq (by simp)
  | x :: a, y :: b, p, ha, hb => by
    obtain ⟨h1, h2⟩ := List.pairwise_cons.mp ha
    obtain ⟨h3, h4⟩ := List.pairwise_cons.mp hb
    have e : x = y := by
      have m1 : x ∈ y :: b := p.mem_iff.mp List.mem_cons_self
      have m2 : y ∈ x :: a := p.mem_iff.mpr List.mem_cons_self
      rcases List.mem_cons.mp m1 with e | e
      · exact e
      · rcases List.mem_cons.mp m2 with e' | e'
        · exact e'.symm
        · have := h1 y e'; have := h3 x e; omega
    subst e
    rw [sorted_one ((List.perm_cons x).mp p) h2 h4]
section
variable {X : Cx}
theorem ix_ok (hu : X.A.units + 64 < cLine) : IxR X (rD2 X.K false ixD) := by
  intro value slice pins s σ H x y v u Q I rx ry h hs
  obtain ⟨z, dx, dy, d, st', ok, vx, vy, he0, q⟩ := h
  unfold ixD at he0
  obtain ⟨he, rfl⟩ := opt_ok he0
  clear he0
  unfold ixB at he
  split at he
  · rename_i xs i hx
    obtain ⟨a, vs, rfl, h1, h2⟩ := view_tup ok vx hx
    cases vy
    obtain ⟨w, e1, e2⟩ := atI_ok h2 he
    exact ix_tup value slice pins s σ H _ _ v u Q I rx ry ⟨a, vs, i, w, rfl, rfl, ok.sqT h1, e1, q.same ok e2⟩ hs
  · rename_i xs i hx
    obtain ⟨a, vs, rfl, h1, h2⟩ := view_lst ok vx hx
    cases vy
    obtain ⟨w, e1, e2⟩ := atI_ok h2 he
    exact ix_list value slice pins s σ H _ _ v u Q I rx ry ⟨a, vs, i, w, rfl, rfl, .inl (ok.rd h1), e1, q.same ok e2⟩ hs
  · rename_i t i hx
    obtain ⟨rfl, rfl⟩ := view_str ok vx hx
    cases vy
    split at he
    · rename_i hl
      rw [Option.map_eq_some_iff] at he
      obtain ⟨c, e1, rfl⟩ := he
      exact ix_str value slice pins s σ H _ _ v u Q I rx ry ⟨t, i, c, rfl, rfl, by rw [← line_eq]; exact hl, e1, q.same ok (.str _)⟩ hs
    · cases he
  · rename_i es k hx
    obtain ⟨a, kvs, rfl, h1, h2⟩ := view_dct ok vx hx
    split at he
    · rename_i hk
      obtain ⟨k, rfl, rfl⟩ := key_of vy hk
      cases rx
      rcases dget_ok k h2 with ⟨e1, _⟩ | ⟨d', w, e1, e2, dv⟩
      · rw [e1] at he; cases he
      · rw [e1] at he; cases he
        have g : DGet H a (kV k) (some w) := e2 ▸ DGet.k (ok.sub _ _ h1)
        exact tail_any (dict_typeIs I g) PySem.F.slot_dict_getitem.lookup (d_getItem (by omega) I g ry fun w' s3 I3 rw' => ⟨w, H, I3, rw', q.same ok dv⟩) hs
    · cases he
  · cases he
/-- a slice: the bounds apart -/
def rDS (K : PySem.W.Frag) (fr : Bool) : V → Option Int → Option Int → Hp → VK → Prop := fun x lo hi H Q =>
  ∃ z dx d, Ok K H z ∧ DVz K z dx x ∧ slB dx lo hi z.st = some d ∧ End K fr H z d z.st Q
theorem sl_list_rd : SlR X (fun x lo hi H Q => ∃ a xs, x = .ref a ∧ Rd H a (.lst xs) ∧ ∀ p, H p = none → Q (.ref p) (upd H p (.lst (cutV xs lo hi)))) := by
  intro pins s σ H x v vl vu lo hi sl Q I rx hs pl pu h
  obtain ⟨a, xs, rfl, hx, q⟩ := h
  exact sl_list pins s σ H _ v vl vu lo hi sl Q I rx hs pl pu ⟨a, xs, rfl, .inl hx, q⟩
theorem sl_ok : SlR X (rDS X.K true) := by
  intro pins s σ H x v vl vu lo hi sl Q I rx hs pl pu h
  obtain ⟨z, dx, d, ok, vx, he, q⟩ := h
  unfold slB at he
  split at he
  · rename_i xs hx
    cases he
    obtain ⟨a, vs, rfl, h1, h2⟩ := view_tup ok vx hx
    refine sl_tupA pins s σ H _ v vl vu lo hi sl Q I rx hs pl pu ⟨a, vs, rfl, ok.sqT h1, fun e => ?_, fun _ => q.tup ok (h2.cut lo hi)⟩
    rw [cut_all h2 e] at q
    exact q.same' rfl ok (.tup h1 h2)
  · rename_i xs hx
    cases he
    obtain ⟨a, vs, rfl, h1, h2⟩ := view_lst ok vx hx
    exact sl_list_rd pins s σ H _ v vl vu lo hi sl Q I rx hs pl pu ⟨a, vs, rfl, ok.rd h1, q.lst ok (h2.cut lo hi)⟩
  · rename_i t hx
    split at he
    · rename_i hl
      cases he
      obtain ⟨rfl, rfl⟩ := view_str ok vx hx
      refine sl_str pins s σ H _ v vl vu lo hi sl Q I rx hs pl pu ⟨t, rfl, by rw [← line_eq]; exact hl, ?_⟩
      exact q.same' rfl ok (.str _)
    · cases he
  · cases he
def subB (x y d : D) (st : Store) : Option (Nat × D) := match x with
  | .ref n => (match st[n]? with
    | some (.lst xs) => (match y with
      | .int k => (L2.ixN xs.length k).map fun j => (n, .lst (xs.set j d))
      | _ => none)
    | some (.dct es) => if isKey y = true ∧ es.length < line then some (n, .dct (dput es y d)) else none
    | _ => none)
  | _ => none
def rDP (K : PySem.W.Frag) : V → V → V → Hp → (Hp → Prop) → Prop := fun o i v H Q =>
  ∃ z dx dy d n c, Ok K H z ∧ DVz K z dx o ∧ DVz K z dy i ∧ DVz K z d v ∧ subB dx dy d z.st = some (n, c) ∧ ∀ H' z', z'.st = z.st.set n c → Ok K H' z' → To H z H' z' → Q H'
theorem ref_inv {K : PySem.W.Frag} {z : Z} {n : Nat} {v : V} (h : DVz K z (.ref n) v) : n < z.n ∧ v = .ref (z.mu n) := by
  cases h with
  | ref hn => exact ⟨hn, rfl⟩
theorem set_ok (hu : X.A.units + 64 < cLine) : PSet X (rDP X.K) := by
  intro pins s σ H o i v ov iv u Q I ro ri rv h
  obtain ⟨z, dx, dy, d, n, c, ok, vx, vy, vd, he, q⟩ := h
  unfold subB at he
  split at he
  · rename_i m
    obtain ⟨hn, rfl⟩ := ref_inv vx
    split at he
    · rename_i xs hx
      obtain ⟨vs, h1, h2⟩ := ok.sim.cell _ _ hx
      split at he
      · rename_i k
        cases vy
        rw [Option.map_eq_some_iff] at he
        obtain ⟨j, e1, e2⟩ := he
        obtain ⟨rfl, rfl⟩ := Prod.mk.inj e2
        have ck : CellOk (upd z.he (z.mu m) (.lst (vs.set j v))) X.K z.mu z.n (.lst (xs.set j d)) (z.mu m) :=
          ⟨_, upd_same, (h2.set vd j).mono (Ext.cell hn (ok.sim.there hn)) ok.sim⟩
        exact set_list pins s σ H _ _ _ ov iv u Q I ro ri rv ⟨_, vs, k, j, rfl, rfl, ok.sub _ _ h1, by rw [← h2.length]; exact e1, q _ (z.cell m (.lst (vs.set j v)) (.lst (xs.set j d))) rfl (ok.cell hn ck) (To.cell ok hn)⟩
      · cases he
    · rename_i es hx
      obtain ⟨kvs, h1, h2⟩ := ok.sim.cell _ _ hx
      split at he
      · rename_i hk
        obtain ⟨rfl, rfl⟩ := Prod.mk.inj (Option.some.inj he)
        obtain ⟨k, rfl, rfl⟩ := key_of vy hk.1
        cases ro
        have ck : CellOk (upd z.he (z.mu m) (.dK (putK kvs k v))) X.K z.mu z.n (.dct (dput es (kD k) d)) (z.mu m) :=
          ⟨_, upd_same, (dput_ok k vd h2).mono (Ext.cell hn (ok.sim.there hn)) ok.sim⟩
        refine d_setItem (by omega) I (DPut.k (k := k) (v := v) (ok.sub _ _ h1) (by rw [← h2.length, ← line_eq]; exact hk.2)) ri rv fun s' I' => ⟨_, I', ?_⟩
        exact q _ (z.cell m (.dK (putK kvs k v)) (.dct (dput es (kD k) d))) rfl (ok.cell hn ck) (To.cell ok hn)
      · cases he
    · cases he
  · cases he
theorem d_len' {pins : List (Addr × Obj)} {s : Shared} {σ : L2.St} {H : Hp} {a : Addr} {kvs : List (Key × V)} {Q : VK} (I : L2.Inv X pins σ H s) (e : H a = some (.dK kvs)) (q : Q (.int (kvs.length : Nat)) H) :
    wpAny (model X.prog X.w) X.A (call (.builtin "len") [.ref a]) (EP X pins σ Q) X.xe s := d_len I (.inl e) fun t s' I' => ⟨.int (kvs.length : Nat), H, I', ⟨t, rfl⟩, q⟩
/-- one argument -/
theorem bi_one {fr : Bool} {f : Bi} {fv : Value} (h : ∀ (pins : List (Addr × Obj)) (s : Shared) (σ : L2.St) (H : Hp) (x : V) (us : List Value) (Q : VK) (z : Z) (dx d : D), L2.Inv X pins σ H s → Vals [x] us → Ok X.K H z → DVz X.K z dx x → bi1 f dx z.st = some d →
      End X.K fr H z d z.st Q → wpAny (model X.prog X.w) X.A (call fv us) (EP X pins σ Q) X.xe s) :
    CallR X fv (rDL X.K fr <| bd1 f) := by
  intro pins s σ H xs us Q I r q
  obtain ⟨z, ds, d, st', ok, vx, he0, q⟩ := q
  unfold bd1 at he0
  split at he0
  · obtain ⟨he, rfl⟩ := opt_ok he0
    obtain ⟨v, rfl, vv⟩ := vx.one
    exact h pins s σ H v us Q z _ d I r ok vv he q
  · cases he0
theorem bi_len : CallR X (.builtin "len") (rDL X.K false <| bd1 .len) := bi_one fun pins s σ H x us Q z dx d I r ok vx he0 q => by
  have he : lenB (view z.st dx) = some d := he0
  clear he0
  unfold lenB at he
  split at he
  · rename_i hx
    cases he
    obtain ⟨a, vs, rfl, h1, h2⟩ := view_tup ok vx hx
    exact call_len pins s σ H _ us Q I r ⟨_, vs.length, rfl, .inr ⟨vs, ok.sqT h1, rfl⟩, by rw [h2.length] at q; exact q.same ok (.int _)⟩
  · rename_i hx
    cases he
    obtain ⟨a, vs, rfl, h1, h2⟩ := view_lst ok vx hx
    exact call_len pins s σ H _ us Q I r ⟨_, vs.length, rfl, .inl ⟨vs, .inl (ok.rd h1), rfl⟩, by rw [h2.length] at q; exact q.same ok (.int _)⟩
  · rename_i hx
    cases he
    obtain ⟨a, vs, rfl, h1, h2⟩ := view_dct ok vx hx
    obtain ⟨u, rfl, ru⟩ := vals1 r
    cases ru
    exact d_len' I (ok.sub _ _ h1) (by rw [h2.length] at q; exact q.same ok (.int _))
  · rename_i hx
    split at he
    · rename_i hl
      cases he
      obtain ⟨rfl, rfl⟩ := view_str ok vx hx
      exact call_len pins s σ H _ us Q I r ⟨_, _, rfl, ⟨by rw [← line_eq]; exact hl, rfl⟩, q.same ok (.int _)⟩
    · cases he
  · cases he
theorem bi_abs : CallR X (.builtin "abs") (rDL X.K false <| bd1 .abs) := bi_one fun pins s σ H x us Q z dx d I r ok vx he q => by
  have he : absB (view z.st dx) = some d := he
  unfold absB at he
  split at he
  · rename_i hx
    cases he
    obtain ⟨rfl, rfl⟩ := view_int ok vx hx
    exact call_abs pins s σ H _ us Q I r ⟨_, rfl, q.same ok (.int _)⟩
  · cases he
theorem bi_int : CallR X (.type "int") (rDL X.K false <| bd1 .int) := bi_one fun pins s σ H x us Q z dx d I r ok vx he q => by
  have he : intB (view z.st dx) = some d := he
  unfold intB at he
  split at he
  · rename_i hx
    cases he
    obtain ⟨rfl, rfl⟩ := view_int ok vx hx
    exact call_int1 pins s σ H _ us Q I r (.inl ⟨_, rfl, q.same ok (.int _)⟩)
  · rename_i hx
    cases he
    obtain ⟨rfl, rfl⟩ := view_bl ok vx hx
    exact call_int1 pins s σ H _ us Q I r (.inr ⟨_, rfl, q.same ok (.int _)⟩)
  · cases he
theorem bi_str : CallR X (.type "str") (rDL X.K false <| bd1 .str) := bi_one fun pins s σ H x us Q z dx d I r ok vx he q => by
  have he2 : strB (view z.st dx) = some d := he
  clear he
  unfold strB at he2
  split at he2
  · rename_i hx
    obtain ⟨rfl, rfl⟩ := view_int ok vx hx
    split at he2
    · rename_i hl
      cases he2
      exact call_str_int pins s σ H _ us Q I r ⟨_, rfl, hl, q.same ok (.str _)⟩
    · cases he2
  · cases he2
theorem bi_tuple : CallR X (.type "tuple") (rDL X.K false <| bd1 .tuple) := bi_one fun pins s σ H x us Q z dx d I r ok vx he q => by
  have he : PyE.tupB (view z.st dx) = some d := he
  unfold PyE.tupB at he
  split at he
  · rename_i hx
    cases he
    obtain ⟨a, vs, rfl, h1, h2⟩ := view_lst ok vx hx
    exact call_tuple_of pins s σ H _ us Q I r ⟨a, vs, rfl, .inl ⟨.inl (ok.rd h1), q.tup ok h2⟩⟩
  · rename_i hx
    cases he
    obtain ⟨a, vs, rfl, h1, h2⟩ := view_tup ok vx hx
    exact call_tuple_of pins s σ H _ us Q I r ⟨a, vs, rfl, .inr ⟨ok.sqT h1, q.same ok (.tup h1 h2)⟩⟩
  · cases he
theorem bi_list : CallR X (.type "list") (rDL X.K true <| bd1 .list) := bi_one fun pins s σ H x us Q z dx d I r ok vx he q => by
  have he : PyE.lstB (view z.st dx) = some d := he
  unfold PyE.lstB at he
  split at he
  · rename_i hx
    cases he
    obtain ⟨a, vs, rfl, h1, h2⟩ := view_lst ok vx hx
    exact call_list_of pins s σ H _ us Q I r ⟨a, vs, rfl, .inl (.inl (ok.rd h1)), q.lst ok h2⟩
  · rename_i hx
    cases he
    obtain ⟨a, vs, rfl, h1, h2⟩ := view_tup ok vx hx
    exact call_list_of pins s σ H _ us Q I r ⟨a, vs, rfl, .inr (ok.sqT h1), q.lst ok h2⟩
  · cases he
theorem intsB_ok {H : Hp} {K : PySem.W.Frag} {z : Z} {dx d : D} {x : V} {f : List Int → Option D} (ok : Ok K H z) (vx : DVz K z dx x) (he : intsB f (view z.st dx) = some d) : ∃ a ns, x = .ref a ∧ Rd H a (.lst (ns.map V.int)) ∧ f ns = some d := by
  unfold intsB at he
  split at he
  · rename_i hx
    obtain ⟨a, vs, rfl, h1, h2⟩ := view_lst ok vx hx
    rw [Option.bind_eq_some_iff] at he
    obtain ⟨ns, e1, e2⟩ := he
    rw [ints_of h2 e1] at h1
    exact ⟨a, ns, rfl, ok.rd h1, e2⟩
  · cases he
theorem blsB_ok {H : Hp} {K : PySem.W.Frag} {z : Z} {dx d : D} {x : V} {f : List Bool → Option D} (ok : Ok K H z) (vx : DVz K z dx x) (he : blsB f (view z.st dx) = some d) : ∃ a ns, x = .ref a ∧ Rd H a (.lst (ns.map V.bl)) ∧ f ns = some d := by
  unfold blsB at he
  split at he
  · rename_i hx
    obtain ⟨a, vs, rfl, h1, h2⟩ := view_lst ok vx hx
    rw [Option.bind_eq_some_iff] at he
    obtain ⟨ns, e1, e2⟩ := he
    rw [bls_of h2 e1] at h1
    exact ⟨a, ns, rfl, ok.rd h1, e2⟩
  · cases he
theorem bi_sum (hc : X.calm = true) : CallR X (.builtin "sum") (rDL X.K false <| bd1 .sum) := bi_one fun pins s σ H x us Q z dx d I r ok vx he q => by
  obtain ⟨a, ns, rfl, h1, h2⟩ := intsB_ok (f := fun ns => some (.int ns.sum)) ok vx he
  cases h2
  exact cr_sum hc pins s σ H _ us Q I r ⟨a, ns, rfl, .inl h1, q.same ok (.int _)⟩
theorem bi_all (hc : X.calm = true) : CallR X (.builtin "all") (rDL X.K false <| bd1 .all) := bi_one fun pins s σ H x us Q z dx d I r ok vx he q => by
  obtain ⟨a, ns, rfl, h1, h2⟩ := blsB_ok (f := fun bs => some (.bl (bs.all id))) ok vx he
  cases h2
  exact cr_all hc pins s σ H _ us Q I r ⟨a, ns, rfl, .inl h1, q.same ok (.bl _)⟩
theorem bi_any (hc : X.calm = true) : CallR X (.builtin "any") (rDL X.K false <| bd1 .any) := bi_one fun pins s σ H x us Q z dx d I r ok vx he q => by
  obtain ⟨a, ns, rfl, h1, h2⟩ := blsB_ok (f := fun bs => some (.bl (bs.any id))) ok vx he
  cases h2
  exact cr_any hc pins s σ H _ us Q I r ⟨a, ns, rfl, .inl h1, q.same ok (.bl _)⟩
theorem bi_max1 (hc : X.calm = true) : CallR X (.builtin "max") (rDL X.K false <| bd1 .max1) := bi_one fun pins s σ H x us Q z dx d I r ok vx he q => by
  obtain ⟨a, ns, rfl, h1, h2⟩ := intsB_ok (f := maxB) ok vx he
  cases ns with
  | nil => cases h2
  | cons n r' =>
    cases h2
    refine cr_max hc pins s σ H _ us Q I r ⟨a, n :: r', rfl, .inl h1, by simp, fun m hm hle => ?_⟩
    have e : m = maxL n r' := by
      obtain ⟨g1, g2⟩ := maxL_ge r' n
      have hmem : maxL n r' ∈ n :: r' := by
        rcases maxL_mem r' n with e | e
        · rw [e]; exact List.mem_cons_self
        · exact List.mem_cons_of_mem _ e
      have h3 := hle _ hmem
      have h4 : m ≤ maxL n r' := by
        rcases List.mem_cons.mp hm with e | e
        · subst e; exact g1
        · exact g2 m e
      omega
    rw [e]
    exact q.same ok (.int _)
theorem bi_min1 (hc : X.calm = true) : CallR X (.builtin "min") (rDL X.K false <| bd1 .min1) := bi_one fun pins s σ H x us Q z dx d I r ok vx he q => by
  obtain ⟨a, ns, rfl, h1, h2⟩ := intsB_ok (f := minB) ok vx he
  cases ns with
  | nil => cases h2
  | cons n r' =>
    cases h2
    refine cr_min hc pins s σ H _ us Q I r ⟨a, n :: r', rfl, .inl h1, by simp, fun m hm hle => ?_⟩
    have e : m = minL n r' := by
      obtain ⟨g1, g2⟩ := minL_le r' n
      have hmem : minL n r' ∈ n :: r' := by
        rcases minL_mem r' n with e | e
        · rw [e]; exact List.mem_cons_self
        · exact List.mem_cons_of_mem _ e
      have h3 := hle _ hmem
      have h4 : minL n r' ≤ m := by
        rcases List.mem_cons.mp hm with e | e
        · subst e; exact g1
        · exact g2 m e
      omega
    rw [e]
    exact q.same ok (.int _)
theorem bi_sorted : CallR X (.builtin "sorted") (rDL X.K true <| bd1 .sorted) := bi_one fun pins s σ H x us Q z dx d I r ok vx he q => by
  obtain ⟨a, ns, rfl, h1, h2⟩ := intsB_ok (f := fun ns => some (.lst ((sortI ns).map .int))) ok vx he
  cases h2
  refine cr_sortedI pins s σ H _ us Q I r ⟨a, ns, rfl, .inl h1, fun ns' p hp hs hn => ?_⟩
  rw [sorted_one (hp.trans (sortI_perm ns).symm) hs (sortI_sorted ns)]
  exact q.lst ok (of_ints _) p hn
theorem bi_two {f : Bi} {fv : Value} (h : ∀ (pins : List (Addr × Obj)) (s : Shared) (σ : L2.St) (H : Hp) (i j : Int) (us : List Value) (Q : VK) (d : D), L2.Inv X pins σ H s → Vals [.int i, .int j] us → bi2 f (.int i) (.int j) [] = some d →
      (∀ k, d = .int k → Q (.int k) H) → wpAny (model X.prog X.w) X.A (call fv us) (EP X pins σ Q) X.xe s) (hi : ∀ x y st d, bi2 f x y st = some d → ∃ i j k, x = .int i ∧ y = .int j ∧ d = .int k ∧ bi2 f (.int i) (.int j) [] = some d) :
    CallR X fv (rDL X.K false <| bd2 f) := by
  intro pins s σ H xs us Q I r q
  obtain ⟨z, ds, d, st', ok, vx, he0, q⟩ := q
  unfold bd2 at he0
  split at he0
  · obtain ⟨he, rfl⟩ := opt_ok he0
    obtain ⟨v, w, rfl, v1, v2⟩ := vx.two
    obtain ⟨i, j, k, rfl, rfl, rfl, e⟩ := hi _ _ _ _ he
    cases v1; cases v2
    exact h pins s σ H i j us Q _ I r e fun k' e' => by cases e'; exact q.same ok (.int _)
  · cases he0
theorem bi_max2 (hc : X.calm = true) : CallR X (.builtin "max") (rDL X.K false <| bd2 .max2) :=
  bi_two (fun pins s σ H i j us Q d I r he q => by
    cases he
    exact call_max2 hc pins s σ H _ us Q I r ⟨i, j, rfl, q _ rfl⟩) fun x y st d he => by
    cases x <;> first | (cases he; done) | skip
    cases y <;> first | (cases he; done) | skip
    cases he
    exact ⟨_, _, _, rfl, rfl, rfl, rfl⟩
theorem bi_min2 (hc : X.calm = true) : CallR X (.builtin "min") (rDL X.K false <| bd2 .min2) :=
  bi_two (fun pins s σ H i j us Q d I r he q => by
    cases he
    exact call_min2 hc pins s σ H _ us Q I r ⟨i, j, rfl, q _ rfl⟩) fun x y st d he => by
    cases x <;> first | (cases he; done) | skip
    cases y <;> first | (cases he; done) | skip
    cases he
    exact ⟨_, _, _, rfl, rfl, rfl, rfl⟩
end
end PyE

namespace PyE
open PySem PySem.AutoSeq1
theorem extend_tuple (p : Addr) (xs : Array Value) (m : Nat) (q : Addr) (dd : Option Addr) (sl : Array (Option Value)) (ys : Array Value) (m2 : Nat) (hs0 : ¬(!xs.isEmpty && Builtin.List.listTooLong (xs.size + ys.size)) = true) (hs1 : xs.size ≤ sizeLine) (hs2 : xs.size + ys.size ≤ sizeLine + 1) :
    Meets (Builtin.«list.extend» ⟨[.ref p, .ref q], []⟩) (fun _ W s => s.heap.get? p = some { cls := .type "list", dict := none, data := .seq xs m, slots := #[] } ∧ s.heap.get? q = some { cls := .type "tuple", dict := dd, data := .seq ys m2, slots := sl } ∧ W (.ok (.ret Value.none)) { s with heap := s.heap.update p (Obj.mapSeq fun z => z ++ ys), toks := s.toks }) := by
  refine .of_wp fun P w A W s t => ?_
  have f4 := sub_tuple_list
  have f2 := sub_tuple_tuple
  have f3 := sub_list_list
  have f5 := sub_list_tuple
  have f1 := idx_int
  obtain ⟨hp, g, d, tk, os⟩ := s
  obtain ⟨tp, tq, t⟩ := t
  have room : (xs ++ ys).size ≤ sizeLine + 1 := by
    rw [Array.size_append]
    exact hs2
  wp_walk using (wpAny_updateSeq tp rfl (hz := hs1) (_hz' := room)), wpAny_loadPart' tp, wpAny_loadPart' tq
  exact ⟨_, rfl, t⟩
end PyE

namespace PyE
open PySem PySem.Spec PyProof.Rows L2
section
variable {K : PySem.W.Frag} {H : Hp} {z : Z}
theorem mtTy_lst {m : Mt} {d : D} {v : V} (hm : m ≠ .get ∧ m ≠ .setdefault ∧ m ≠ .join ∧ m ≠ .tindex ∧ m ≠ .sindex) (ok : Ok K H z) (dv : DVz K z d v) (h : mtTy m (view z.st d) = true) : ∃ a vs, v = .ref a ∧ Rd H a (.lst vs) := by
  cases e : view z.st d with
  | lst xs =>
    obtain ⟨a, vs, h1, h2, _⟩ := view_lst ok dv e
    exact ⟨a, vs, h1, ok.rd h2⟩
  | _ => rw [e] at h; cases m <;> first | (cases h; done) | exact absurd rfl hm.1 | exact absurd rfl hm.2.1 | exact absurd rfl hm.2.2.1 | exact absurd rfl hm.2.2.2.1 | exact absurd rfl hm.2.2.2.2
theorem mtTy_dct {d : D} {v : V} (ok : Ok K H z) (dv : DVz K z d v) (h : mtTy .get (view z.st d) = true) : ∃ a kvs, v = .ref a ∧ H a = some (.dK kvs) := by
  cases e : view z.st d with
  | dct xs =>
    obtain ⟨a, vs, h1, h2, _⟩ := view_dct ok dv e
    exact ⟨a, vs, h1, ok.sub _ _ h2⟩
  | _ => rw [e] at h; cases h
theorem lstAt_ok {o : D} {v : V} {n : Nat} {ys : List D} (ok : Ok K H z) (dv : DVz K z o v) (h : lstAt z.st o = some (n, ys)) : n < z.n ∧ v = .ref (z.mu n) ∧ ∃ vs, z.he (z.mu n) = some (.lst vs) ∧ DVsz K z ys vs := by
  unfold lstAt at h
  split at h
  · rename_i m
    obtain ⟨hn, e⟩ := ref_inv dv
    split at h
    · rename_i zs hz
      obtain ⟨rfl, rfl⟩ := Prod.mk.inj (Option.some.inj h)
      obtain ⟨vs, h1, h2⟩ := ok.sim.cell _ _ hz
      exact ⟨hn, e, vs, h1, h2⟩
    · cases h
  · cases h
/-- a list cell takes other items -/
theorem End.setLst {n : Nat} {ys zs : List D} {vs ws : List V} {d : D} {v : V} {Q : VK} (q : End K false H z d (z.st.set n (.lst zs)) Q) (ok : Ok K H z) (hn : n < z.n) (h2 : DVsz K z zs ws) (hd : DVz K z d v) : Q v (upd H (z.mu n) (.lst ws)) := by
  have t : To H z (upd H (z.mu n) (.lst ws)) (z.cell n (.lst ws) (.lst zs)) := To.cell ok hn
  have ck : CellOk (upd z.he (z.mu n) (.lst ws)) K z.mu z.n (.lst zs) (z.mu n) := ⟨_, upd_same, h2.mono (Ext.cell hn (ok.sim.there hn)) ok.sim⟩
  exact q _ (z.cell n (.lst ws) (.lst zs)) v rfl (ok.cell hn ck) t (ok.dv t hd) .no
theorem DVs.dropLast {xs : List D} {vs : List V} (h : DVsz K z xs vs) : DVsz K z xs.dropLast vs.dropLast := by
  rw [List.dropLast_eq_take, List.dropLast_eq_take, h.length]
  exact h.take _
theorem DVs.eraseIdx : ∀ {xs : List D} {vs : List V} (i : Nat), DVsz K z xs vs → DVsz K z (xs.eraseIdx i) (vs.eraseIdx i)
  | _, _, _, .nil => .nil
  | _, _, 0, .cons _ t => t
  | _, _, i + 1, .cons h t => .cons h (DVs.eraseIdx i t)
theorem posOf_ok {x : D} {v : V} (dx : DVz K z x v) (fx : flatD x = true) : ∀ {ys : List D} {vs : List V} {i j : Nat}, DVsz K z ys vs → ys.all flatD = true → posOf x ys i = some j →
    ∃ k w, j = i + k ∧ vs[k]? = some w ∧ eqV w v = true ∧ ∀ (m : Nat) (w' : V), m < k → vs[m]? = some w' → eqV w' v = false
  | _, _, _, _, .nil, _, e => by cases e
  | _, _, i, j, .cons (x := y) h t, f, e => by
    rw [List.all_cons, Bool.and_eq_true] at f
    unfold posOf at e
    rw [eqF_V h dx f.1 fx] at e
    split at e
    · rename_i he
      cases e
      exact ⟨0, _, rfl, rfl, he, fun m w' hm => absurd hm (Nat.not_lt_zero _)⟩
    · rename_i he
      obtain ⟨k, w, h1, h2, h3, h4⟩ := posOf_ok dx fx t f.2 e
      refine ⟨k + 1, w, by omega, by simpa using h2, h3, fun m w' hm hw => ?_⟩
      cases m with
      | zero =>
        have : _ = w' := Option.some.inj (by simpa using hw)
        subst this
        simpa using he
      | succ m => exact h4 m w' (by omega) (by simpa using hw)
end
section
variable {X : Cx}
theorem m_append : MtR X "list.append" (rDM X.K apB) := by
  intro pins s σ H x xs v us Q I rx rv h
  obtain ⟨z, dx, ds, d, st', ok, vx, vs, he, q⟩ := h
  unfold apB at he
  split at he
  · rename_i n ys y hl
    obtain ⟨hn, rfl, ws, h1, h2⟩ := lstAt_ok ok vx hl
    obtain ⟨w, rfl, vy⟩ := vs.one
    obtain ⟨hz, he⟩ := guard_ok he
    cases he
    exact mt_append pins s σ H _ _ v us Q I rx rv ⟨_, ws, w, rfl, rfl, ok.sub _ _ h1, by rw [← h2.length, ← line_eq]; exact of_decide_eq_true hz, q.setLst (ys := ys) (vs := ws) ok hn (h2.append (.cons vy .nil)) .non⟩
  · cases he
theorem m_insert : MtR X "list.insert" (rDM X.K insB) := by
  intro pins s σ H x xs v us Q I rx rv h
  obtain ⟨z, dx, ds, d, st', ok, vx, vs, he, q⟩ := h
  unfold insB at he
  split at he
  · rename_i n ys i y hl
    obtain ⟨hn, rfl, ws, h1, h2⟩ := lstAt_ok ok vx hl
    obtain ⟨w0, w, rfl, vi, vy⟩ := vs.two
    cases vi
    obtain ⟨hz, he⟩ := guard_ok he
    simp only [Bool.and_eq_true, decide_eq_true_eq] at hz
    cases he
    exact mt_insert pins s σ H _ _ v us Q I rx rv ⟨_, ws, i, w, rfl, rfl, ok.sub _ _ h1, by rw [← h2.length, ← line_eq]; exact hz.1.1, hz.1.2, by omega, q.setLst (ys := ys) (vs := ws) ok hn (((h2.take _).append (.cons vy .nil)).append (h2.drop _)) .non⟩
  · cases he
theorem m_extend : MtR X "list.extend" (rDM X.K extB) := by
  intro pins s σ H x xs v us Q I rx rv h
  obtain ⟨z, dx, ds, d, st', ok, vx, vs, he, q⟩ := h
  unfold extB at he
  split at he
  · rename_i n ys y hl
    obtain ⟨hn, rfl, ws, h1, h2⟩ := lstAt_ok ok vx hl
    obtain ⟨w, rfl, vy⟩ := vs.one
    split at he
    · rename_i zs hv
      obtain ⟨hz, he⟩ := guard_ok he
      have hz := of_decide_eq_true hz
      cases he
      obtain ⟨b, us2, rfl, h3, h4⟩ := view_lst ok vy hv
      have l1 := h2.length
      have l2 := h4.length
      have hsz : ws.length + us2.length ≤ sizeLine := by rw [← line_eq, ← l1, ← l2]; exact hz
      cases rx
      obtain ⟨u, rfl, ru⟩ := Vals.one rv
      cases ru
      obtain ⟨z1, its, n1, r1, e1⟩ := I.hok _ _ (ok.sub _ _ h1)
      obtain ⟨z2, its2, n2, r2, e2⟩ := (ok.rd h3).ok I.hok
      have k1 := r1.length
      have k2 := r2.length
      have hfit : its.toArray.size + its2.toArray.size ≤ sizeLine := by simp only [List.size_toArray]; omega
      have hshort : ¬ (!its.toArray.isEmpty && Builtin.List.listTooLong (its.toArray.size + its2.toArray.size)) = true := by
        rw [notLongL hfit, Bool.and_false]; simp
      refine call_meets F.slot_list_extend ⟨_, e1, rfl⟩ F.entry_list_extend (F.args_list_extend_2 _ _) (AutoSeq1.list_extend_list_list_0 _ its.toArray n1 b its2.toArray n2 hshort (by simp only [List.size_toArray]; omega) (by omega)) ⟨e1, e2, ?_⟩
      exact ⟨.non, _, I.lset (its' := its ++ its2) (ok.sub _ _ h1) e1 (by simp) (r1.append r2) (by simp only [List.length_append]; omega), rfl, q.setLst (ys := ys) (vs := ws) ok hn (h2.append h4) .non⟩
    · rename_i zs hv
      obtain ⟨hz, he⟩ := guard_ok he
      have hz := of_decide_eq_true hz
      cases he
      obtain ⟨b, us2, rfl, h3, h4⟩ := view_tup ok vy hv
      have l1 := h2.length
      have l2 := h4.length
      have hsz : ws.length + us2.length ≤ sizeLine := by rw [← line_eq, ← l1, ← l2]; exact hz
      cases rx
      obtain ⟨u, rfl, ru⟩ := Vals.one rv
      cases ru
      obtain ⟨z1, its, n1, r1, e1⟩ := I.hok _ _ (ok.sub _ _ h1)
      obtain ⟨its2, r2, ⟨⟨cl, dd, dt, sl⟩, e2, c2, n2, d2⟩, z2⟩ := I.tuple (ok.sqT h3)
      simp only at c2 d2
      subst c2
      subst d2
      have k1 := r1.length
      have k2 := r2.length
      have hfit : its.toArray.size + its2.toArray.size ≤ sizeLine := by simp only [List.size_toArray]; omega
      have hshort : ¬ (!its.toArray.isEmpty && Builtin.List.listTooLong (its.toArray.size + its2.toArray.size)) = true := by
        rw [notLongL hfit, Bool.and_false]; simp
      refine call_meets F.slot_list_extend ⟨_, e1, rfl⟩ F.entry_list_extend (F.args_list_extend_2 _ _) (extend_tuple _ its.toArray n1 b dd sl its2.toArray n2 hshort (by simp only [List.size_toArray]; omega) (by omega)) ⟨e1, e2, ?_⟩
      exact ⟨.non, _, I.lset (its' := its ++ its2) (ok.sub _ _ h1) e1 (by simp) (r1.append r2) (by simp only [List.length_append]; omega), rfl, q.setLst (ys := ys) (vs := ws) ok hn (h2.append h4) .non⟩
    · cases he
  · cases he
theorem m_pop : MtR X "list.pop" (rDM X.K popB) := by
  intro pins s σ H x xs v us Q I rx rv h
  obtain ⟨z, dx, ds, d, st', ok, vx, vs, he, q⟩ := h
  unfold popB at he
  split at he
  · rename_i n ys hl
    obtain ⟨hn, rfl, ws, h1, h2⟩ := lstAt_ok ok vx hl
    cases vs
    split at he
    · rename_i y hy
      cases he
      obtain ⟨w, hw, vw⟩ := h2.get hy
      rw [h2.length] at hw
      exact mt_pop pins s σ H _ _ v us Q I rx rv ⟨_, ws, w, rfl, rfl, ok.sub _ _ h1, hw, q.setLst (ys := ys) (vs := ws) ok hn h2.dropLast vw⟩
    · cases he
  · cases he
theorem m_popAt : MtR X "list.pop" (rDM X.K popAtB) := by
  intro pins s σ H x xs v us Q I rx rv h
  obtain ⟨z, dx, ds, d, st', ok, vx, vs, he, q⟩ := h
  unfold popAtB at he
  split at he
  · rename_i n ys i hl
    obtain ⟨hn, rfl, ws, h1, h2⟩ := lstAt_ok ok vx hl
    obtain ⟨w0, rfl, vi⟩ := vs.one
    cases vi
    split at he
    · rename_i k hk
      split at he
      · rename_i y hy
        obtain ⟨hz, he⟩ := guard_ok he
        simp only [Bool.and_eq_true, decide_eq_true_eq] at hz
        cases he
        obtain ⟨w, hw, vw⟩ := h2.get hy
        rw [h2.length] at hk
        exact mt_popAt pins s σ H _ _ v us Q I rx rv ⟨_, ws, i, k, w, rfl, rfl, ok.sub _ _ h1, by omega, by omega, (ixN_seq hk).1, hw, q.setLst (ys := ys) (vs := ws) ok hn (h2.eraseIdx k) vw⟩
      · cases he
    · cases he
  · cases he
theorem m_index : MtR X "list.index" (rDM X.K idxB) := by
  intro pins s σ H x xs v us Q I rx rv h
  obtain ⟨z, dx, ds, d, st', ok, vx, vs, he, q⟩ := h
  unfold idxB at he
  split at he
  · rename_i ys y hl
    obtain ⟨a, ws, rfl, h1, h2⟩ := view_lst ok vx hl
    obtain ⟨w, rfl, vy⟩ := vs.one
    obtain ⟨hf, he⟩ := guard_ok he
    rw [Bool.and_eq_true] at hf
    obtain ⟨hf2, rfl⟩ := opt_ok he
    rw [Option.map_eq_some_iff] at hf2
    obtain ⟨j, hj, rfl⟩ := hf2
    obtain ⟨k, w', rfl, g1, g2, g3⟩ := posOf_ok vy hf.1 h2 hf.2 hj
    refine mt_index pins s σ H _ _ v us Q I rx rv ⟨a, ws, w, k, w', rfl, rfl, .inl (ok.rd h1), flat_of vy hf.1, all_flat h2 hf.2, g1, g2, g3, ?_⟩
    rw [Nat.zero_add] at q
    exact q.same ok (.int _)
  · cases he
theorem strs_ok {K : PySem.W.Frag} {z : Z} : ∀ {ds : List D} {vs : List V} {ss : List Str}, DVsz K z ds vs → strsOf ds = some ss → vs = ss.map V.str
  | [], _, _, .nil, e => by cases e; rfl
  | d :: ds, _, _, .cons h t, e => by
    cases d <;> first | (cases e; done) | skip
    rename_i s
    have e : (strsOf ds).map (s :: ·) = some _ := e
    rw [Option.map_eq_some_iff] at e
    obtain ⟨q, e1, rfl⟩ := e
    cases h
    rw [strs_ok t e1]
    rfl
theorem posS_ok {x : Str} : ∀ {ss : List Str} {i k : Nat}, posS x ss i = some k → i ≤ k ∧ ss[k - i]? = some x ∧ ∀ m, m < k - i → ss[m]? ≠ some x
  | [], _, _, h => by cases h
  | y :: r, i, k, h => by
    unfold posS at h
    by_cases q : y = x
    · rw [if_pos q] at h
      cases h
      exact ⟨Nat.le_refl _, by rw [Nat.sub_self]; simp [q], fun m hm => absurd hm (by omega)⟩
    · rw [if_neg q] at h
      obtain ⟨h1, h2, h3⟩ := posS_ok h
      have e : k - i = (k - (i + 1)) + 1 := by omega
      refine ⟨by omega, by rw [e, List.getElem?_cons_succ]; exact h2, fun m hm => ?_⟩
      cases m with
      | zero => simpa using q
      | succ m => rw [List.getElem?_cons_succ]; exact h3 m (by omega)
theorem m_get (hu : X.A.units + 64 < cLine) : MtR X "dict.get" (rDM X.K getB) := by
  intro pins s σ H x xs v us Q I rx rv h
  obtain ⟨z, dx, ds, d, st', ok, vx, vs, he, q⟩ := h
  unfold getB at he
  split at he
  · rename_i es k df hv
    obtain ⟨g, he⟩ := guard_ok he
    cases he
    obtain ⟨a, kvs, rfl, h1, h2⟩ := view_dct ok vx hv
    cases rx
    cases vs with
    | cons vk vs =>
      cases vs with
      | cons vd vs =>
        cases vs
        cases rv with
        | cons rk rv =>
          cases rv with
          | cons rd rv =>
            cases rv
            obtain ⟨k, rfl, rfl⟩ := key_of vk g
            rcases dget_ok k h2 with ⟨e1, e2⟩ | ⟨d', w, e1, e2, dv⟩
            · have gg : DGet H a (kV k) none := e2 ▸ DGet.k (ok.sub _ _ h1)
              refine d_get2 (by omega) I gg rk rd fun w' s3 I3 rw' => ⟨_, H, I3, rw', ?_⟩
              rw [e1] at q
              exact q.same ok vd
            · have gg : DGet H a (kV k) (some w) := e2 ▸ DGet.k (ok.sub _ _ h1)
              refine d_get2 (by omega) I gg rk rd fun w' s3 I3 rw' => ⟨_, H, I3, rw', ?_⟩
              rw [e1] at q
              exact q.same ok dv
  · cases he
theorem m_join : MtR X "str.join" (rDM X.K joinB) := by
  intro pins s σ H x xs v us Q I rx rv h
  obtain ⟨z, dx, ds, d, st', ok, vx, vs, he, q⟩ := h
  unfold joinB at he
  split at he
  · rename_i a y hv
    obtain ⟨rfl, rfl⟩ := view_str ok vx hv
    obtain ⟨w, rfl, vy⟩ := vs.one
    split at he
    · rename_i ys hy
      split at he
      · rename_i ss hss
        obtain ⟨g, he⟩ := guard_ok he
        cases he
        obtain ⟨p, ws, rfl, h1, h2⟩ := view_lst ok vy hy
        have e := strs_ok h2 hss
        subst e
        exact mt_join pins s σ H _ _ v us Q I rx rv ⟨a, p, ss, rfl, rfl, .inl (.inl (ok.rd h1)), of_decide_eq_true g, by rw [TL.join_eq]; exact q.same ok (.str _)⟩
      · cases he
    · cases he
  · cases he
theorem m_sidx : MtR X "str.index" (rDM X.K sidxB) := by
  intro pins s σ H x xs v us Q I rx rv h
  obtain ⟨z, dx, ds, d, st', ok, vx, vs, he, q⟩ := h
  unfold sidxB at he
  split at he
  · rename_i a b hv
    obtain ⟨rfl, rfl⟩ := view_str ok vx hv
    obtain ⟨w, rfl, vy⟩ := vs.one
    cases vy
    split at he
    · rename_i i r ho
      cases he
      exact mt_sindex pins s σ H _ _ v us Q I rx rv ⟨a, b, i, r, rfl, rfl, ho, q.same ok (.int _)⟩
    · cases he
  · cases he
theorem m_tidx : MtR X "tuple.index" (rDM X.K tidxB) := by
  intro pins s σ H x xs v us Q I rx rv h
  obtain ⟨z, dx, ds, d, st', ok, vx, vs, he, q⟩ := h
  unfold tidxB at he
  split at he
  · rename_i ys t hv
    split at he
    · rename_i ss hss
      obtain ⟨he2, hst⟩ := opt_ok he
      subst hst
      rw [Option.map_eq_some_iff] at he2
      obtain ⟨j, hj, rfl⟩ := he2
      obtain ⟨p, ws, rfl, h1, h2⟩ := view_tup ok vx hv
      have e := strs_ok h2 hss
      subst e
      obtain ⟨w, rfl, vy⟩ := vs.one
      cases vy
      obtain ⟨_, g1, g2⟩ := posS_ok hj
      exact mt_tup_index pins s σ H _ _ v us Q I rx rv ⟨p, ss, t, j, rfl, rfl, ok.sqT h1, by simpa using g1, by simpa using g2, q.same ok (.int _)⟩
    · cases he
  · cases he
/-- a list's item, read and stored by a place -/
def rItB (K : PySem.W.Frag) : V → V → Hp → VK → Prop := fun x y H Q => ∃ z dx dy d st', Ok K H z ∧ DVz K z dx x ∧ DVz K z dy y ∧ itB dy dx z.st = .ok d st' ∧ End K false H z d st' Q
theorem get_cell : PGet X (rItB X.K) := by
  intro pins s σ H x y v u Q I rx ry h
  obtain ⟨z, dx, dy, d, st', ok, vx, vy, he, q⟩ := h
  unfold itB at he
  split at he
  · rename_i n ys i hl
    obtain ⟨he2, hst⟩ := opt_ok he
    subst hst
    obtain ⟨hn, rfl, ws, h1, h2⟩ := lstAt_ok ok vx hl
    cases vy
    obtain ⟨w, e1, e2⟩ := atI_ok h2 he2
    cases rx
    obtain ⟨t, rfl⟩ := ry
    obtain ⟨its, r, pl, hz⟩ := I.list (xs := ws) (.inl (.inl (ok.sub _ _ h1)))
    obtain ⟨j, h1, h2, h3, h4, h5⟩ := atI_get e1
    obtain ⟨w', ew, rw'⟩ := r.get h2
    have hl := r.length
    have hn := line63
    have fin : EP X pins σ Q w' s := ⟨w, H, I, rw', q.same ok e2⟩
    by_cases h0 : 0 ≤ i
    · have hj : i.toNat = j := by
        rw [seqIndex_of h0 h5] at h1
        exact Option.some.inj h1
      exact wpAny_getItem_list pl.isList h0 (by omega) (by rw [hj]; simpa using ew) fin
    · have hj : (i + (its.toArray.size : Int)).toNat = j := by
        rw [seqIndex_neg (by omega) h4] at h1
        rw [List.size_toArray, ← hl]
        exact Option.some.inj h1
      exact wpAny_getItem_list_neg pl.isList (by omega) (by rw [List.size_toArray] <;> omega) (by omega) (by rw [hj]; simpa using ew) fin
  · cases he
def rPutB (K : PySem.W.Frag) : V → V → V → Hp → (Hp → Prop) → Prop := fun o i v H Q =>
  ∃ z dx dy d st', Ok K H z ∧ DVz K z dx o ∧ DVz K z dy i ∧ DVz K z d v ∧ putB dx dy d z.st = .ok () st' ∧ ∀ H' z', z'.st = st' → Ok K H' z' → To H z H' z' → Q H'
theorem put_cell (hu : X.A.units + 64 < cLine) : PSet X (rPutB X.K) := by
  intro pins s σ H o i v ov iv u Q I ro ri rv h
  obtain ⟨z, dx, dy, d, st', ok, vx, vy, vd, he, q⟩ := h
  unfold putB at he
  split at he
  · rename_i n xs k hl
    split at he
    · rename_i j hj
      injection he with _ he
      refine set_ok hu pins s σ H o i v ov iv u Q I ro ri rv ⟨z, dx, .int k, d, n, .lst (xs.set j d), ok, vx, vy, vd, ?_, fun H' z' hs ok' t => q H' z' (hs.trans he) ok' t⟩
      unfold lstAt at hl
      split at hl
      · rename_i m
        split at hl
        · rename_i ys hc
          obtain ⟨rfl, rfl⟩ := Prod.mk.inj (Option.some.inj hl)
          unfold subB
          dsimp only
          rw [hc]
          dsimp only
          rw [hj]
          rfl
        · cases hl
      · cases hl
    · cases he
  · cases he
def tyN : D → String
  | .non => "NoneType"
  | .bl _ => "bool"
  | .int _ => "int"
  | .str _ => "str"
  | .tup _ => "tuple"
  | .lst _ => "list"
  | .dct _ => "dict"
  | _ => ""
def tyT : Ty → String
  | .int => "int"
  | .bool => "bool"
  | .str => "str"
  | .tuple => "tuple"
  | .list => "list"
theorem kit_all : ∀ (d : D) (t : Ty), isPl d = true → kitB (tyN d) (tyT t) = some (isTy d t) := by
  intro d t h
  cases d <;> first | (cases h; done) | skip
  all_goals cases t <;> (simp only [tyN, tyT, isTy]; decide +kernel)
theorem tyx_of {K : PySem.W.Frag} {H : Hp} {z : Z} {d : D} {v : V} (ok : Ok K H z) (dv : DVz K z d v) (h : isPl (view z.st d) = true) : TyX K H v (.type (tyN (view z.st d))) := by
  cases e : view z.st d with
  | non => obtain ⟨_, rfl⟩ := view_non ok dv e; exact .base .non
  | bl b => obtain ⟨_, rfl⟩ := view_bl ok dv e; exact .base (.bl b)
  | int b => obtain ⟨_, rfl⟩ := view_int ok dv e; exact .base (.int b)
  | str b => obtain ⟨_, rfl⟩ := view_str ok dv e; exact .base (.str b)
  | tup xs =>
    obtain ⟨a, vs, rfl, h1, _⟩ := view_tup ok dv e
    rcases ok.sqT h1 with (q | ⟨o, q⟩) | ⟨o, its, n, q, c, _⟩
    · exact .base (.tup q)
    · exact .fTuple q
    · exact .kTuple q c
  | lst xs =>
    obtain ⟨a, vs, rfl, h1, _⟩ := view_lst ok dv e
    rcases ok.rd h1 with q | ⟨o, q⟩
    · exact .base (.lst q)
    · exact .base (.frz q)
  | dct xs =>
    obtain ⟨a, vs, rfl, h1, _⟩ := view_dct ok dv e
    exact .base (.dK (ok.sub _ _ h1))
  | ref n => rw [e] at h; cases h
  | fn n => rw [e] at h; cases h
theorem kits : ∀ (d : D) (ts : List Ty) (K : PySem.W.Frag), isPl d = true → PySem.W.kitAny K (.type (tyN d)) (ts.map fun t => Value.type (tyT t)) = some (ts.any (isTy d))
  | d, [], K, h => kitAny_nil
  | d, t :: ts, K, h => by
    rw [List.map_cons, List.any_cons]
    have h1 : PySem.W.kitOne K (.type (tyN d)) (.type (tyT t)) = some (isTy d t) := kit_ty (kit_all d t h)
    refine kitAny_cons h1 (fun hb => ?_) fun hb => ?_
    · rw [hb, Bool.false_or]; exact kits d ts K h
    · rw [hb, Bool.true_or]
end
end PyE

namespace PyE
open PySem PySem.Spec PyProof.Rows L2
open AutoSeq1 (wpAny_loadPart')
section
theorem enum_tup_made (l : Addr) (items : Array Value) (n : Nat) (dct : Option Addr) (sl : Array (Option Value)) :
    Meets (Builtin.«enumerate.__new__» ⟨[.type "enumerate", .ref l], []⟩) (fun _ R s => s.heap.get? l = some { cls := .type "tuple", dict := dct, data := .seq items n, slots := sl } ∧
      R (.ok (.ret (.ref (s.heap.push { cls := .type "tuple_iterator", data := .fields #[.ref l, .int 0 0] }).objs.size)))
        { s with heap := (s.heap.push { cls := .type "tuple_iterator", data := .fields #[.ref l, .int 0 0] }).push { cls := .type "enumerate", data := .fields #[.none, .bool false, .ref s.heap.objs.size, rawInt 0, .none, .none] } }) :=
  .of_wp fun prog w A R s h => by
    obtain ⟨hp, g, d, tk, os⟩ := s; obtain ⟨hl, h⟩ := h
    have hsub := sub_enumerate
    have hT : Heap.IsTuple (Shared.heap ⟨hp, g, d, tk, os⟩) l items := ⟨_, hl, rfl, n, rfl⟩
    wp_walk using wpAny_loadPart' hl
    refine wpAny_stack_any fun st => wpAny_pure ?_
    split
    · rename_i c _ _ _ _ _
      cases (c == Value.type "enumerate") <;>
      · wp_walk using wpAny_loadPart' hl, wpAny_pyIter_tuple hT
        exact ⟨_, rfl, h⟩
    · wp_walk using wpAny_loadPart' hl, wpAny_pyIter_tuple hT
      exact ⟨_, rfl, h⟩
end
section
variable {prog : Program} {w : World} {A : Around} {E : Value → Shared → Prop} {s : Shared}
theorem call_enum_tup {l : Addr} {items : Array Value} {Q : Value → Shared → Prop} (hL : s.heap.IsTuple l items)
    (h : ∀ h', IsEnum h' (s.heap.objs.size + 1) s.heap.objs.size 0 .none → h'.IsTupleIter s.heap.objs.size l 0 → h'.objs.size = s.heap.objs.size + 2 →
      (∀ b o, s.heap.get? b = some o → h'.get? b = some o) → Q (.ref (s.heap.objs.size + 1)) { s with heap := h' }) :
    wpAny (model prog w) A (call (.type "enumerate") [.ref l]) Q E s := by
  obtain ⟨⟨c, dct, dt, sl⟩, hl, hc, n, hd⟩ := hL
  replace hc : c = .type "tuple" := hc
  replace hd : dt = .seq items n := hd
  subst hc hd
  refine callType_new F.called_enumerate (by decide) (F.typeCall_enumerate_1 _) (F.newCall_enumerate_1 _) (fun obj => F.args_object_init_2 obj _) F.entry_enumerate_new (enum_tup_made l items n dct sl) ⟨hl, ?_⟩
  let it : Obj := { cls := .type "tuple_iterator", data := .fields #[.ref l, .int 0 0] }
  let en : Obj := { cls := .type "enumerate", data := .fields #[.none, .bool false, .ref s.heap.objs.size, rawInt 0, .none, .none] }
  have sz : (s.heap.push it).objs.size = s.heap.objs.size + 1 := Heap.size_push ..
  have at_ : ((s.heap.push it).push en).get? (s.heap.objs.size + 1) = some en := by
    rw [← sz]; exact Heap.get?_push_size _ rfl
  show _ ∧ _
  rw [sz]
  exact ⟨⟨_, at_, rfl⟩, h _ at_ ⟨_, Heap.get?_push_of_some _ (Heap.get?_push_size _ rfl), rfl, rfl⟩ (by rw [Heap.size_push, sz]) fun b o x => Heap.get?_push_of_some _ (Heap.get?_push_of_some _ x)⟩
end
/-- the tuple at a, each item in a new pair with its number -/
def IteT (K : PySem.W.Frag) (a : Addr) : It :=
  ⟨fun i H => ∃ (xs : List V) (x : V), SqT K H a xs ∧ xs[i]? = some x, fun i H v H' => ∃ T x, v = .ref T ∧ H T = none ∧ H' = upd H T (.tup [.int (i : Nat), x]) ∧ ∀ xs, SqT K H a xs → xs[i]? = some x, fun i H => ∃ xs : List V, SqT K H a xs ∧ xs.length ≤ i⟩
theorem two_mem {b e it : Addr} (h : b ∈ [e, it]) : b = e ∨ b = it := by simpa using h
theorem turn_enumT {P : Program} {w : World} {K : PySem.W.Frag} {elts : List Expr} {kk : Nat} {tpos : Pos} (a e it : Addr) :
    Turn P w K (.Tuple elts kk tpos) (IteT K a) [e, it] e (fun i h => (∃ old, IsEnum h e it ((i : Nat) : Int) old) ∧ h.IsTupleIter it a i ∧ e ≠ it ∧ a ≠ it ∧ a ≠ e) where
  mem := List.mem_cons_self
  obj := fun i h st b hb => by
    obtain ⟨⟨old, he⟩, ⟨o, ho, hc, hd⟩, _⟩ := st
    rcases two_mem hb with rfl | rfl
    · exact ⟨_, he, fun v q => by cases q⟩
    · exact ⟨o, ho, fun v q => by rw [hd] at q; cases q⟩
  keep := fun i h h' st k => by
    obtain ⟨⟨old, he⟩, hi, hne⟩ := st
    exact ⟨⟨old, k e List.mem_cons_self _ he⟩, hi.at fun o q => k it (List.mem_cons_of_mem _ List.mem_cons_self) o q, hne⟩
  item := by
    intro X hP hw hK hc i pins s σ H E I hf st hg
    subst hP hw hK
    obtain ⟨⟨old, he⟩, hit, hne, hai, hae⟩ := st
    obtain ⟨xs, x, hq, hx⟩ := hg
    obtain ⟨its, rv, p, hz⟩ := I.tuple hq
    obtain ⟨u, hu, ru⟩ := rv.get hx
    have lte : e < s.heap.objs.size := Heap.lt_size he
    have lti : it < s.heap.objs.size := by obtain ⟨_, q, _⟩ := hit; exact Heap.lt_size q
    have hlt : i < its.toArray.size := by
      have q := (List.getElem?_eq_some_iff.mp hu).1
      simpa using q
    have Dr := Draws.tuple (prog := X.prog) (w := X.w) (A := X.A.in1) (show X.A.in1.handled = none from I.ok.hd hc) it a hai its.toArray
    refine wpAny_pyNext_enum_itemD Dr he ⟨hit, (show s.heap.IsTuple a its.toArray from p)⟩ hlt hne (by simp [hne, Ne.symm hae]) fun v h' tk hv ho st' hT hsz hk => ?_
    have ev : v = u := by
      have q : its.toArray[i]? = some u := by simpa using hu
      rw [q] at hv; exact (Option.some.inj hv).symm
    subst ev
    refine ⟨_, rfl, wpAny_letOwnedTupleGo_enum (s := { s with heap := h', toks := tk + 1 }) ho fun h2 he2 sb => ?_⟩
    have hT2 : h2.get? s.heap.objs.size = some { cls := .type "tuple", data := .seq #[.int i tk, v] } := (sb.2 _ (Nat.ne_of_gt lte)).trans hT
    have new : ObjOk X.prog X.w (upd H s.heap.objs.size (.tup [.int (i : Nat), x])) h2 s.heap.objs.size (.tup [.int (i : Nat), x]) :=
      ⟨by rw [← line_eq]; show 2 ≤ line; decide, [.int i tk, v], .cons ⟨_, rfl⟩ (.cons ru .nil), ⟨_, hT2, rfl, _, rfl⟩⟩
    have kept : ∀ b ob, b ∉ [e, it] → s.heap.get? b = some ob → h2.get? b = some ob := fun b ob hb q => by
      have n1 : b ≠ e := fun z => hb (by rw [z]; exact List.mem_cons_self)
      have n2 : b ≠ it := fun z => hb (by rw [z]; exact List.mem_cons_of_mem _ List.mem_cons_self)
      exact (sb.2 b n1).trans (hk b ob n1 n2 q)
    have I1 : L2.Inv X pins σ (upd H s.heap.objs.size (.tup [.int (i : Nat), x])) { s with heap := h2, toks := tk + 1 } := I.turnedNew (ch := [e, it]) kept hf (Nat.le_refl _) new
    refine ⟨.ref s.heap.objs.size, _, I1, rfl, ⟨_, x, rfl, I.hok.fresh (Nat.le_refl _), rfl, fun ys hy => by rw [I.tuple_inj hy hq]; exact hx⟩, ⟨⟨v, ?_⟩, st'.1.at fun o q => (sb.2 it (Ne.symm hne)).trans q, hne, hai, hae⟩, fun b hb => ?_⟩
    · rw [show ((i + 1 : Nat) : Int) = (i : Int) + 1 by omega]; exact he2
    · have hb' : b < s.heap.objs.size := by rcases two_mem hb with rfl | rfl <;> assumption
      rw [upd_ne (Nat.ne_of_lt hb')]
      exact (hf b hb).1
  done := by
    intro X hP hw hK hc i pins s σ H E I hf st hg
    subst hP hw hK
    obtain ⟨⟨old, he⟩, hit, hne, hai, hae⟩ := st
    obtain ⟨xs, hq, hx⟩ := hg
    obtain ⟨its, rv, p, hz⟩ := I.tuple hq
    obtain ⟨f0, f1, f2, f3, f4, f5⟩ := hf it (List.mem_cons_of_mem _ List.mem_cons_self)
    have hl := rv.length
    have hend : its.toArray[i]? = none := by simp; omega
    have hT : s.TypeIs (.ref e) "enumerate" := ⟨_, he, rfl⟩
    unfold pyNext
    refine wpAny_bind (wpAny_attempt (wpAny_callSpecial?_slot (name := Str.ofString "__next__") hT F.slot_enumerate_next (wpAny_call_entry F.slot_enumerate_next hT F.entry_enumerate_next ?_ (F.args_enumerate_next_1 _))))
    show wpAny _ _ (field (.ref e) 2 >>= _) _ _ _
    refine wpAny_bind (wpAny_field he rfl (x := .ref it) rfl ?_)
    refine wpAny_bind (wpAny_nextOf_tuple_end (show X.A.in1.handled = none from I.ok.hd hc) hit (show s.heap.IsTuple a its.toArray from p) hend fun h' x eb hx' => ?_)
    obtain ⟨o, ho, hcl⟩ := hx'
    refine wpAny_bind (wpAny_isInstance (T := "StopIteration") (b := true) ⟨o, ho, hcl⟩ isSubtype_stop ?_)
    exact wpAny_pure ⟨rfl, I.turned (t' := s.toks) (fun b o hb q => eb b o hb q) f0 f1 f3 f4 f5⟩
  self := fun A i s Q E st h => by
    obtain ⟨⟨_, he⟩, _⟩ := st
    exact wpAny_pyIter_enum he h
def iEnumA (K : PySem.W.Frag) (ta : TA) : TI := fun σ H R => ta σ H fun vs H1 => ∃ a xs, vs = [.ref a] ∧ ((SqL K H1 a xs ∧ R (Ite K a) H1) ∨ (SqT K H1 a xs ∧ R (IteT K a) H1))
theorem pi_enumA {X : Cx} {e : Expr} {ta : TA} {p pos tpos : Pos} {elts : List Expr} {kk : Nat} (hg : Gl X "enumerate") (hm : X.mg "enumerate" = none) (ha : PA X [e] ta) (hs : starEach [e] X.env = [(false, eval e X.env)]) :
    PI X (.Tuple elts kk tpos) (.Call (.Name "enumerate" p) [e] [] pos) (iEnumA X.K ta) := by
  refine ⟨fun pins s σ H R I h => ?_⟩
  refine Call_ (ld_blt I hg hm boot_enumerate (PyProof.Rows.callWith_type1 (thn (ha.run pos pins s σ H _ I h) fun us s1 ⟨vs, H1, I1, r1, q1⟩ => ?_) hs rfl))
  obtain ⟨a, xs, ex, q1⟩ := q1
  subst ex
  rw [Vals.ref1 r1]
  have two : ∀ b, b ∈ [s1.heap.objs.size + 1, s1.heap.objs.size] → FpOk X pins H1 b := fun b hb => by
    have hle : s1.heap.objs.size ≤ b := by rcases two_mem hb with rfl | rfl <;> omega
    exact I1.fpOk hle (I1.hok.fresh hle)
  rcases q1 with ⟨hq, q⟩ | ⟨hq, q⟩
  · obtain ⟨its, rv, p', hz⟩ := I1.list hq
    refine call_enumerate_list p'.isList fun h' he hit hsz hk => wpAny_pyIter_enum he ?_
    have I2 : L2.Inv X pins σ H1 { s1 with heap := h' } := I1.kept (t' := s1.toks) hk
    exact ⟨_, _, _, _, H1, rfl, I2, turn_enum a (s1.heap.objs.size + 1) s1.heap.objs.size, ⟨⟨.none, he⟩, hit, Nat.succ_ne_self _⟩, two, q⟩
  · obtain ⟨its, rv, p', hz⟩ := I1.tuple hq
    obtain ⟨o, ho, _⟩ := id p'
    have hlt := Heap.lt_size ho
    refine call_enum_tup (show s1.heap.IsTuple a its.toArray from p') fun h' he hit hsz hk => wpAny_pyIter_enum he ?_
    have I2 : L2.Inv X pins σ H1 { s1 with heap := h' } := I1.kept (t' := s1.toks) hk
    exact ⟨_, _, _, _, H1, rfl, I2, turn_enumT a (s1.heap.objs.size + 1) s1.heap.objs.size, ⟨⟨.none, he⟩, hit, Nat.succ_ne_self _, Nat.ne_of_lt hlt, Nat.ne_of_lt (Nat.lt_succ_of_lt hlt)⟩, two, q⟩
end PyE

namespace PyE
open PySem PySem.Spec PyProof.Rows L2
/-- what a def of the evaluator promises -/
def spF (K : PySem.W.Frag) (cf : CallF) (f : Nat) : Sp := fun vs H Q _ =>
  ∃ z ds d st', Ok K H z ∧ DVsz K z ds vs ∧ cf f ds z.st = .ok d st' ∧ End K false H z d st' Q
/-- the caller's cells that the callee doesn't get -/
def Hid (z : Z) (rs ws : List Nat) (a : Addr) : Prop := ∃ i, i < z.n ∧ i ∉ rs ∧ i ∉ ws ∧ z.mu i = a
open Classical in
noncomputable def hideH (z : Z) (rs ws : List Nat) : Hp := fun a => if Hid z rs ws a then none else z.he a
def muC (z : Z) (rs : List Nat) : Nat → Addr := fun j => z.mu (rs.getD j 0)
section
variable {K : PySem.W.Frag} {H H' : Hp} {z zc zc' : Z} {rs ws : List Nat} {cs cs' : Store}
theorem hideH_no {a : Addr} (h : ¬ Hid z rs ws a) : hideH z rs ws a = z.he a := if_neg h
theorem hideH_some {a : Addr} {o : HO} (h : hideH z rs ws a = some o) : ¬ Hid z rs ws a ∧ z.he a = some o := by
  unfold hideH at h
  split at h
  · cases h
  · rename_i n; exact ⟨n, h⟩
theorem hideH_none {a : Addr} (h : z.he a = none) : hideH z rs ws a = none := by
  unfold hideH
  split
  · rfl
  · exact h
theorem muC_get {j r : Nat} (h : rs[j]? = some r) : muC z rs j = z.mu r := by
  unfold muC
  rw [List.getD_eq_getElem?_getD, h]; rfl
theorem not_hid_of (h : ∀ i, i < z.n → z.mu i ≠ a) : ¬ Hid z rs ws a := fun ⟨i, hi, _, _, e⟩ => h i hi e
theorem hid_ref (ok : Ok K H z) {r : Nat} (hr : r < z.n) (h : r ∈ rs ∨ r ∈ ws) : ¬ Hid z rs ws (z.mu r) := fun ⟨i, hi, h1, h2, e⟩ => by
  have : i = r := ok.sim.inj i r hi hr e
  subst this
  rcases h with h | h
  · exact h1 h
  · exact h2 h
/-- pure data, seen by the callee -/
structure Into (K : PySem.W.Frag) (z : Z) (rs ws : List Nat) (n : Nat) : Prop where
  S : Sim z.he K z.mu z.st
  lt : ∀ r ∈ rs, r < z.n
  len : rs.length = n
theorem muC_ne (i : Into K z rs ws n) {a : Addr} (h : ∀ i, i < z.n → z.mu i ≠ a) : ∀ j, j < n → muC z rs j ≠ a := fun j hj => by
  have hj : j < rs.length := by rw [i.len]; exact hj
  rw [muC_get (List.getElem?_eq_getElem hj)]
  exact h _ (i.lt _ (List.getElem_mem hj))
mutual
theorem DV.into (i : Into K z rs ws n) : ∀ {d : D} {v : V}, DVz K z d v → d.pure = true → DV (hideH z rs ws) K (muC z rs) n d v
  | _, _, .non, _ => .non
  | _, _, .bl b, _ => .bl b
  | _, _, .int b, _ => .int b
  | _, _, .str b, _ => .str b
  | _, _, .tup h1 h2, p => by
    refine .tup ?_ (DVs.into i h2 (by simpa [D.pure] using p))
    rcases h1 with (q | ⟨o, q⟩) | q
    · exact .inl (.inl ((hideH_no (not_hid_of (i.S.ne_tup q))).trans q))
    · exact .inl (.inr ⟨o, (hideH_no (not_hid_of (i.S.ne_frz q))).trans q⟩)
    · exact .inr q
  | _, _, .lst h1 h2 h3, p => by
    refine .lst ?_ (muC_ne i h2) (DVs.into i h3 (by simpa [D.pure] using p))
    rcases h1 with q | ⟨o, q⟩
    · exact .inl ((hideH_no (not_hid_of h2)).trans q)
    · exact .inr ⟨o, (hideH_no (not_hid_of h2)).trans q⟩
  | _, _, .dct h1 h2 h3, p => .dct ((hideH_no (not_hid_of h2)).trans h1) (muC_ne i h2) (DKs.into i h3 (by simpa [D.pure] using p))
  | _, _, .ref _, p => by simp [D.pure] at p
theorem DVs.into (i : Into K z rs ws n) : ∀ {d : List D} {v : List V}, DVsz K z d v → D.pureL d = true → DVs (hideH z rs ws) K (muC z rs) n d v
  | _, _, .nil, _ => .nil
  | _, _, .cons h t, p => by
    simp only [D.pureL, Bool.and_eq_true] at p
    exact .cons (DV.into i h p.1) (DVs.into i t p.2)
theorem DKs.into (i : Into K z rs ws n) : ∀ {d : List D} {v : List (Key × V)}, DKsz K z d v → D.pureL d = true → DKs (hideH z rs ws) K (muC z rs) n d v
  | _, _, .nil, _ => .nil
  | _, _, .cons h t, p => by
    simp only [D.pureL, D.pure, Bool.and_eq_true] at p
    exact .cons (DV.into i h p.1.2.1) (DKs.into i t p.2)
end
theorem cells_ok : ∀ {rs : List Nat} {cs : Store}, cellsAt z.st rs = some cs → rs.length = cs.length ∧ ∀ (j r : Nat), rs[j]? = some r → ∃ c, z.st[r]? = some c ∧ cs[j]? = some c ∧ c.pure = true
  | [], cs, e => by cases e; exact ⟨rfl, fun j r h => by simp at h⟩
  | r :: q, cs, e => by
    unfold cellsAt at e
    simp only [Option.bind_eq_some_iff] at e
    obtain ⟨c, e1, cs2, e2, e3⟩ := e
    split at e3
    · rename_i hp
      cases e3
      obtain ⟨h1, h2⟩ := cells_ok e2
      refine ⟨by rw [List.length_cons, List.length_cons, h1], fun j r' h => ?_⟩
      cases j with
      | zero =>
        have : r = r' := by simpa using h
        subst this
        exact ⟨c, e1, rfl, hp⟩
      | succ j => exact h2 j r' (by simpa using h)
    · cases e3
theorem into_of {rs : List Nat} {cs : Store} (ok : Ok K H z) (e : cellsAt z.st rs = some cs) : Into K z rs ws cs.length := by
  obtain ⟨h1, h2⟩ := cells_ok e
  refine ⟨ok.sim, fun r hr => ?_, h1⟩
  obtain ⟨j, hj, e2⟩ := List.getElem_of_mem hr
  obtain ⟨c, e3, _⟩ := h2 j r (by rw [List.getElem?_eq_getElem hj, e2])
  exact (List.getElem?_eq_some_iff.mp e3).1
/-- the callee's view -/
noncomputable def zC (z : Z) (rs ws : List Nat) (cs : Store) : Z := ⟨hideH z rs ws, muC z rs, cs⟩
theorem nodup_get {rs : List Nat} (nd : rs.Nodup) {i j r : Nat} (h1 : rs[i]? = some r) (h2 : rs[j]? = some r) : i = j := by
  obtain ⟨a, e1⟩ := List.getElem?_eq_some_iff.mp h1
  obtain ⟨b, e2⟩ := List.getElem?_eq_some_iff.mp h2
  exact (List.getElem_inj nd).mp (e1.trans e2.symm)
theorem zC_ok {rs : List Nat} {cs : Store} (ok : Ok K H z) (e : cellsAt z.st rs = some cs) (nd : rs.Nodup) : Ok K H (zC z rs ws cs) := by
  obtain ⟨h1, h2⟩ := cells_ok e
  have i : Into K z rs ws cs.length := into_of ok e
  refine ⟨fun a o q => ok.sub a o (hideH_some q).2, fun a b ha hb q => ?_, fun j c q => ?_⟩
  · have ha : a < rs.length := by rw [h1]; exact ha
    have hb : b < rs.length := by rw [h1]; exact hb
    have q : muC z rs a = muC z rs b := q
    rw [muC_get (List.getElem?_eq_getElem ha), muC_get (List.getElem?_eq_getElem hb)] at q
    have e3 := ok.sim.inj _ _ (i.lt _ (List.getElem_mem ha)) (i.lt _ (List.getElem_mem hb)) q
    exact (List.getElem_inj nd).mp e3
  · have q : cs[j]? = some c := q
    have hj : j < rs.length := by rw [h1]; exact (List.getElem?_eq_some_iff.mp q).1
    obtain ⟨c', e1, e2, hp⟩ := h2 j _ (List.getElem?_eq_getElem hj)
    rw [q] at e2; cases e2
    have hr := i.lt _ (List.getElem_mem hj)
    have k := ok.sim.cell _ _ e1
    have em : (zC z rs ws cs).mu j = z.mu rs[j] := muC_get (List.getElem?_eq_getElem hj)
    have eh : hideH z rs ws (z.mu rs[j]) = z.he (z.mu rs[j]) := hideH_no (hid_ref ok hr (.inl (List.getElem_mem hj)))
    rw [em]
    cases c with
    | lst xs =>
      obtain ⟨vs, k1, k2⟩ := k
      exact ⟨vs, eh.trans k1, k2.into i (by simpa [D.pure] using hp)⟩
    | dct xs =>
      obtain ⟨vs, k1, k2⟩ := k
      exact ⟨vs, eh.trans k1, k2.into i (by simpa [D.pure] using hp)⟩
    | fn _ xs => simp [D.pure] at hp
    | _ => exact k.elim
/-- the arguments -/
theorem prep_ok (ok : Ok K H z) {io : List Nat} {rs ws : List Nat} (i : Into K z rs ws n) (dis : ∀ w ∈ ws, w ∉ rs) : ∀ {xs : List D} {vs : List V} {a j : Nat} {ys : List D} {rs' ws' : List Nat}, DVsz K z xs vs → prep io z.st a j xs = some (ys, rs', ws') →
    (∀ m r, rs'[m]? = some r → rs[j + m]? = some r) → (∀ w ∈ ws', w ∈ ws) → DVs (hideH z rs ws) K (muC z rs) n ys vs
  | _, _, a, j, ys, rs', ws', .nil, e, _, _ => by cases e; exact .nil
  | _, _, a, j, ys, rs', ws', .cons (x := x) (v := v) (xs := xs) (vs := vs) h t, e, hr, hw => by
    unfold prep at e
    split at e
    · split at e
      · rename_i m
        rw [Option.map_eq_some_iff] at e
        obtain ⟨⟨ys1, rs1, ws1⟩, e1, e2⟩ := e
        cases e2
        obtain ⟨hm, rfl⟩ := ref_inv h
        have h0 := hr 0 m rfl
        rw [Nat.add_zero] at h0
        have tl := prep_ok ok i dis t e1 (fun k r hk => by
          have := hr (k + 1) r (by simpa using hk)
          rwa [show j + (k + 1) = j + 1 + k by omega] at this) hw
        refine .cons ?_ tl
        rw [← muC_get h0]
        exact .ref (by rw [← i.len]; exact (List.getElem?_eq_some_iff.mp h0).1)
      · cases e
    · split at e
      · rename_i hp
        rw [Option.map_eq_some_iff] at e
        obtain ⟨⟨ys1, rs1, ws1⟩, e1, e2⟩ := e
        cases e2
        exact .cons (h.into i hp) (prep_ok ok i dis t e1 hr hw)
      · split at e
        · rename_i m hnp
          simp only [Option.bind_eq_some_iff] at e
          obtain ⟨c, e0, e⟩ := e
          split at e
          · rename_i hp
            rw [Option.map_eq_some_iff] at e
            obtain ⟨⟨ys1, rs1, ws1⟩, e1, e2⟩ := e
            cases e2
            obtain ⟨hm, rfl⟩ := ref_inv h
            have hmw : m ∈ ws := hw m List.mem_cons_self
            refine .cons ?_ (prep_ok ok i dis t e1 hr fun w hw' => hw w (List.mem_cons_of_mem _ hw'))
            have eh : hideH z rs ws (z.mu m) = z.he (z.mu m) := hideH_no (hid_ref ok hm (.inr hmw))
            have ne : ∀ k, k < n → muC z rs k ≠ z.mu m := fun k hk q => by
              have hk : k < rs.length := by rw [i.len]; exact hk
              rw [muC_get (List.getElem?_eq_getElem hk)] at q
              have := ok.sim.inj _ _ (i.lt _ (List.getElem_mem hk)) hm q
              exact dis m hmw (this ▸ List.getElem_mem hk)
            have k := ok.sim.cell _ _ e0
            cases c with
            | lst xs =>
              obtain ⟨vs, k1, k2⟩ := k
              exact .lst (.inl (eh.trans k1)) ne (k2.into i (by simpa [D.pure] using hp))
            | dct xs =>
              obtain ⟨vs, k1, k2⟩ := k
              exact .dct (eh.trans k1) ne (k2.into i (by simpa [D.pure] using hp))
            | fn _ xs => simp [D.pure] at hp
            | _ => exact k.elim
          · cases e
        · cases e
/-- what stands behind a callee -/
structure After (K : PySem.W.Frag) (H : Hp) (z : Z) (rs ws : List Nat) (cs : Store) (H' : Hp) (zc' : Z) : Prop where
  ok : Ok K H z
  nd : rs.Nodup
  lt : ∀ r ∈ rs, r < z.n
  len : rs.length = cs.length
  dis : ∀ w ∈ ws, w ∉ rs
  ok' : Ok K H' zc'
  to : To H (zC z rs ws cs) H' zc'
theorem After.le (x : After K H z rs ws cs H' zc') : rs.length ≤ zc'.n := by
  have := x.to.ext.le
  rw [x.len]; exact this
theorem After.mu (x : After K H z rs ws cs H' zc') {j r : Nat} (h : rs[j]? = some r) : zc'.mu j = z.mu r := by
  have hj : j < cs.length := by rw [← x.len]; exact (List.getElem?_eq_some_iff.mp h).1
  exact (x.to.ext.mu j hj).trans (muC_get h)
theorem After.hidden (x : After K H z rs ws cs H' zc') {a : Addr} (h : Hid z rs ws a) : zc'.he a = none := by
  obtain ⟨i, hi, h1, h2, rfl⟩ := h
  have h3 : z.he (z.mu i) ≠ none := x.ok.sim.there hi
  cases e : z.he (z.mu i) with
  | none => exact absurd e h3
  | some o => exact (x.to.hid _ o (x.ok.sub _ _ e) (show hideH z rs ws (z.mu i) = none from if_pos ⟨i, hi, h1, h2, rfl⟩)).2
open Classical in
/-- the caller's view behind the call -/
noncomputable def zB (z zc' : Z) (rs ws : List Nat) (st' : Store) : Z := ⟨fun a => if Hid z rs ws a then z.he a else zc'.he a, z.mu, st'⟩
theorem zB_hid {st' : Store} {a : Addr} (h : Hid z rs ws a) : (zB z zc' rs ws st').he a = z.he a := if_pos h
theorem zB_no {st' : Store} {a : Addr} (h : ¬ Hid z rs ws a) : (zB z zc' rs ws st').he a = zc'.he a := if_neg h
/-- what the callee sees, the caller sees -/
theorem After.sees (x : After K H z rs ws cs H' zc') {st' : Store} {a : Addr} {o : HO} (h : zc'.he a = some o) : (zB z zc' rs ws st').he a = some o := by
  rw [zB_no fun q => by rw [x.hidden q] at h; cases h]; exact h
/-- an address that the callee's cells don't have is no cell of the caller's, but one that was looked at -/
theorem After.out (x : After K H z rs ws cs H' zc') {a : Addr} {o : HO} (h : zc'.he a = some o) (hn : ∀ j, j < zc'.n → zc'.mu j ≠ a) {i : Nat} (hi : i < z.n) (e : z.mu i = a) : i ∈ ws := by
  by_cases h1 : i ∈ rs
  · obtain ⟨j, hj, e2⟩ := List.getElem_of_mem h1
    have e3 : rs[j]? = some i := by rw [List.getElem?_eq_getElem hj, e2]
    exact absurd ((x.mu e3).trans e) (hn j (Nat.lt_of_lt_of_le hj x.le))
  · by_cases h2 : i ∈ ws
    · exact h2
    · rw [x.hidden ⟨i, hi, h1, h2, e⟩] at h; cases h
theorem After.toB (x : After K H z rs ws cs H' zc') {st' : Store} (hl : st'.length = z.n) : To H z H' (zB z zc' rs ws st') := by
  have en : (zB z zc' rs ws st').n = z.n := hl
  refine ⟨?_, fun a o e q => ?_, x.to.there⟩
  · rw [en]
    refine ⟨Nat.le_refl _, fun _ _ => rfl, fun i h1 h2 => absurd h2 (Nat.not_lt.mpr h1), fun a o e hn => ?_, fun a e => ?_⟩
    · have nh : ¬ Hid z rs ws a := not_hid_of hn
      rw [zB_no nh]
      refine x.to.ext.keep a o ((hideH_no nh).trans e) fun j hj q => ?_
      have hj : j < rs.length := by rw [x.len]; exact hj
      have q : muC z rs j = a := q
      rw [muC_get (List.getElem?_eq_getElem hj)] at q
      exact hn _ (x.lt _ (List.getElem_mem hj)) q
    · by_cases nh : Hid z rs ws a
      · rw [zB_hid nh] at e; exact e
      · rw [zB_no nh] at e
        have := x.to.ext.there a e
        rwa [show (zC z rs ws cs).he a = z.he a from hideH_no nh] at this
  · obtain ⟨h1, h2⟩ := x.to.hid a o e (hideH_none q)
    refine ⟨h1, ?_⟩
    by_cases nh : Hid z rs ws a
    · rw [zB_hid nh]; exact q
    · rw [zB_no nh]; exact h2
/-- a view of the caller's in which what the callee made is seen -/
structure Out (K : PySem.W.Frag) (z zc' : Z) (rs ws : List Nat) (he : Hp) (n : Nat) : Prop where
  tup : ∀ a vs, SqT K zc'.he a vs → SqT K he a vs
  box : ∀ a u, Rd zc'.he a u → (∀ j, j < zc'.n → zc'.mu j ≠ a) → Rd he a u
  dct : ∀ a kvs, zc'.he a = some (.dK kvs) → (∀ j, j < zc'.n → zc'.mu j ≠ a) → he a = some (.dK kvs)
  no : ∀ a o, zc'.he a = some o → (∀ j, j < zc'.n → zc'.mu j ≠ a) → ws = [] → ∀ i, i < n → z.mu i ≠ a
theorem After.outB (x : After K H z rs ws cs H' zc') {st' : Store} : Out K z zc' rs ws (zB z zc' rs ws st').he z.n where
  tup := fun a vs h => by
    rcases h with (q | ⟨o, q⟩) | q
    · exact .inl (.inl (x.sees q))
    · exact .inl (.inr ⟨o, x.sees q⟩)
    · exact .inr q
  box := fun a u h _ => by
    rcases h with q | ⟨o, q⟩
    · exact .inl (x.sees q)
    · exact .inr ⟨o, x.sees q⟩
  dct := fun a kvs h _ => x.sees h
  no := fun a o h hn e i hi q => by
    have := x.out h hn hi q
    rw [e] at this; cases this
theorem Out.rd (x : Out K z zc' rs ws he n) {a : Addr} {u : HO} (h : Rd zc'.he a u) (hn : ∀ j, j < zc'.n → zc'.mu j ≠ a) (e : ws = []) : ∀ i, i < n → z.mu i ≠ a := by
  rcases h with q | ⟨o, q⟩
  · exact x.no a _ q hn e
  · exact x.no a _ q hn e
mutual
theorem DV.out (x : Out K z zc' rs ws he n) : ∀ {d : D} {v : V}, DVz K zc' d v → d.pure = true → (ws = [] ∨ d.clean = true) → DV he K z.mu n d v
  | _, _, .non, _, _ => .non
  | _, _, .bl b, _, _ => .bl b
  | _, _, .int b, _, _ => .int b
  | _, _, .str b, _, _ => .str b
  | _, _, .tup h1 h2, p, c => .tup (x.tup _ _ h1) (DVs.out x h2 (by simpa [D.pure] using p) (by simpa [D.clean] using c))
  | _, _, .lst h1 h2 h3, p, c => by
    have e : ws = [] := by simpa [D.clean] using c
    exact .lst (x.box _ _ h1 h2) (x.rd h1 h2 e) (DVs.out x h3 (by simpa [D.pure] using p) (.inl e))
  | _, _, .dct h1 h2 h3, p, c => by
    have e : ws = [] := by simpa [D.clean] using c
    exact .dct (x.dct _ _ h1 h2) (x.no _ _ h1 h2 e) (DKs.out x h3 (by simpa [D.pure] using p) (.inl e))
  | _, _, .ref _, p, _ => by simp [D.pure] at p
theorem DVs.out (x : Out K z zc' rs ws he n) : ∀ {d : List D} {v : List V}, DVsz K zc' d v → D.pureL d = true → (ws = [] ∨ D.cleanL d = true) → DVs he K z.mu n d v
  | _, _, .nil, _, _ => .nil
  | _, _, .cons h t, p, c => by
    simp only [D.pureL, Bool.and_eq_true] at p
    simp only [D.cleanL, Bool.and_eq_true] at c
    exact .cons (DV.out x h p.1 (c.imp_right And.left)) (DVs.out x t p.2 (c.imp_right And.right))
theorem DKs.out (x : Out K z zc' rs ws he n) : ∀ {d : List D} {v : List (Key × V)}, DKsz K zc' d v → D.pureL d = true → (ws = [] ∨ D.cleanL d = true) → DKs he K z.mu n d v
  | _, _, .nil, _, _ => .nil
  | _, _, .cons h t, p, c => by
    simp only [D.pureL, D.pure, Bool.and_eq_true] at p
    simp only [D.cleanL, D.clean, Bool.and_eq_true] at c
    exact .cons (DV.out x h p.1.2.1 (c.imp_right fun q => q.1.2.1)) (DKs.out x t p.2 (c.imp_right And.right))
end
end
end PyE

namespace PyE
open PySem PySem.Spec PyProof.Rows L2
section
variable {K : PySem.W.Frag} {H H' : Hp} {z zc' : Z} {rs ws : List Nat} {cs : Store}
/-- a cell that the callee made is no cell of the caller's -/
theorem After.made (x : After K H z rs ws cs H' zc') {k : Nat} (h1 : rs.length ≤ k) (h2 : k < zc'.n) : ∀ i, i < z.n → z.mu i ≠ zc'.mu k := fun i hi e => by
  have hf : hideH z rs ws (zc'.mu k) = none := x.to.ext.fresh k (by show cs.length ≤ k; rw [← x.len]; exact h1) h2
  by_cases h3 : i ∈ rs
  · obtain ⟨j, hj, e2⟩ := List.getElem_of_mem h3
    have e3 : rs[j]? = some i := by rw [List.getElem?_eq_getElem hj, e2]
    have := x.ok'.sim.inj j k (Nat.lt_of_lt_of_le hj x.le) h2 ((x.mu e3).trans e)
    omega
  · by_cases h4 : i ∈ ws
    · rw [← e, hideH_no (hid_ref x.ok hi (.inr h4))] at hf
      exact x.ok.sim.there hi hf
    · have := x.hidden ⟨i, hi, h3, h4, e⟩
      exact x.ok'.sim.there h2 this
theorem mapO_cons {α β : Type} {f : α → Option β} {x : α} {r : List α} {ys : List β} (h : mapO f (x :: r) = some ys) : ∃ y q, ys = y :: q ∧ f x = some y ∧ mapO f r = some q := by
  unfold mapO at h
  simp only [Option.bind_eq_some_iff, Option.map_eq_some_iff] at h
  obtain ⟨y, e1, q, e2, e3⟩ := h
  exact ⟨y, q, e3.symm, e1, e2⟩
theorem frz_atom {n : Nat} (k : Key) : frz rs cs (n + 1) (kD k) = some (kD k) := by cases k <;> rfl
theorem frz_ok (x : After K H z rs ws cs H' zc') {st' : Store} : ∀ (n : Nat) (d : D) (v : V) (d' : D), DVz K zc' d v → frz rs zc'.st n d = some d' → (ws = [] ∨ d'.clean = true) → DV (zB z zc' rs ws st').he K z.mu z.n d' v
  | 0, _, _, _, _, e, _ => by cases e
  | n + 1, d, v, d', dv, e, c => by
    have ih := frz_ok x (st' := st') n
    have L : ∀ (xs : List D) (vs : List V) (ds : List D), DVsz K zc' xs vs → mapO (frz rs zc'.st n) xs = some ds → (ws = [] ∨ D.cleanL ds = true) → DVs (zB z zc' rs ws st').he K z.mu z.n ds vs := by
      intro xs
      induction xs with
      | nil => intro vs ds h e c; cases h; cases e; exact .nil
      | cons a r ihr =>
        intro vs ds h e c
        obtain ⟨y, q, rfl, e1, e2⟩ := mapO_cons e
        cases h with
        | cons h t =>
          simp only [D.cleanL, Bool.and_eq_true] at c
          exact .cons (ih _ _ _ h e1 (c.imp_right And.left)) (ihr _ _ t e2 (c.imp_right And.right))
    have LK : ∀ (es : List D) (kvs : List (Key × V)) (ds : List D), DKsz K zc' es kvs → mapO (frz rs zc'.st n) es = some ds → ws = [] → DKs (zB z zc' rs ws st').he K z.mu z.n ds kvs := by
      intro es
      induction es with
      | nil => intro kvs ds h e c; cases h; cases e; exact .nil
      | cons a r ihr =>
        intro kvs ds h e c
        obtain ⟨y, q, rfl, e1, e2⟩ := mapO_cons e
        cases h with
        | cons h t =>
          rename_i k d0 w kvs'
          cases n with
          | zero => cases e1
          | succ m =>
            have e1 : (mapO (frz rs zc'.st m) [kD k, d0]).map .tup = some y := e1
            rw [Option.map_eq_some_iff] at e1
            obtain ⟨zs, e3, rfl⟩ := e1
            obtain ⟨y1, q1, rfl, e4, e5⟩ := mapO_cons e3
            obtain ⟨y2, q2, rfl, e6, e7⟩ := mapO_cons e5
            cases e7
            cases m with
            | zero => cases e4
            | succ m =>
              rw [frz_atom] at e4
              cases e4
              have h7 := frz_ok x (st' := st') (m + 1) d0 w y2 h e6 (.inl c)
              exact .cons h7 (ihr _ _ t e2 c)
    cases dv with
    | non => cases e; exact .non
    | bl b => cases e; exact .bl b
    | int b => cases e; exact .int b
    | str b => cases e; exact .str b
    | tup h1 h2 =>
      have e : (mapO (frz rs zc'.st n) _).map .tup = some d' := e
      rw [Option.map_eq_some_iff] at e
      obtain ⟨ds, e1, rfl⟩ := e
      exact .tup (x.outB.tup _ _ h1) (L _ _ _ h2 e1 (by simpa [D.clean] using c))
    | lst h1 h2 h3 =>
      have e : (mapO (frz rs zc'.st n) _).map .lst = some d' := e
      rw [Option.map_eq_some_iff] at e
      obtain ⟨ds, e1, rfl⟩ := e
      have ew : ws = [] := by simpa [D.clean] using c
      exact .lst (x.outB.box _ _ h1 h2) ((x.outB (st' := st')).rd h1 h2 ew) (L _ _ _ h3 e1 (.inl ew))
    | dct h1 h2 h3 =>
      have e : (mapO (frz rs zc'.st n) _).map .dct = some d' := e
      rw [Option.map_eq_some_iff] at e
      obtain ⟨ds, e1, rfl⟩ := e
      have ew : ws = [] := by simpa [D.clean] using c
      exact .dct (x.outB.dct _ _ h1 h2) ((x.outB (st' := st')).no _ _ h1 h2 ew) (LK _ _ _ h3 e1 ew)
    | ref hk =>
      rename_i k
      have e : (if k < rs.length then (rs[k]?).map .ref else (zc'.st[k]?).bind (frz rs zc'.st n)) = some d' := e
      split at e
      · rename_i hkr
        rw [Option.map_eq_some_iff] at e
        obtain ⟨r, e1, rfl⟩ := e
        rw [x.mu e1]
        exact .ref (x.lt r (List.mem_of_getElem? e1))
      · rename_i hkr
        rw [Option.bind_eq_some_iff] at e
        obtain ⟨c0, e1, e2⟩ := e
        have hk2 : k < zc'.n := hk
        have ck := x.ok'.sim.cell k c0 e1
        have mk := x.made (Nat.not_lt.mp hkr) hk2
        cases n with
        | zero => cases e2
        | succ m =>
          have IL : ∀ (xs : List D) (vs : List V) (ds : List D), DVsz K zc' xs vs → mapO (frz rs zc'.st m) xs = some ds → ws = [] → DVs (zB z zc' rs ws st').he K z.mu z.n ds vs := by
            intro xs
            induction xs with
            | nil => intro vs ds h e c; cases h; cases e; exact .nil
            | cons a r ihr =>
              intro vs ds h e c
              obtain ⟨y, q, rfl, e1, e2⟩ := mapO_cons e
              cases h with
              | cons h t => exact .cons (frz_ok x m _ _ _ h e1 (.inl c)) (ihr _ _ t e2 c)
          have IK : ∀ (es : List D) (kvs : List (Key × V)) (ds : List D), DKsz K zc' es kvs → mapO (frz rs zc'.st m) es = some ds → ws = [] → DKs (zB z zc' rs ws st').he K z.mu z.n ds kvs := by
            intro es
            induction es with
            | nil => intro kvs ds h e c; cases h; cases e; exact .nil
            | cons a r ihr =>
              intro kvs ds h e c
              obtain ⟨y, q, rfl, e1, e2⟩ := mapO_cons e
              cases h with
              | cons h t =>
                rename_i k' d0 w kvs'
                cases m with
                | zero => cases e1
                | succ m =>
                  have e1 : (mapO (frz rs zc'.st m) [kD k', d0]).map .tup = some y := e1
                  rw [Option.map_eq_some_iff] at e1
                  obtain ⟨zs, e3, rfl⟩ := e1
                  obtain ⟨y1, q1, rfl, e4, e5⟩ := mapO_cons e3
                  obtain ⟨y2, q2, rfl, e6, e7⟩ := mapO_cons e5
                  cases e7
                  cases m with
                  | zero => cases e4
                  | succ m =>
                    rw [frz_atom] at e4
                    cases e4
                    exact .cons (frz_ok x (m + 1) d0 w y2 h e6 (.inl c)) (ihr _ _ t e2 c)
          cases c0 with
          | lst xs =>
            obtain ⟨vs, k1, k2⟩ := ck
            have e2 : (mapO (frz rs zc'.st m) xs).map .lst = some d' := e2
            rw [Option.map_eq_some_iff] at e2
            obtain ⟨ds, e3, rfl⟩ := e2
            have ew : ws = [] := by simpa [D.clean] using c
            exact .lst (.inl (x.sees k1)) mk (IL _ _ _ k2 e3 ew)
          | dct xs =>
            obtain ⟨vs, k1, k2⟩ := ck
            have e2 : (mapO (frz rs zc'.st m) xs).map .dct = some d' := e2
            rw [Option.map_eq_some_iff] at e2
            obtain ⟨ds, e3, rfl⟩ := e2
            have ew : ws = [] := by simpa [D.clean] using c
            exact .dct (x.sees k1) mk (IK _ _ _ k2 e3 ew)
          | fn _ xs => cases m <;> cases e2
          | _ => exact ck.elim
termination_by n => n
theorem back_ok (x : After K H z rs ws cs H' zc') {st' : Store} {d d' : D} {v : V} (dv : DVz K zc' d v) (e : back rs zc'.st d = some d') (c : ws = [] ∨ d'.clean = true) : DV (zB z zc' rs ws st').he K z.mu z.n d' v := by
  unfold back at e
  split at e
  · rename_i hp
    cases e
    exact dv.out x.outB hp c
  · exact frz_ok x 50 d v d' dv e c
mutual
theorem pure_clean : ∀ d : D, d.clean = true → d.pure = true
  | .non, _ => rfl
  | .bl _, _ => rfl
  | .int _, _ => rfl
  | .str _, _ => rfl
  | .tup xs, h => by
    simp only [D.clean] at h
    simp only [D.pure]
    exact pureL_clean xs h
  | .lst _, h => by simp [D.clean] at h
  | .dct _, h => by simp [D.clean] at h
  | .ref _, h => by simp [D.clean] at h
  | .fn _ _, h => by simp [D.clean] at h
theorem pureL_clean : ∀ ds : List D, D.cleanL ds = true → D.pureL ds = true
  | [], _ => rfl
  | d :: ds, h => by
    simp only [D.cleanL, Bool.and_eq_true] at h
    simp only [D.pureL, Bool.and_eq_true]
    exact ⟨pure_clean d h.1, pureL_clean ds h.2⟩
end
theorem list_frz (x : After K H z rs ws cs H' zc') {st' : Store} (m : Nat) (ew : ws = []) : ∀ (xs : List D) (vs : List V) (ds : List D), DVsz K zc' xs vs → mapO (frz rs zc'.st m) xs = some ds → DVs (zB z zc' rs ws st').he K z.mu z.n ds vs := by
  intro xs
  induction xs with
  | nil => intro vs ds h e; cases h; cases e; exact .nil
  | cons a r ihr =>
    intro vs ds h e
    obtain ⟨y, q, rfl, e1, e2⟩ := mapO_cons e
    cases h with
    | cons h t => exact .cons (frz_ok x m _ _ _ h e1 (.inl ew)) (ihr _ _ t e2)
theorem dict_frz (x : After K H z rs ws cs H' zc') {st' : Store} (m : Nat) (ew : ws = []) : ∀ (es : List D) (kvs : List (Key × V)) (ds : List D), DKsz K zc' es kvs → mapO (frz rs zc'.st m) es = some ds → DKs (zB z zc' rs ws st').he K z.mu z.n ds kvs := by
  intro es
  induction es with
  | nil => intro kvs ds h e; cases h; cases e; exact .nil
  | cons a r ihr =>
    intro kvs ds h e
    obtain ⟨y, q, rfl, e1, e2⟩ := mapO_cons e
    cases h with
    | cons h t =>
      rename_i k' d0 w kvs'
      cases m with
      | zero => cases e1
      | succ m =>
        have e1 : (mapO (frz rs zc'.st m) [kD k', d0]).map .tup = some y := e1
        rw [Option.map_eq_some_iff] at e1
        obtain ⟨zs, e3, rfl⟩ := e1
        obtain ⟨y1, q1, rfl, e4, e5⟩ := mapO_cons e3
        obtain ⟨y2, q2, rfl, e6, e7⟩ := mapO_cons e5
        cases e7
        cases m with
        | zero => cases e4
        | succ m =>
          rw [frz_atom] at e4
          cases e4
          exact .cons (frz_ok x (m + 1) d0 w y2 h e6 (.inl ew)) (ihr _ _ t e2)
theorem cell_back (x : After K H z rs ws cs H' zc') {st' : Store} {c0 c' : D} {a : Addr} (k : CellOk zc'.he K zc'.mu zc'.n c0 a) (e : back rs zc'.st c0 = some c') (c : ws = [] ∨ cleanCell c0 = true) (ha : (zB z zc' rs ws st').he a = zc'.he a) :
    CellOk (zB z zc' rs ws st').he K z.mu z.n c' a := by
  cases c0 with
  | lst xs =>
    obtain ⟨vs, k1, k2⟩ := k
    by_cases hp : D.pureL xs = true
    · have e1 : back rs zc'.st (.lst xs) = some (.lst xs) := if_pos (by simpa [D.pure] using hp)
      rw [e1] at e; cases e
      exact ⟨vs, ha.trans k1, k2.out x.outB hp c⟩
    · have ew : ws = [] := c.resolve_right fun q => hp (pureL_clean xs q)
      have e1 : back rs zc'.st (.lst xs) = frz rs zc'.st 50 (.lst xs) := if_neg (by simpa [D.pure] using hp)
      rw [e1] at e
      have e : (mapO (frz rs zc'.st 49) xs).map .lst = some c' := e
      rw [Option.map_eq_some_iff] at e
      obtain ⟨ds, e2, rfl⟩ := e
      exact ⟨vs, ha.trans k1, list_frz x 49 ew _ _ _ k2 e2⟩
  | dct xs =>
    obtain ⟨vs, k1, k2⟩ := k
    by_cases hp : D.pureL xs = true
    · have e1 : back rs zc'.st (.dct xs) = some (.dct xs) := if_pos (by simpa [D.pure] using hp)
      rw [e1] at e; cases e
      exact ⟨vs, ha.trans k1, k2.out x.outB hp c⟩
    · have ew : ws = [] := c.resolve_right fun q => hp (pureL_clean xs q)
      have e1 : back rs zc'.st (.dct xs) = frz rs zc'.st 50 (.dct xs) := if_neg (by simpa [D.pure] using hp)
      rw [e1] at e
      have e : (mapO (frz rs zc'.st 49) xs).map .dct = some c' := e
      rw [Option.map_eq_some_iff] at e
      obtain ⟨ds, e2, rfl⟩ := e
      exact ⟨vs, ha.trans k1, dict_frz x 49 ew _ _ _ k2 e2⟩
  | fn c0 xs =>
    have e1 : back rs zc'.st (.fn c0 xs) = frz rs zc'.st 50 (.fn c0 xs) := if_neg (by simp [D.pure])
    rw [e1] at e
    cases e
  | _ => exact k.elim
theorem putBack_ok {rs : List Nat} {cs' : Store} : ∀ {q : List Nat} {i : Nat} {st st' : Store}, putBack rs cs' i q st = some st' → q.Nodup → (∀ r ∈ q, r < st.length) →
    st'.length = st.length ∧ (∀ r, r ∉ q → st'[r]? = st[r]?) ∧ ∀ (j r : Nat), q[j]? = some r → ∃ c c', cs'[i + j]? = some c ∧ back rs cs' c = some c' ∧ st'[r]? = some c'
  | [], i, st, st', e, _, _ => by cases e; exact ⟨rfl, fun _ _ => rfl, fun j r h => by simp at h⟩
  | p :: q, i, st, st', e, nd, hl => by
    unfold putBack at e
    simp only [Option.bind_eq_some_iff] at e
    obtain ⟨c, e1, c', e2, e3⟩ := e
    obtain ⟨n1, n2⟩ := List.nodup_cons.mp nd
    obtain ⟨h1, h2, h3⟩ := putBack_ok e3 n2 fun r hr => by rw [List.length_set]; exact hl r (List.mem_cons_of_mem _ hr)
    refine ⟨h1.trans List.length_set, fun r hr => ?_, fun j r h => ?_⟩
    · rw [h2 r fun z => hr (List.mem_cons_of_mem _ z), List.getElem?_set_ne fun (w : p = r) => hr (by rw [w]; exact List.mem_cons_self)]
    · cases j with
      | zero =>
        have : p = r := by simpa using h
        subst this
        refine ⟨c, c', e1, e2, ?_⟩
        rw [h2 p n1, List.getElem?_set_self (hl p List.mem_cons_self)]
      | succ j =>
        obtain ⟨c1, c2, q1, q2, q3⟩ := h3 j r (by simpa using h)
        exact ⟨c1, c2, by rw [show i + (j + 1) = i + 1 + j by omega]; exact q1, q2, q3⟩
/-- the caller behind the call -/
theorem After.zB_ok (x : After K H z rs ws cs H' zc') {st' : Store} (e : putBack rs zc'.st 0 rs z.st = some st') (c : ws = [] ∨ (zc'.st.take rs.length).all cleanCell = true) : Ok K H' (zB z zc' rs ws st') ∧ To H z H' (zB z zc' rs ws st') ∧ st'.length = z.n := by
  obtain ⟨hl, h2, h3⟩ := putBack_ok e x.nd x.lt
  have t : To H z H' (zB z zc' rs ws st') := x.toB hl
  refine ⟨⟨fun a o q => ?_, ?_⟩, t, hl⟩
  · by_cases nh : Hid z rs ws a
    · rw [zB_hid nh] at q
      exact (x.to.hid a o (x.ok.sub a o q) (if_pos nh)).1
    · rw [zB_no nh] at q
      exact x.ok'.sub a o q
  · refine ⟨fun i j hi hj q => x.ok.sim.inj i j (Nat.lt_of_lt_of_eq hi hl) (Nat.lt_of_lt_of_eq hj hl) q, fun i d q => ?_⟩
    have hi : i < z.n := Nat.lt_of_lt_of_eq (List.getElem?_eq_some_iff.mp q).1 hl
    show CellOk (zB z zc' rs ws st').he K z.mu st'.length d (z.mu i)
    rw [hl]
    by_cases hr : i ∈ rs
    · obtain ⟨j, hj, e2⟩ := List.getElem_of_mem hr
      have e3 : rs[j]? = some i := by rw [List.getElem?_eq_getElem hj, e2]
      obtain ⟨c0, c', q1, q2, q3⟩ := h3 j i e3
      have q : st'[i]? = some d := q
      rw [q3] at q; cases q
      rw [Nat.zero_add] at q1
      have k := x.ok'.sim.cell j c0 q1
      rw [x.mu e3] at k
      refine cell_back x k q2 (c.imp_right fun w => ?_) (zB_no (hid_ref x.ok hi (.inl hr)))
      exact List.all_eq_true.mp w c0 (List.mem_of_getElem? (by rw [List.getElem?_take_of_lt hj]; exact q1))
    · have q : st'[i]? = some d := q
      rw [h2 i hr] at q
      have k := x.ok.sim.cell i d q
      have en : (zB z zc' rs ws st').n = z.n := hl
      have tx := t.ext
      rw [en] at tx
      refine k.mono tx x.ok.sim ?_
      by_cases nh : Hid z rs ws (z.mu i)
      · rw [zB_hid nh]
      · rw [zB_no nh]
        have ho : ∃ o, z.he (z.mu i) = some o := by
          cases w : z.he (z.mu i) with
          | none => exact absurd w (x.ok.sim.there hi)
          | some o => exact ⟨o, rfl⟩
        obtain ⟨o, ho⟩ := ho
        rw [ho]
        refine x.to.ext.keep _ o ((hideH_no nh).trans ho) fun j hj w => ?_
        have hj : j < rs.length := by rw [x.len]; exact hj
        have w : muC z rs j = z.mu i := w
        rw [muC_get (List.getElem?_eq_getElem hj)] at w
        have := x.ok.sim.inj _ _ (x.lt _ (List.getElem_mem hj)) hi w
        exact hr (this ▸ List.getElem_mem hj)
/-- THE CALL -/
theorem callIn_ok {cf : CallF} {f : Nat} {xs : List D} {io : List Nat} {fresh : Bool} {vs : List V} {d : D} {st' : Store} {Q : VK} {E : XK} (ok : Ok K H z) (dv : DVsz K z xs vs) (e : callIn cf f xs io fresh z.st = .ok d st') (q : End K false H z d st' Q) : spF K cf f vs H Q E := by
  unfold callIn at e
  split at e
  · cases e
  · rename_i ys rs ws e1
    split at e
    · cases e
    · rename_i cs e2
      obtain ⟨hg, e⟩ := guard_ok e
      simp only [Bool.and_eq_true, decide_eq_true_eq, List.all_eq_true, Bool.not_eq_true'] at hg
      have dis : ∀ w ∈ ws, w ∉ rs := fun w hw hr => by
        have := hg.2 w hw
        rw [List.contains_iff_mem.mpr hr] at this; cases this
      split at e
      · rename_i d0 cs' e3
        have i : Into K z rs ws cs.length := into_of ok e2
        have okc : Ok K H (zC z rs ws cs) := zC_ok ok e2 hg.1
        have dvc : DVsz K (zC z rs ws cs) ys vs := prep_ok ok i dis dv e1 (fun m r h => by rw [Nat.zero_add]; exact h) fun w h => h
        refine ⟨zC z rs ws cs, ys, d0, cs', okc, dvc, e3, fun H' zc' v ez ok' to' dv' frx => ?_⟩
        have x : After K H z rs ws cs H' zc' := ⟨ok, hg.1, i.lt, (cells_ok e2).1, dis, ok', to'⟩
        rw [← ez] at e
        unfold callBack at e
        split at e
        · cases e
        · rename_i st1 e4
          split at e
          · -- a new cell
            split at e
            · rename_i k
              split at e
              · rename_i c e5
                obtain ⟨hg2, e⟩ := guard_ok e
                simp only [Bool.and_eq_true, decide_eq_true_eq] at hg2
                obtain ⟨⟨⟨g1, g2⟩, g3⟩, g4⟩ := hg2
                have ew : ws = [] := by simpa using g4
                obtain ⟨okB, toB, lB⟩ := x.zB_ok e4 (.inl ew)
                cases e
                obtain ⟨hk, rfl⟩ := ref_inv dv'
                have mk := x.made g1 hk
                have ck := ok'.sim.cell k c e5
                obtain ⟨h0, hh0⟩ : ∃ h0 : Hp, h0 = fun b => if b = zc'.mu k then none else (zB z zc' rs ws st1).he b := ⟨_, rfl⟩
                have h0k : h0 (zc'.mu k) = none := by rw [hh0]; exact if_pos rfl
                have h0n : ∀ b, b ≠ zc'.mu k → h0 b = (zB z zc' rs ws st1).he b := fun b hb => by rw [hh0]; exact if_neg hb
                have zk : z.he (zc'.mu k) = none := by
                  have hf : hideH z rs ws (zc'.mu k) = none := to'.ext.fresh k (by show cs.length ≤ k; rw [← x.len]; exact g1) hk
                  rwa [hideH_no (not_hid_of mk)] at hf
                have kk : ∀ o, zc'.he (zc'.mu k) = some o → (∃ l, o = .lst l) ∨ ∃ l, o = .dK l := fun o ho => by
                  cases c with
                  | lst _ => obtain ⟨l, w, _⟩ := ck; rw [w] at ho; cases ho; exact .inl ⟨l, rfl⟩
                  | dct _ => obtain ⟨l, w, _⟩ := ck; rw [w] at ho; cases ho; exact .inr ⟨l, rfl⟩
                  | fn _ _ => simp [D.pure] at g2
                  | _ => exact ck.elim
                have ex0 : Ext z.he z.mu z.n h0 z.mu z.n := by
                  have tx := toB.ext
                  rw [show (zB z zc' rs ws st1).n = z.n from lB] at tx
                  refine ⟨Nat.le_refl _, fun _ _ => rfl, fun i h1 h2 => absurd h2 (Nat.not_lt.mpr h1), fun a o w hn => ?_, fun a w => ?_⟩
                  · rw [h0n a (fun ea => by rw [ea, zk] at w; cases w)]
                    exact tx.keep a o w hn
                  · by_cases ea : a = zc'.mu k
                    · rw [ea]; exact zk
                    · rw [h0n a ea] at w
                      exact tx.there a w
                have out0 : Out K z zc' rs ws h0 z.n := ⟨fun a l w => by
                    have w2 := (x.outB (st' := st1)).tup a l w
                    have na : ∀ o, zc'.he a = some o → (∃ l, o = .tup l) ∨ (∃ ob u, o = .frz ob u) → a ≠ zc'.mu k := fun o ho hk2 ea => by
                      subst ea
                      rcases kk o ho with ⟨l2, e6⟩ | ⟨l2, e6⟩ <;> rcases hk2 with ⟨l3, e7⟩ | ⟨ob, u, e7⟩ <;> (rw [e6] at e7; cases e7)
                    rcases w with (w | ⟨o, w⟩) | w
                    · exact .inl (.inl ((h0n a (na _ w (.inl ⟨_, rfl⟩))).trans (x.sees w)))
                    · exact .inl (.inr ⟨o, (h0n a (na _ w (.inr ⟨_, _, rfl⟩))).trans (x.sees w)⟩)
                    · exact .inr w,
                  fun a u w hn => by
                    have na : a ≠ zc'.mu k := Ne.symm (hn k hk)
                    rcases w with w | ⟨o, w⟩
                    · exact .inl ((h0n a na).trans (x.sees w))
                    · exact .inr ⟨o, (h0n a na).trans (x.sees w)⟩,
                  fun a l w hn => (h0n a (Ne.symm (hn k hk))).trans (x.sees w),
                  fun a o w hn e i hi q => by
                    have := x.out w hn hi q
                    rw [e] at this; cases this⟩
                obtain ⟨hl1, hp2, hp3⟩ := putBack_ok e4 x.nd x.lt
                have S0 : Sim h0 K z.mu st1 := by
                  refine ⟨fun a b ha hb w => ok.sim.inj a b (Nat.lt_of_lt_of_eq ha lB) (Nat.lt_of_lt_of_eq hb lB) w, fun a dd w => ?_⟩
                  rw [lB]
                  have ha : a < z.n := Nat.lt_of_lt_of_eq (List.getElem?_eq_some_iff.mp w).1 lB
                  have hne : z.mu a ≠ zc'.mu k := mk a ha
                  by_cases hr : a ∈ rs
                  · obtain ⟨j, hj, e6⟩ := List.getElem_of_mem hr
                    have e7 : rs[j]? = some a := by rw [List.getElem?_eq_getElem hj, e6]
                    obtain ⟨c0, c', q1, q2, q3⟩ := hp3 j a e7
                    rw [q3] at w; cases w
                    rw [Nat.zero_add] at q1
                    have pc : c0.pure = true := List.all_eq_true.mp g3 c0 (List.mem_of_getElem? (by rw [List.getElem?_take_of_lt hj]; exact q1))
                    have e8 : back rs zc'.st c0 = some c0 := if_pos pc
                    rw [e8] at q2; cases q2
                    have kc := ok'.sim.cell j dd q1
                    rw [x.mu e7] at kc
                    have eh : h0 (z.mu a) = zc'.he (z.mu a) := (h0n _ hne).trans (zB_no (hid_ref ok ha (.inl hr)))
                    cases dd with
                    | lst l =>
                      obtain ⟨l2, k1, k2⟩ := kc
                      exact ⟨l2, eh.trans k1, k2.out out0 (by simpa [D.pure] using pc) (.inl ew)⟩
                    | dct l =>
                      obtain ⟨l2, k1, k2⟩ := kc
                      exact ⟨l2, eh.trans k1, k2.out out0 (by simpa [D.pure] using pc) (.inl ew)⟩
                    | fn _ l => simp [D.pure] at pc
                    | _ => exact kc.elim
                  · have kz := ok.sim.cell a dd (by rw [← hp2 a hr]; exact w)
                    refine kz.mono ex0 ok.sim ((h0n _ hne).trans ?_)
                    by_cases nh : Hid z rs ws (z.mu a)
                    · rw [zB_hid nh]
                    · exfalso
                      refine nh ⟨a, ha, hr, ?_, rfl⟩
                      rw [ew]; simp
                have eqh : ∀ o, zc'.he (zc'.mu k) = some o → (zB z zc' rs ws st1).he = upd h0 (zc'.mu k) o := fun o ho => by
                  funext b
                  by_cases eb : b = zc'.mu k
                  · subst eb; rw [upd_same]; exact x.sees ho
                  · rw [upd_ne eb]; exact (h0n b eb).symm
                obtain ⟨o, ho, co⟩ : ∃ o, zc'.he (zc'.mu k) = some o ∧ CellOk (upd h0 (zc'.mu k) o) K (muAt z.mu st1.length (zc'.mu k)) (st1.length + 1) c (zc'.mu k) := by
                  cases c with
                  | lst l =>
                    obtain ⟨l2, k1, k2⟩ := ck
                    refine ⟨_, k1, l2, upd_same, ?_⟩
                    have d0 : DVs h0 K z.mu st1.length l l2 := by rw [lB]; exact k2.out out0 (by simpa [D.pure] using g2) (.inl ew)
                    exact d0.mono (Ext.thaw h0k) S0
                  | dct l =>
                    obtain ⟨l2, k1, k2⟩ := ck
                    refine ⟨_, k1, l2, upd_same, ?_⟩
                    have d0 : DKs h0 K z.mu st1.length l l2 := by rw [lB]; exact k2.out out0 (by simpa [D.pure] using g2) (.inl ew)
                    exact d0.mono (Ext.thaw h0k) S0
                  | fn _ l => simp [D.pure] at g2
                  | _ => exact ck.elim
                have S2 := S0.thaw h0k co
                have exA : Ext z.he z.mu z.n (upd h0 (zc'.mu k) o) (muAt z.mu st1.length (zc'.mu k)) (st1.length + 1) := by
                  refine Ext.trans (by rw [lB]; exact ex0) (Ext.thaw h0k)
                refine q H' ⟨(zB z zc' rs ws st1).he, muAt z.mu st1.length (zc'.mu k), st1 ++ [c]⟩ _ rfl ⟨okB.sub, ?_⟩ ⟨?_, toB.hid, toB.there⟩ ?_ .no
                · rw [eqh o ho]; exact S2
                · show Ext z.he z.mu z.n _ _ (st1 ++ [c]).length
                  rw [eqh o ho, List.length_append]; exact exA
                · have h9 : DVz K ⟨(zB z zc' rs ws st1).he, muAt z.mu st1.length (zc'.mu k), st1 ++ [c]⟩ (.ref st1.length) (.ref (muAt z.mu st1.length (zc'.mu k) st1.length)) := .ref (by show _ < (st1 ++ [c]).length; rw [List.length_append]; exact Nat.lt_succ_self _)
                  rwa [muAt_new] at h9
              · cases e
            · cases e
          · split at e
            · rename_i d' e5
              obtain ⟨hg2, e⟩ := guard_ok e
              obtain ⟨rfl, rfl⟩ : d' = d ∧ st1 = st' := by cases e; exact ⟨rfl, rfl⟩
              rw [Bool.or_eq_true, Bool.and_eq_true, List.isEmpty_iff] at hg2
              obtain ⟨okB, toB, lB⟩ := x.zB_ok e4 (hg2.imp_right And.right)
              have hd : DVz K (zB z zc' rs ws st1) d' v := by
                show DV _ K z.mu st1.length d' v
                rw [lB]
                exact back_ok x dv' e5 (hg2.imp_right And.left)
              exact q H' (zB z zc' rs ws st1) v rfl okB toB hd .no
            · cases e
      · cases e
end
end PyE

namespace PyE
open PySem PySem.Spec PyProof.Rows L2
mutual
theorem beq_eq : ∀ {a b : D}, D.beq a b = true → a = b
  | .non, b, h => by cases b <;> first | rfl | (simp [D.beq] at h)
  | .bl x, b, h => by cases b <;> simp [D.beq] at h; rw [h]
  | .int x, b, h => by cases b <;> simp [D.beq] at h; rw [h]
  | .str x, b, h => by cases b <;> simp [D.beq] at h; rw [h]
  | .tup x, b, h => by cases b <;> simp [D.beq] at h; rw [beqL_eq h]
  | .lst x, b, h => by cases b <;> simp [D.beq] at h; rw [beqL_eq h]
  | .dct x, b, h => by cases b <;> simp [D.beq] at h; rw [beqL_eq h]
  | .ref x, b, h => by cases b <;> simp [D.beq] at h; rw [h]
  | .fn x xs, b, h => by
    cases b <;> simp [D.beq] at h
    rw [h.1, beqL_eq h.2]
theorem beqL_eq : ∀ {a b : List D}, D.beqL a b = true → a = b
  | [], b, h => by cases b <;> first | rfl | (simp [D.beqL] at h)
  | x :: xs, b, h => by
    cases b with
    | nil => simp [D.beqL] at h
    | cons y ys =>
      simp only [D.beqL, Bool.and_eq_true] at h
      rw [beq_eq h.1, beqL_eq h.2]
end
structure WalkD (K : PySem.W.Frag) (H0 : Hp) (z0 : Z) (items : List D) (g : Guard) (J : It) : Prop where
  go : ∀ i H z, i < items.length → Ok K H z → To H0 z0 H z → held g z.st = true → J.go i H
  stop : ∀ H z, Ok K H z → To H0 z0 H z → held g z.st = true → J.stop items.length H
  yld : ∀ i H z x H', i < items.length → Ok K H z → To H0 z0 H z → held g z.st = true → J.yld i H x H' → ∃ z' d, z'.st = z.st ∧ Ok K H' z' ∧ To H z H' z' ∧ items[i]? = some d ∧ DVz K z' d x
section
variable {K : PySem.W.Frag} {H0 : Hp} {z0 : Z} {d : D} {v : V} {items : List D}
theorem DVs.at {z : Z} {vs : List V} (h : DVsz K z items vs) {i : Nat} (hi : i < items.length) : ∃ d x, items[i]? = some d ∧ vs[i]? = some x ∧ DVz K z d x := by
  obtain ⟨x, h1, h2⟩ := h.get (List.getElem?_eq_getElem hi)
  exact ⟨_, x, List.getElem?_eq_getElem hi, h1, h2⟩
/-- a list, as long as the guard holds -/
theorem lst_held (ok : Ok K H0 z0) (dv : DVz K z0 d v) (e : view z0.st d = .lst items) : ∃ a, v = .ref a ∧ ∀ H z, Ok K H z → To H0 z0 H z → held (guardOf z0.st d) z.st = true → ∃ vs, Rd H a (.lst vs) ∧ DVsz K z items vs := by
  rcases view_cases ok dv with ⟨h, hr⟩ | ⟨n, c, rfl, hn, hc, h, rfl, k⟩
  · rw [h] at e; subst e
    cases dv with
    | lst h1 h2 h3 => exact ⟨_, rfl, fun H z okz t _ => ⟨_, okz.rd (t.ext.rd h1 h2), ok.dvs t h3⟩⟩
  · rw [h] at e; subst e
    refine ⟨z0.mu n, rfl, fun H z okz t hg => ?_⟩
    have eg : guardOf z0.st (.ref n) = [(n, .lst items)] := by
      show (match z0.st[n]? with | some c => [(n, c)] | none => []) = _
      rw [hc]
    rw [eg] at hg
    unfold held at hg
    simp only [List.all_cons, List.all_nil, Bool.and_true] at hg
    split at hg
    · rename_i c2 hc2
      have := beq_eq hg
      subst this
      obtain ⟨vs, k1, k2⟩ := okz.sim.cell n _ hc2
      rw [t.ext.mu n hn] at k1
      exact ⟨vs, .inl (okz.sub _ _ k1), k2⟩
    · cases hg
theorem tup_held (ok : Ok K H0 z0) (dv : DVz K z0 d v) (e : view z0.st d = .tup items) : ∃ a, v = .ref a ∧ ∀ H z, Ok K H z → To H0 z0 H z → ∃ vs, SqT K H a vs ∧ DVsz K z items vs := by
  obtain ⟨a, vs, rfl, h1, h2⟩ := view_tup ok dv e
  exact ⟨a, rfl, fun H z okz t => ⟨vs, okz.sqT (t.ext.sqT ok.sim h1), ok.dvs t h2⟩⟩
theorem held_nil {st : Store} : held [] st = true := rfl
theorem walk_lstD {a : Addr} {g : Guard} (h : ∀ H z, Ok K H z → To H0 z0 H z → held g z.st = true → ∃ vs, Rd H a (.lst vs) ∧ DVsz K z items vs) : WalkD K H0 z0 items g (Itl K a) where
  go := fun i H z hi okz t hg => by
    obtain ⟨vs, h1, h2⟩ := h H z okz t hg
    obtain ⟨d, x, _, e, _⟩ := h2.at hi
    exact ⟨vs, x, .inl h1, e⟩
  stop := fun H z okz t hg => by
    obtain ⟨vs, h1, h2⟩ := h H z okz t hg
    exact ⟨vs, .inl h1, by rw [h2.length]; exact Nat.le_refl _⟩
  yld := fun i H z x H' hi okz t hg y => by
    obtain ⟨vs, h1, h2⟩ := h H z okz t hg
    obtain ⟨rfl, y⟩ := y
    obtain ⟨d, x', e1, e2, dv⟩ := h2.at hi
    rw [y vs (.inl h1)] at e2; cases e2
    exact ⟨z, d, rfl, okz, .refl, e1, dv⟩
theorem walk_tupD {a : Addr} {g : Guard} (h : ∀ H z, Ok K H z → To H0 z0 H z → ∃ vs, SqT K H a vs ∧ DVsz K z items vs) : WalkD K H0 z0 items g (Itt K a) where
  go := fun i H z hi okz t _ => by
    obtain ⟨vs, h1, h2⟩ := h H z okz t
    obtain ⟨d, x, _, e, _⟩ := h2.at hi
    exact ⟨vs, x, h1, e⟩
  stop := fun H z okz t _ => by
    obtain ⟨vs, h1, h2⟩ := h H z okz t
    exact ⟨vs, h1, by rw [h2.length]; exact Nat.le_refl _⟩
  yld := fun i H z x H' hi okz t _ y => by
    obtain ⟨vs, h1, h2⟩ := h H z okz t
    obtain ⟨rfl, y⟩ := y
    obtain ⟨d, x', e1, e2, dv⟩ := h2.at hi
    rw [y vs h1] at e2; cases e2
    exact ⟨z, d, rfl, okz, .refl, e1, dv⟩
theorem walk_strD {s : Str} : WalkD K H0 z0 (s.cps.toList.map fun c => .str ⟨#[c]⟩) [] (Its s) where
  go := fun i H z hi _ _ _ => by
    have hi : i < s.cps.size := by simpa using hi
    exact hi
  stop := fun H z _ _ _ => by
    show s.cps.size ≤ _
    simp
  yld := fun i H z x H' hi okz t _ y => by
    obtain ⟨rfl, c, e, rfl⟩ := y
    exact ⟨z, .str ⟨#[c]⟩, rfl, okz, .refl, by simp [e], .str _⟩
theorem walk_rangeD {lo : Int} {n : Nat} : WalkD K H0 z0 (rangeD lo n) [] (Itr lo n) where
  go := fun i H z hi _ _ _ => by
    have hi : i < n := by simpa [rangeD] using hi
    exact hi
  stop := fun H z _ _ _ => by
    show n ≤ _
    simp [rangeD]
  yld := fun i H z x H' hi okz t _ y => by
    obtain ⟨rfl, rfl⟩ := y
    have hi : i < n := by simpa [rangeD] using hi
    exact ⟨z, .int (lo + (i : Nat)), rfl, okz, .refl, by simp [rangeD, hi], .int _⟩
/-- a new pair, seen -/
theorem pair_new {H : Hp} {z : Z} {T : Addr} {d1 d2 : D} {x y : V} (okz : Ok K H z) (hT : H T = none) (h1 : DVz K z d1 x) (h2 : DVz K z d2 y) :
    ∃ z' : Z, z'.st = z.st ∧ Ok K (upd H T (.tup [x, y])) z' ∧ To H z (upd H T (.tup [x, y])) z' ∧ DVz K z' (.tup [d1, d2]) (.ref T) :=
  ⟨z.put T (.tup [x, y]), rfl, okz.put hT, .put okz hT, .tup (.inl (.inl upd_same)) (okz.dvs (.put okz hT) (.cons h1 (.cons h2 .nil)))⟩
theorem pairs_length : ∀ (xs : List D) (i : Nat), (pairs i xs).length = xs.length
  | [], _ => rfl
  | x :: r, i => by unfold pairs; rw [List.length_cons, List.length_cons, pairs_length r]
theorem pairs_get : ∀ (xs : List D) (k i : Nat) (d : D), xs[i]? = some d → (pairs k xs)[i]? = some (.tup [.int ((k + i : Nat) : Int), d])
  | [], _, _, _, h => by simp at h
  | x :: r, k, 0, d, h => by
    have : x = d := by simpa using h
    subst this
    rfl
  | x :: r, k, i + 1, d, h => by
    unfold pairs
    rw [List.getElem?_cons_succ, pairs_get r (k + 1) i d (by simpa using h), show k + 1 + i = k + (i + 1) by omega]
theorem walk_enumL {a : Addr} {g : Guard} (h : ∀ H z, Ok K H z → To H0 z0 H z → held g z.st = true → ∃ vs, Rd H a (.lst vs) ∧ DVsz K z items vs) : WalkD K H0 z0 (pairs 0 items) g (Ite K a) where
  go := fun i H z hi okz t hg => by
    rw [pairs_length] at hi
    obtain ⟨vs, h1, h2⟩ := h H z okz t hg
    obtain ⟨d, x, _, e, _⟩ := h2.at hi
    exact ⟨vs, x, .inl h1, e⟩
  stop := fun H z okz t hg => by
    obtain ⟨vs, h1, h2⟩ := h H z okz t hg
    exact ⟨vs, .inl h1, by rw [pairs_length, h2.length]; exact Nat.le_refl _⟩
  yld := fun i H z x H' hi okz t hg y => by
    rw [pairs_length] at hi
    obtain ⟨vs, h1, h2⟩ := h H z okz t hg
    obtain ⟨T, x0, rfl, hT, rfl, y⟩ := y
    obtain ⟨d, x', e1, e2, dv⟩ := h2.at hi
    rw [y vs (.inl h1)] at e2; cases e2
    obtain ⟨z', q1, q2, q3, q4⟩ := pair_new okz hT (.int (i : Nat)) dv
    refine ⟨z', _, q1, q2, q3, pairs_get items 0 i d e1, ?_⟩
    rw [Nat.zero_add]; exact q4
theorem walk_enumT {a : Addr} {g : Guard} (h : ∀ H z, Ok K H z → To H0 z0 H z → ∃ vs, SqT K H a vs ∧ DVsz K z items vs) : WalkD K H0 z0 (pairs 0 items) g (IteT K a) where
  go := fun i H z hi okz t hg => by
    rw [pairs_length] at hi
    obtain ⟨vs, h1, h2⟩ := h H z okz t
    obtain ⟨d, x, _, e, _⟩ := h2.at hi
    exact ⟨vs, x, h1, e⟩
  stop := fun H z okz t hg => by
    obtain ⟨vs, h1, h2⟩ := h H z okz t
    exact ⟨vs, h1, by rw [pairs_length, h2.length]; exact Nat.le_refl _⟩
  yld := fun i H z x H' hi okz t hg y => by
    rw [pairs_length] at hi
    obtain ⟨vs, h1, h2⟩ := h H z okz t
    obtain ⟨T, x0, rfl, hT, rfl, y⟩ := y
    obtain ⟨d, x', e1, e2, dv⟩ := h2.at hi
    rw [y vs h1] at e2; cases e2
    obtain ⟨z', q1, q2, q3, q4⟩ := pair_new okz hT (.int (i : Nat)) dv
    refine ⟨z', _, q1, q2, q3, pairs_get items 0 i d e1, ?_⟩
    rw [Nat.zero_add]; exact q4
theorem zips_length : ∀ (xs ys : List D), (zips xs ys).length = min xs.length ys.length
  | [], ys => by unfold zips; simp
  | x :: r, [] => by unfold zips; simp
  | x :: r, y :: q => by unfold zips; rw [List.length_cons, List.length_cons, List.length_cons, zips_length r q]; omega
theorem zips_get : ∀ (xs ys : List D) (i : Nat) (d e : D), xs[i]? = some d → ys[i]? = some e → (zips xs ys)[i]? = some (.tup [d, e])
  | [], _, _, _, _, h, _ => by simp at h
  | _ :: _, [], _, _, _, _, h => by simp at h
  | x :: r, y :: q, 0, d, e, h1, h2 => by
    have a1 : x = d := by simpa using h1
    have a2 : y = e := by simpa using h2
    subst a1; subst a2; rfl
  | x :: r, y :: q, i + 1, d, e, h1, h2 => by
    unfold zips
    rw [List.getElem?_cons_succ]
    exact zips_get r q i d e (by simpa using h1) (by simpa using h2)
theorem held_app {g g' : Guard} {st : Store} (h : held (g ++ g') st = true) : held g st = true ∧ held g' st = true := by
  unfold held at h ⊢
  rw [List.all_append, Bool.and_eq_true] at h
  exact h
theorem walk_zipL {a b : Addr} {g : Guard} {ys : List D} (h : ∀ H z, Ok K H z → To H0 z0 H z → held g z.st = true → ∃ vs ws, Rd H a (.lst vs) ∧ DVsz K z items vs ∧ Rd H b (.lst ws) ∧ DVsz K z ys ws) : WalkD K H0 z0 (zips items ys) g (Itz K a b) where
  go := fun i H z hi okz t hg => by
    rw [zips_length] at hi
    obtain ⟨vs, ws, h1, h2, h3, h4⟩ := h H z okz t hg
    obtain ⟨_, x, _, e, _⟩ := h2.at (Nat.lt_of_lt_of_le hi (Nat.min_le_left _ _))
    obtain ⟨_, y, _, e2, _⟩ := h4.at (Nat.lt_of_lt_of_le hi (Nat.min_le_right _ _))
    exact ⟨vs, ws, x, y, .inl h1, .inl h3, e, e2⟩
  stop := fun H z okz t hg => by
    obtain ⟨vs, ws, h1, h2, h3, h4⟩ := h H z okz t hg
    refine ⟨vs, ws, .inl h1, .inl h3, ?_⟩
    rw [zips_length, ← h2.length, ← h4.length]; omega
  yld := fun i H z x H' hi okz t hg y => by
    rw [zips_length] at hi
    obtain ⟨vs, ws, h1, h2, h3, h4⟩ := h H z okz t hg
    obtain ⟨T, x0, y0, rfl, hT, rfl, p1, p2⟩ := y
    obtain ⟨d, x', e1, e2, dv⟩ := h2.at (Nat.lt_of_lt_of_le hi (Nat.min_le_left _ _))
    obtain ⟨d', y', e3, e4, dv'⟩ := h4.at (Nat.lt_of_lt_of_le hi (Nat.min_le_right _ _))
    rw [p1 vs (.inl h1)] at e2; cases e2
    rw [p2 ws (.inl h3)] at e4; cases e4
    obtain ⟨z', q1, q2, q3, q4⟩ := pair_new okz hT dv dv'
    exact ⟨z', _, q1, q2, q3, zips_get items ys i d d' e1 e3, q4⟩
theorem walk_zipT {a b : Addr} {g : Guard} {ys : List D} (h : ∀ H z, Ok K H z → To H0 z0 H z → ∃ vs ws, SqT K H a vs ∧ DVsz K z items vs ∧ SqT K H b ws ∧ DVsz K z ys ws) : WalkD K H0 z0 (zips items ys) g (RZ.ItzT K a b) where
  go := fun i H z hi okz t hg => by
    rw [zips_length] at hi
    obtain ⟨vs, ws, h1, h2, h3, h4⟩ := h H z okz t
    obtain ⟨_, x, _, e, _⟩ := h2.at (Nat.lt_of_lt_of_le hi (Nat.min_le_left _ _))
    obtain ⟨_, y, _, e2, _⟩ := h4.at (Nat.lt_of_lt_of_le hi (Nat.min_le_right _ _))
    exact ⟨vs, ws, x, y, h1, h3, e, e2⟩
  stop := fun H z okz t hg => by
    obtain ⟨vs, ws, h1, h2, h3, h4⟩ := h H z okz t
    refine ⟨vs, ws, h1, h3, ?_⟩
    rw [zips_length, ← h2.length, ← h4.length]; omega
  yld := fun i H z x H' hi okz t hg y => by
    rw [zips_length] at hi
    obtain ⟨vs, ws, h1, h2, h3, h4⟩ := h H z okz t
    obtain ⟨T, x0, y0, rfl, hT, rfl, p1, p2⟩ := y
    obtain ⟨d, x', e1, e2, dv⟩ := h2.at (Nat.lt_of_lt_of_le hi (Nat.min_le_left _ _))
    obtain ⟨d', y', e3, e4, dv'⟩ := h4.at (Nat.lt_of_lt_of_le hi (Nat.min_le_right _ _))
    rw [p1 vs h1] at e2; cases e2
    rw [p2 ws h3] at e4; cases e4
    obtain ⟨z', q1, q2, q3, q4⟩ := pair_new okz hT dv dv'
    exact ⟨z', _, q1, q2, q3, zips_get items ys i d d' e1 e3, q4⟩
end
/-- a list, a tuple or a text is walked -/
def iVal (K : PySem.W.Frag) (tl : TE) : TI := fun σ H R => tl σ H fun x H1 =>
  (∃ a xs, x = .ref a ∧ SqL K H1 a xs ∧ R (Itl K a) H1) ∨ (∃ a xs, x = .ref a ∧ SqT K H1 a xs ∧ R (Itt K a) H1) ∨ ∃ s, x = .str s ∧ R (Its s) H1
theorem pi_val {X : Cx} {tg l : Expr} {tl : TE} (hl : PE X l tl) : PI X tg l (iVal X.K tl) := by
  refine ⟨fun pins s σ H R I h => ?_⟩
  refine thn (hl.run pins s σ H _ I h) fun v s1 ⟨x, H1, I1, r1, q1⟩ => ?_
  have one : FpOk X pins H1 s1.heap.objs.size := I1.fpOk (Nat.le_refl _) (I1.hok.fresh (Nat.le_refl _))
  rcases q1 with ⟨a, xs, rfl, hq, q⟩ | ⟨a, xs, rfl, hq, q⟩ | ⟨y, rfl, q⟩
  · cases r1
    obtain ⟨its, rv, p, hz⟩ := I1.list hq
    exact wpAny_pyIter_list p.isList ⟨_, [s1.heap.objs.size], _, _, H1, rfl, I1.kept (t' := s1.toks) fun b o e => Heap.get?_push_of_some _ e, turn_list a _, ⟨_, Heap.get?_push_size _ rfl, rfl, rfl⟩, fun b hb => by rw [List.mem_singleton.mp hb]; exact one, q⟩
  · cases r1
    obtain ⟨its, rv, p, hz⟩ := I1.tuple hq
    exact wpAny_pyIter_tuple (show s1.heap.IsTuple a its.toArray from p) ⟨_, [s1.heap.objs.size], _, _, H1, rfl, I1.kept (t' := s1.toks) fun b o e => Heap.get?_push_of_some _ e, turn_tuple a _, ⟨_, Heap.get?_push_size _ rfl, rfl, rfl⟩, fun b hb => by rw [List.mem_singleton.mp hb]; exact one, q⟩
  · obtain ⟨t, rfl⟩ := r1
    cases ha : y.cps.all (· < 128)
    · exact wpAny_pyIter_wide ha (pi_one (tk := s1.toks) I1 _ (turn_str _ y t "str_iterator" (.inr rfl)) ⟨_, Heap.get?_push_size _ rfl, rfl, rfl⟩ q)
    · exact wpAny_pyIter_ascii ha (pi_one (tk := s1.toks) I1 _ (turn_str _ y t "str_ascii_iterator" (.inl rfl)) ⟨_, Heap.get?_push_size _ rfl, rfl, rfl⟩ q)
end PyE

namespace PyE
open PySem PySem.Spec PyProof.Rows L2
/-- a def as it may be called: its name, its parameters; how many values by place, which by name, which defaults -/
structure FT where
  name : Str
  ps : List Str
  pats : List (Nat × List Str × List D)
  at_ : Option Str := none
/-- where a text stands: the scope that runs, the scope whose own names may be stored, the slots, the module's constants, the defs -/
structure Ct where
  sc : Scope
  own : Scope
  N : List Str
  glb : List (Str × D)
  fns : List FT
  cls : List (Str × List Str)
def clsB (cls : List (Str × List Str)) (c f : Str) : Bool := cls.any fun p => decide (p.1 = c) && p.2.contains f
def visB (sc : Scope) (x : Str) : Bool := match sc.names.lookup x with
  | some .local => true
  | some .cell => true
  | some .free => true
  | _ => false
def locB (sc : Scope) (x : Str) : Bool := match sc.names.lookup x with
  | some .local => true
  | some .cell => true
  | _ => false
def gloB (sc : Scope) (x : Str) : Bool := decide (sc.names.lookup x = some .globalImplicit)
def okN (x : Str) : Bool := !(x == ("__debug__" : Str)) && (!(x == ("__classdict__" : Str)) && !(x == ("__name__" : Str)))
def constIs : Const → D → Bool
  | .none, .non => true
  | .bool a, .bl b => a == b
  | .int a, .int b => decide (a = b)
  | .str a, .str b => decide (a = b)
  | _, _ => false
def litV : D → Option V
  | .non => some .non
  | .bl b => some (.bl b)
  | .int i => some (.int i)
  | .str s => some (.str s)
  | _ => none
def biN : Bi → Str
  | .len => "len" | .abs => "abs" | .int => "int" | .max2 => "max" | .min2 => "min" | .max1 => "max" | .min1 => "min" | .sum => "sum" | .all => "all" | .any => "any"
  | .tuple => "tuple" | .list => "list" | .sorted => "sorted" | .str => "str" | .sortedSet => "sorted"
def mtN : Mt → Str
  | .append => "append" | .extend => "extend" | .insert => "insert" | .pop => "pop" | .popAt => "pop" | .index => "index" | .get => "get" | .setdefault => "setdefault" | .join => "join" | .tindex => "index" | .sindex => "index"
def freC : C → Bool
  | .list _ => true
  | .dict _ _ => true
  | .bin _ _ _ => true
  | .sl _ _ _ => true
  | .bi .list _ => true
  | .bi .sorted _ => true
  | .lc _ _ _ _ _ => true
  | .dc _ _ _ _ _ _ => true
  | _ => false
def litsOf : Cs → Option (List D)
  | .nil => some []
  | .cons (.lit d) r => (litsOf r).map (d :: ·)
  | .cons _ _ => none
def D.eqL (a b : List D) : Bool := D.beqL a b
def nameOf : Expr → Option Str
  | .Name x _ => some x
  | _ => none
def tyName : Expr → Ty → Bool
  | .Name x _, t => decide (x = Str.ofString (tyT t))
  | _, _ => false
def tysNames : List Expr → List Ty → Bool
  | [], [] => true
  | e :: es, t :: ts => tyName e t && tysNames es ts
  | _, _ => false
def glTys (sc : Scope) (ts : List Ty) : Bool := ts.all fun t => gloB sc (Str.ofString (tyT t))
def tysIs (sc : Scope) (e : Expr) (ts : List Ty) : Bool := glTys sc ts && decide (ts.length ≤ 8) && (match e with
  | .Tuple es _ _ => tysNames es ts
  | e => (match ts with
    | [t] => tyName e t
    | _ => false))
mutual
def slotsT : T → List Nat
  | .name i => [i]
  | .tup ts => slotsTs ts
  | .sub _ _ => []
def slotsTs : Ts → List Nat
  | .nil => []
  | .cons t r => slotsT t ++ slotsTs r
end
def ownOf (N : List Str) (own : List Nat) : List (Str × Nat) := own.filterMap fun i => (N[i]?).map fun x => (x, i)
def methO : Expr → Bool
  | .Name _ _ => true
  | .Subscript _ _ _ => true
  | .Constant _ _ _ => true
  | .Attribute _ _ _ => true
  | _ => false
def isTupE : Expr → Bool
  | .Tuple _ _ _ => true
  | _ => false
/-- one name in the middle -/
def midB : C → C → Bool
  | .cmp _ _ (.var i), .cmp _ (.var j) _ => decide (i = j)
  | _, _ => false
/-- a tuple's own method: of the module's own tuples alone -/
def tixOk (m : Mt) (o : C) (ob : Expr) : Bool := match m with
  | .tindex => (match o, ob with
    | .lit (.tup _), .Name _ _ => true
    | _, _ => false)
  | _ => true
mutual
def chkE (Γ : Ct) : C → Expr → Bool
  | .lit d, e => (match e with
    | .Constant k _ _ => constIs k d
    | .Name x _ => gloB Γ.sc x && okN x && Γ.glb.any fun p => decide (p.1 = x) && D.beq p.2 d
    | _ => false)
  | .var i, e => (match e with
    | .Name x _ => decide (Γ.N[i]? = some x) && visB Γ.sc x && okN x
    | _ => false)
  | .tup es, e => (match e with
    | .Tuple xs _ _ => chkEs Γ es xs
    | _ => false)
  | .list es, e => (match e with
    | .List xs _ => chkEs Γ es xs
    | _ => false)
  | .dict ks vs, e => (match e with
    | .Dict keys values _ => chkKs ks keys && chkEs Γ vs values && decide (keys.length = values.length) && decide (keys.length ≤ 15)
    | _ => false)
  | .mut c, e => freC c && chkE Γ c e
  | .bin op a b, e => (match e with
    | .BinOp l o r _ => decide (o = bopOf op) && chkE Γ a l && chkE Γ b r
    | _ => false)
  | .neg a, e => (match e with
    | .UnaryOp o x _ => decide (o = .USub) && chkE Γ a x
    | _ => false)
  | .cmp op a b, e => (match e with
    | .Compare l [o] [r] _ => decide (o = copOf op) && chkE Γ a l && chkE Γ b r
    | _ => false)
  | .and a b, e => (match e with
    | .BoolOp .And (x :: y :: rest) pos => chkE Γ a x && (match rest with
      | [] => chkE Γ b y
      | _ => chkE Γ b (.BoolOp .And (y :: rest) pos))
    | .Compare l [o1, o2] [m, r] pos => midB a b && chkE Γ a (.Compare l [o1] [m] pos) && chkE Γ b (.Compare m [o2] [r] pos)
    | _ => false)
  | .or a b, e => (match e with
    | .BoolOp .Or (x :: y :: rest) pos => chkE Γ a x && (match rest with
      | [] => chkE Γ b y
      | _ => chkE Γ b (.BoolOp .Or (y :: rest) pos))
    | _ => false)
  | .not a, e => (match e with
    | .UnaryOp o x _ => decide (o = .Not) && chkE Γ a x
    | _ => false)
  | .ife c a b, e => (match e with
    | .IfExp t x y _ => chkE Γ c t && chkE Γ a x && chkE Γ b y
    | _ => false)
  | .ix a b, e => (match e with
    | .Subscript x y _ => chkE Γ a x && chkE Γ b y
    | _ => false)
  | .sl a lo hi, e => (match e with
    | .Subscript x (.Slice l h none _) _ => chkE Γ a x && chkO Γ lo l && chkO Γ hi h
    | _ => false)
  | .call f es _ _, e => (match e with
    | .Call (.Name x _) args kws _ => gloB Γ.sc x && okN x && (match Γ.fns[f]? with
      | some ft => decide (ft.name = x) && ft.at_.isNone && ft.pats.any fun p => decide (p.1 = args.length) && decide (p.2.1.map some = kws.map (·.arg)) && chkC Γ es args kws p.2.2
      | none => false)
    | _ => false)
  | .callS f es, e => (match e with
    | .Call (.Name x _) args kws _ => gloB Γ.sc x && okN x && (match Γ.fns[f]? with
      | some ft => decide (ft.name = x) && ft.at_.isNone && ft.pats.any fun p => decide (p.1 = args.length) && decide (p.2.1.map some = kws.map (·.arg)) && chkC Γ es args kws p.2.2
      | none => false)
    | _ => false)
  | .bi f es, e => (match e with
    | .Call (.Name x _) args [] _ => gloB Γ.sc x && decide (x = biN f) && (match f with
      | .sortedSet => (match args with
        | [.Call (.Name y _) as [] _] => gloB Γ.sc y && decide (y = ("set" : Str)) && decide (as.length = 1) && chkEs Γ es as
        | _ => false)
      | .max2 => decide (args.length = 2) && chkEs Γ es args
      | .min2 => decide (args.length = 2) && chkEs Γ es args
      | _ => decide (args.length = 1) && chkEs Γ es args)
    | _ => false)
  | .mt m o es, e => (match e with
    | .Call (.Attribute ob nm apos) args [] cpos => decide (nm = mtN m) && tixOk m o ob && methO ob && (apos.endLine == cpos.line) && decide (args.length < 30) && decide (args.isEmpty = decide (m = .pop)) && chkE Γ o ob && chkEs Γ es args
    | _ => false)
  | .fld c o f, e => (match e with
    | .Attribute x f' _ => decide (f' = f) && clsB Γ.cls c f && methO x && chkE Γ o x
    | _ => false)
  | .new c i es, e => (match e with
    | .Call (.Name x _) args [] _ => gloB Γ.sc x && okN x && decide (x = c) && Γ.cls.any (fun p => decide (p.1 = c)) && (match Γ.fns[i]? with
      | some ft => decide (ft.at_ = some c) && decide (ft.name = ("__init__" : Str)) && decide (ft.ps.length = args.length + 1) && ft.pats.any (fun p => decide (p.1 = args.length + 1) && p.2.1.isEmpty && p.2.2.isEmpty) && chkEs Γ es args
      | none => false)
    | _ => false)
  | .meth c m i o es, e => (match e with
    | .Call (.Attribute x m' apos) args [] cpos => decide (m' = m) && methO x && (apos.endLine == cpos.line) && decide (args.length < 30) && Γ.cls.any (fun p => decide (p.1 = c)) && chkE Γ o x && (match Γ.fns[i]? with
      | some ft => decide (ft.at_ = some c) && decide (ft.name = m) && decide (ft.ps.length = args.length + 1) && ft.pats.any (fun p => decide (p.1 = args.length + 1) && p.2.1.isEmpty && p.2.2.isEmpty) && chkEs Γ es args
      | none => false)
    | _ => false)
  | .rev a, e => (match e with
    | .Subscript x (.Slice none none (some (.UnaryOp .USub (.Constant (.int n) _ _) _)) _) _ => decide (n = 1) && chkE Γ a x
    | _ => false)
  | .isi a ts, e => (match e with
    | .Call (.Name x _) [e1, e2] [] _ => gloB Γ.sc x && decide (x = ("isinstance" : Str)) && chkE Γ a e1 && tysIs Γ.sc e2 ts
    | _ => false)
  | .lc own t it cond elt, e => (match e with
    | .ListComp el [⟨tg, iter, ifs, ia⟩] scope _ => decide (ia = 0) && blkC Γ.N Γ.sc scope (ownOf Γ.N own) && decide ((ownOf Γ.N own).map (·.2) = own) && chkI Γ it tg iter &&
      chkT { Γ with sc := relS scope Γ.sc, own := scope } t tg && (slotsT t).all (own.contains ·) && chkCo { Γ with sc := relS scope Γ.sc, own := scope } cond ifs && chkE { Γ with sc := relS scope Γ.sc, own := scope } elt el
    | _ => false)
  | .dc own t it cond k v, e => (match e with
    | .DictComp kl vl [⟨tg, iter, ifs, ia⟩] scope _ => decide (ia = 0) && blkC Γ.N Γ.sc scope (ownOf Γ.N own) && decide ((ownOf Γ.N own).map (·.2) = own) && chkI Γ it tg iter &&
      chkT { Γ with sc := relS scope Γ.sc, own := scope } t tg && (slotsT t).all (own.contains ·) && chkCo { Γ with sc := relS scope Γ.sc, own := scope } cond ifs && chkE { Γ with sc := relS scope Γ.sc, own := scope } k kl &&
      chkE { Γ with sc := relS scope Γ.sc, own := scope } v vl
    | _ => false)
def chkEs (Γ : Ct) : Cs → List Expr → Bool
  | .nil, [] => true
  | .cons c r, e :: es => chkE Γ c e && chkEs Γ r es
  | _, _ => false
/-- the values by place, those by name, the defaults -/
def chkC (Γ : Ct) : Cs → List Expr → List Keyword → List D → Bool
  | .cons c r, e :: es, kws, ds => chkE Γ c e && chkC Γ r es kws ds
  | .cons c r, [], k :: kws, ds => chkE Γ c k.value && chkC Γ r [] kws ds
  | .cons (.lit d) r, [], [], d' :: ds => D.beq d d' && (litV d).isSome && chkC Γ r [] [] ds
  | .nil, [], [], [] => true
  | _, _, _, _ => false
def chkKs : List D → List (Option Expr) → Bool
  | [], [] => true
  | d :: ds, some (.Constant k _ _) :: es => constIs k d && isKey d && chkKs ds es
  | _, _ => false
def chkO (Γ : Ct) : Co → Option Expr → Bool
  | .none, none => true
  | .some c, some e => chkE Γ c e
  | _, _ => false
def chkCo (Γ : Ct) : Co → List Expr → Bool
  | .none, [] => true
  | .some c, [e] => chkE Γ c e
  | _, _ => false
def chkT (Γ : Ct) : T → Expr → Bool
  | .name i, e => (match e with
    | .Name x _ => decide (Γ.N[i]? = some x) && locB Γ.own x
    | _ => false)
  | .tup ts, e => (match e with
    | .Tuple es _ _ => chkTs Γ ts es
    | _ => false)
  | .sub o i, e => (match e with
    | .Subscript x y _ => chkE Γ o x && chkE Γ i y
    | _ => false)
def chkTs (Γ : Ct) : Ts → List Expr → Bool
  | .nil, [] => true
  | .cons t r, e :: es => chkT Γ t e && chkTs Γ r es
  | _, _ => false
def chkI (Γ : Ct) : I → Expr → Expr → Bool
  | .val c, _, iter => chkE Γ c iter
  | .range1 a, _, iter => (match iter with
    | .Call (.Name x _) [e] [] _ => gloB Γ.sc x && decide (x = ("range" : Str)) && chkE Γ a e
    | _ => false)
  | .range2 a b, _, iter => (match iter with
    | .Call (.Name x _) [e, e2] [] _ => gloB Γ.sc x && decide (x = ("range" : Str)) && chkE Γ a e && chkE Γ b e2
    | _ => false)
  | .enum c, tg, iter => isTupE tg && (match iter with
    | .Call (.Name x _) [e] [] _ => gloB Γ.sc x && decide (x = ("enumerate" : Str)) && chkE Γ c e
    | _ => false)
  | .zip a b, tg, iter => isTupE tg && (match iter with
    | .Call (.Name x _) [e, e2] [] _ => gloB Γ.sc x && decide (x = ("zip" : Str)) && chkE Γ a e && chkE Γ b e2
    | _ => false)
end
end PyE

namespace PyE
open PySem PySem.Spec PyProof.Rows L2
def tE (K : PySem.W.Frag) (fr : Bool) (cf : CallF) (c : C) : TE := fun σ H Q => ∃ z en d st', Ok K H z ∧ EnvR K z en σ ∧ evE cf c en z.st = .ok d st' ∧ End K fr H z d st' Q
def tT (K : PySem.W.Frag) (cf : CallF) (c : C) : TT := fun σ H Q => ∃ z en d st' b, Ok K H z ∧ EnvR K z en σ ∧ evE cf c en z.st = .ok d st' ∧ truth st' d = some b ∧ ∀ H' z', z'.st = st' → Ok K H' z' → To H z H' z' → Q b H'
def tEs (K : PySem.W.Frag) (cf : CallF) (es : Cs) : TA := fun σ H Q => ∃ z en xs st', Ok K H z ∧ EnvR K z en σ ∧ evEs cf es en z.st = .ok xs st' ∧ ∀ H' z' vs, z'.st = st' → Ok K H' z' → To H z H' z' → DVsz K z' xs vs → Q vs H'
def tO (K : PySem.W.Frag) (cf : CallF) (c : Co) : TO := fun σ H Q => ∃ z en o st', Ok K H z ∧ EnvR K z en σ ∧ evO cf c en z.st = .ok o st' ∧ ∀ H' z', z'.st = st' → Ok K H' z' → To H z H' z' → Q o H'
def tCo (K : PySem.W.Frag) (cf : CallF) (c : Co) : TT := fun σ H Q => ∃ z en st' b, Ok K H z ∧ EnvR K z en σ ∧ evCo cf c en z.st = .ok b st' ∧ ∀ H' z', z'.st = st' → Ok K H' z' → To H z H' z' → Q b H'
def gT (K : PySem.W.Frag) (cf : CallF) (t : T) : TG := fun v σ H Q => ∃ z en d en' st', Ok K H z ∧ EnvR K z en σ ∧ DVz K z d v ∧ asT cf t d en z.st = .ok en' st' ∧
  ∀ H' z' σ', z'.st = st' → Ok K H' z' → To H z H' z' → EnvR K z' en' σ' → (∀ vs, (∀ i ∈ slotsT t, i ∈ vs) → L2.wipe σ' vs = L2.wipe σ vs) → Q σ' H'
def gTs (K : PySem.W.Frag) (cf : CallF) (t : Ts) : TGs := fun vs σ H Q => ∃ z en ds en' st', Ok K H z ∧ EnvR K z en σ ∧ DVsz K z ds vs ∧ asTs cf t ds en z.st = .ok en' st' ∧
  ∀ H' z' σ', z'.st = st' → Ok K H' z' → To H z H' z' → EnvR K z' en' σ' → (∀ vs, (∀ i ∈ slotsTs t, i ∈ vs) → L2.wipe σ' vs = L2.wipe σ vs) → Q σ' H'
def iT (K : PySem.W.Frag) (cf : CallF) (i : I) : TI := fun σ H R => ∃ z en p st', Ok K H z ∧ EnvR K z en σ ∧ evI cf i en z.st = .ok p st' ∧
  ∀ H' z' J, z'.st = st' → Ok K H' z' → To H z H' z' → WalkD K H' z' p.1 p.2 J → R J H'
def CX0 : CXT := fun _ _ _ _ _ _ => False
def E0 : XK := fun _ _ _ => False
theorem pass0 {X : Cx} {E : XK} : Passes CX0 X E := fun _ _ _ _ _ _ _ h => h.elim
/-- where a def is found -/
def AtOk (K : PySem.W.Frag) (mg : Str → Option Value) (ft : FT) (a : Addr) : Prop := match ft.at_ with
  | none => mg ft.name = some (.ref a)
  | some c => Meth K (cAd K c) ft.name a ∧ (ft.name = ("__init__" : Str) → Mk K (cAd K c) a ∧ mg c = some (.ref (cAd K c)))
structure FnX (cf : CallF) (X : Cx) (f : Nat) (ft : FT) : Prop where
  ex : ∃ (k : Nat) (a : Addr) (fd : FuncData), AtOk X.K X.mg ft a ∧ PySem.W.keepIn X.K (.ref a) = true ∧ FnOk X.prog X.w X.K X.mg X.base CX0 k a fd ft.ps (spF X.K cf f) ∧ Room (k + 1) X.A ∧
    ∀ p ∈ ft.pats, ∀ dv, mapO litV p.2.2 = some dv → ∃ ds : List Value, Vals dv ds ∧ ∀ (s : Shared) (us ws : List Value), X.K.In s.heap → us.length = p.1 → ws.length = p.2.1.length → BindsTo s fd ⟨us, p.2.1.zip ws⟩ (ft.ps.zip (us ++ ws ++ ds))
def bltNames : List Str := ["len", "abs", "int", "max", "min", "sum", "all", "any", "tuple", "list", "sorted", "str", "set", "bool", "isinstance", "range", "enumerate", "zip"]
/-- a tuple among the module's constants has no dict -/
def TupC (K : PySem.W.Frag) (d : D) (v : V) : Prop := match d with
  | .tup _ => ∃ a o, v = .ref a ∧ K.lookup a = some o ∧ o.cls = .type "tuple" ∧ o.dict = none
  | _ => True
structure XOk (Γ : Ct) (cf : CallF) (X : Cx) : Prop where
  calm : X.calm = true
  nd : X.N.Nodup
  N : X.N = Γ.N
  sc : X.env.scope = Γ.sc
  un : X.A.units + 64 < cLine
  loc : ∀ x, locB Γ.own x = true → L2.Loc X.env.scope x ∧ (X.fn x = true ∨ X.env.scope.names.lookup x = some .local)
  glb : ∀ p ∈ Γ.glb, ∃ u v, X.mg p.1 = some u ∧ RelV v u ∧ TupC X.K p.2 v ∧ ∀ (H : Hp) (z : Z), Ok X.K H z → DVz X.K z p.2 v
  bi : ∀ x ∈ bltNames, X.mg x = none
  fns : ∀ f ft, Γ.fns[f]? = some ft → FnX cf X f ft
  cls : ∀ p ∈ Γ.cls, Cls X.K (cAd X.K p.1) ∧ ∀ f ∈ p.2, NoAttr X.K (cAd X.K p.1) f
def isBool : Expr → Bool
  | .BoolOp _ _ _ => true
  | _ => false
structure Snd (X : Cx) (cf : CallF) (c : C) (e : Expr) : Prop where
  pe : PE X e (tE X.K (freC c) cf c)
  pt : PT X e (tT X.K cf c)
  pw : isBool e = true → PW X e (tT X.K cf c)
def SndC (cf : CallF) (c : C) : Prop := ∀ Γ X e, XOk Γ cf X → chkE Γ c e = true → Snd X cf c e
section
variable {X : Cx} {e : Expr}
theorem _root_.L2.PE.imp {t t' : TE} (h : PE X e t) (i : ∀ σ H Q, t' σ H Q → t σ H Q) : PE X e t' := ⟨fun pins s σ H Q I q => h.run pins s σ H Q I (i σ H Q q)⟩
theorem _root_.L2.PT.imp {t t' : TT} (h : PT X e t) (i : ∀ σ H Q, t' σ H Q → t σ H Q) : PT X e t' := ⟨fun pins s σ H Q I q => h.run pins s σ H Q I (i σ H Q q)⟩
theorem _root_.L2.PW.imp {t t' : TT} (h : PW X e t) (i : ∀ σ H Q, t' σ H Q → t σ H Q) : PW X e t' := ⟨fun wh pins s σ H Q I q => h.run wh pins s σ H Q I (i σ H Q q)⟩
theorem _root_.L2.PA.imp {es : List Expr} {t t' : TA} (h : PA X es t) (i : ∀ σ H Q, t' σ H Q → t σ H Q) : PA X es t' := ⟨fun pos pins s σ H Q I q => h.run pos pins s σ H Q I (i σ H Q q)⟩
theorem _root_.L2.PG.imp {t t' : TG} (h : PG X e t) (i : ∀ v σ H Q, t' v σ H Q → t v σ H Q) : PG X e t' := ⟨fun pins s σ H v u Q I r q => h.run pins s σ H v u Q I r (i v σ H Q q)⟩
theorem _root_.L2.PGs.imp {es : List Expr} {t t' : TGs} (h : PGs X es t) (i : ∀ v σ H Q, t' v σ H Q → t v σ H Q) : PGs X es t' := ⟨fun pins s σ H v u Q I r q => h.run pins s σ H v u Q I r (i v σ H Q q)⟩
theorem _root_.L2.PI.imp {tg : Expr} {t t' : TI} (h : PI X tg e t) (i : ∀ σ H Q, t' σ H Q → t σ H Q) : PI X tg e t' := ⟨fun pins s σ H Q I q => h.run pins s σ H Q I (i σ H Q q)⟩
theorem _root_.L2.PO.imp {o : Option Expr} {t t' : TO} (h : PO X o t) (i : ∀ σ H Q, t' σ H Q → t σ H Q) : PO X o t' := ⟨fun pins s σ H Q I q => h.run pins s σ H Q I (i σ H Q q)⟩
theorem _root_.L2.PTs.imp {o : List Expr} {t t' : TT} (h : PTs X o t) (i : ∀ σ H Q, t' σ H Q → t σ H Q) : PTs X o t' := ⟨fun pins s σ H Q I q => h.run pins s σ H Q I (i σ H Q q)⟩
theorem _root_.L2.PS.imp {st : Stmt} {t t' : TS} (h : PS X st t) (i : ∀ D σ H, t' D σ H → t D σ H) : PS X st t' := ⟨fun pins s σ H D I q => h.run pins s σ H D I (i D σ H q)⟩
theorem _root_.L2.PSs.imp {st : List Stmt} {t t' : TS} (h : PSs X st t) (i : ∀ D σ H, t' D σ H → t D σ H) : PSs X st t' := ⟨fun pins s σ H D I q => h.run pins s σ H D I (i D σ H q)⟩
def plainE : Expr → Bool
  | .Constant _ _ _ => true
  | .Name _ _ => true
  | .Tuple _ _ _ => true
  | .List _ _ => true
  | .Dict _ _ _ => true
  | .UnaryOp _ _ _ => true
  | .BinOp _ _ _ _ => true
  | .Compare _ _ _ _ => true
  | .BoolOp _ _ _ => true
  | .IfExp _ _ _ _ => true
  | .Subscript _ _ _ => true
  | .Call _ _ _ _ => true
  | .ListComp _ _ _ _ => true
  | .DictComp _ _ _ _ _ => true
  | .Attribute _ _ _ => true
  | _ => false
theorem chk_plain {Γ : Ct} : ∀ (c : C) (e : Expr), chkE Γ c e = true → plainE e = true := by
  intro c
  cases c
  case «mut» c =>
    intro e h
    simp only [chkE, Bool.and_eq_true] at h
    have h0 := h.1
    have h1 := h.2
    cases c <;> first | (simp only [freC] at h0; cases h0; done) | skip
    all_goals (simp only [chkE] at h1; split at h1 <;> first | rfl | (cases h1; done))
  all_goals (intro e h; simp only [chkE] at h; first | (cases h; done) | (split at h <;> first | rfl | (cases h; done)))
theorem plain_star (h : plainE e = true) (es : List Expr) (env : Env) : starEach (e :: es) env = (false, eval e env) :: starEach es env := by
  cases e <;> first | rfl | (cases h; done)
theorem plain_assign (h : plainE e = true) (es : List Expr) (env : Env) : assignEach (e :: es) env = (false, assign e env) :: assignEach es env := by
  cases e <;> first | rfl | (cases h; done)
theorem plain_ix (h : plainE e = true) : PlainIx e := by
  cases e <;> first | (intro _ _; rfl; done) | (cases h; done)
theorem plain_mark (h : plainE e = true) (op : CmpOp) : behindInMarks op e = false := by
  cases e <;> first | rfl | (cases h; done)
theorem plain_fold (h : plainE e = true) (x : Value) : foldedSetIterable e X.env x = pure x := by
  cases e <;> first | rfl | (cases h; done)
theorem plain_sub {o : Expr} {pos : Pos} (h : plainE e = true) : ∀ v, assign (.Subscript o e pos) X.env v = (do
      let ov ← holding [v] (eval o X.env)
      let iv ← holding [v, ov] (eval e X.env)
      standAt pos
      holding [v, ov, iv] (setItem ov iv v)
      release [v, ov, iv] []) := by
  cases e <;> first | (intro _; rfl; done) | (cases h; done)
theorem meth_base (h : methO e = true) (m : Str) : attributeBase e m X.env (eval e X.env) = eval e X.env := by
  cases e <;> first | rfl | (cases h; done)
def plainT : Expr → Bool
  | .UnaryOp .Not _ _ => false
  | .BoolOp _ _ _ => false
  | .IfExp _ _ _ _ => false
  | .Compare _ _ _ _ => false
  | _ => true
theorem plain_true (h : plainT e = true) : ∀ whole, isTrue e X.env whole = (do let v ← whole; standAt e.pos; holding [v] (truthy v)) := by
  cases e <;> first | (intro _; rfl; done) | (cases h; done) | skip
  rename_i op _ _
  cases op <;> first | (intro _; rfl; done) | (cases h; done)
end
section
variable {X : Cx} {e : Expr} {cf : CallF} {c : C} {Γ : Ct}
theorem tE_weak {K : PySem.W.Frag} {fr : Bool} {σ : L2.St} {H : Hp} {Q : VK} (h : tE K false cf c σ H Q) : tE K fr cf c σ H Q := by
  obtain ⟨z, en, d, st', ok, er, ev, q⟩ := h
  exact ⟨z, en, d, st', ok, er, ev, q.weak⟩
theorem Snd.pe0 (h : Snd X cf c e) : PE X e (tE X.K false cf c) := h.pe.imp fun _ _ _ q => tE_weak q
theorem Snd.plain (hp : plainT e = true) (h : PE X e (tE X.K (freC c) cf c)) : Snd X cf c e where
  pe := h
  pt := (pt_truth (h.imp fun _ _ _ q => tE_weak q : PE X e (tE X.K false cf c)) (plain_true hp)).imp fun σ H Q ⟨z, en, d, st', b, ok, er, ev, tb, q⟩ => ⟨z, en, d, st', ok, er, ev, fun H' z' v hs ok' t' dv' _ => ⟨b, truV_of ok' dv' (by rw [hs]; exact tb), q H' z' hs ok' t'⟩⟩
  pw := fun h => by cases e <;> first | (cases h; done) | (cases hp; done)
theorem constIs_V {k : Const} {d : D} (h : constIs k d = true) : ∃ v, litV d = some v := by
  cases k <;> cases d <;> first | (cases h; done) | exact ⟨_, rfl⟩
theorem litV_dv {K : PySem.W.Frag} {z : Z} {d : D} {v : V} (h : litV d = some v) : DVz K z d v := by
  cases d <;> first | (cases h; done) | (cases h; constructor; done)
theorem pe_const {k : Const} {d : D} {v : V} {j pos} (h : constIs k d = true) (hv : litV d = some v) : PE X (.Constant k j pos) (tC v) := by
  cases k <;> cases d <;> first | (cases h; done) | skip
  · cases hv; exact pe_non
  · cases hv
    have h : (_ == _) = true := h
    rw [eq_of_beq h]; exact pe_bl
  · cases hv
    have h := of_decide_eq_true h
    rw [h]; exact pe_int
  · cases hv
    have h := of_decide_eq_true h
    rw [h]; exact pe_str
theorem snd_lit (d : D) : SndC cf (.lit d) := fun Γ X e XO h => by
  simp only [chkE] at h
  have fin : ∀ v, (∀ (H : Hp) (z : Z), Ok X.K H z → DVz X.K z d v) → ∀ σ H Q, tE X.K false cf (.lit d) σ H Q → tC v σ H Q := fun v hv σ H Q ⟨z, en, d', st', ok, er, ev, q⟩ => by
    simp only [evE] at ev
    cases ev
    exact q.same ok (hv H z ok)
  split at h
  · obtain ⟨v, hv⟩ := constIs_V h
    exact .plain rfl ((pe_const h hv).imp (fin v fun H z _ => litV_dv hv))
  · rename_i x pos
    simp only [Bool.and_eq_true, List.any_eq_true] at h
    obtain ⟨⟨hg, hk⟩, p, hp, h2⟩ := h
    obtain ⟨h3, h2⟩ := h2
    have h3 := of_decide_eq_true h3
    subst h3
    have h2 := beq_eq h2
    subst h2
    obtain ⟨u, v, hm, r, _, hv⟩ := XO.glb p hp
    have hgl : Gl X p.1 := by
      show X.env.scope.names.lookup p.1 = _
      rw [XO.sc]; exact of_decide_eq_true hg
    simp only [okN, Bool.and_eq_true, Bool.not_eq_true'] at hk
    exact .plain rfl ((pe_glob hgl hm r hk.1).imp (fin v hv))
  · cases h
theorem vis_of {sc : Scope} {x : Str} (h : visB sc x = true) : Vis sc x := by
  unfold visB at h
  unfold Vis
  split at h <;> first | (rename_i e; rw [e]; simp; done) | (cases h; done)
theorem loc_of {sc : Scope} {x : Str} (h : locB sc x = true) : L2.Loc sc x := by
  unfold locB at h
  unfold L2.Loc
  split at h <;> first | (rename_i e; rw [e]; simp; done) | (cases h; done)
theorem snd_var (i : Nat) : SndC cf (.var i) := fun Γ X e XO h => by
  simp only [chkE] at h
  split at h
  · rename_i x pos
    simp only [Bool.and_eq_true] at h
    obtain ⟨⟨hN, hv⟩, hk⟩ := h
    simp only [okN, Bool.and_eq_true, Bool.not_eq_true'] at hk
    refine .plain rfl ((pe_var (by rw [XO.N]; exact of_decide_eq_true hN) (by rw [XO.sc]; exact vis_of hv) hk.1 hk.2.1).imp fun σ H Q ⟨z, en, d, st', ok, er, ev, q⟩ => ?_)
    simp only [evE] at ev
    split at ev
    · rename_i d' hd
      cases ev
      obtain ⟨v, h1, h2⟩ := er.2 i _ hd
      exact ⟨v, h1, q.same ok h2⟩
    · cases ev
  · cases h
theorem op_imp {K : PySem.W.Frag} {a b : C} {fr : Bool} {f : D → D → Store → R D} (hc : ∀ en st, evE cf c en st = (evE cf a en st).bind fun x s1 => (evE cf b en s1).bind fun y s2 => f x y s2) (σ : L2.St) (H : Hp) (Q : VK)
    (h : tE K fr cf c σ H Q) : tOp (rD2 K fr f) (tE K false cf a) (tE K false cf b) σ H Q := by
  obtain ⟨z, en, d, st', ok, er, ev, q⟩ := h
  rw [hc] at ev
  obtain ⟨x, s1, e1, ev⟩ := bind_ok ev
  obtain ⟨y, s2, e2, ev⟩ := bind_ok ev
  refine ⟨z, en, x, s1, ok, er, e1, fun H1 z1 v1 hs1 ok1 t1 dv1 _ => ?_⟩
  subst hs1
  refine ⟨z1, en, y, s2, ok1, ok.env t1 er, e2, fun H2 z2 v2 hs2 ok2 t2 dv2 _ => ?_⟩
  subst hs2
  exact ⟨z2, x, y, d, st', ok2, ok1.dv t2 dv1, dv2, ev, q.trans (t1.trans t2)⟩
theorem snd_bin {op : BOp} {a b : C} (ha : SndC cf a) (hb : SndC cf b) : SndC cf (.bin op a b) := fun Γ X e XO h => by
  simp only [chkE] at h
  split at h
  · simp only [Bool.and_eq_true] at h
    obtain ⟨⟨ho, h1⟩, h2⟩ := h
    have ho := of_decide_eq_true ho
    subst ho
    exact .plain rfl ((pe_op (op_bin op) (ha Γ X _ XO h1).pe0 (hb Γ X _ XO h2).pe0).imp (op_imp fun en st => by simp only [evE]))
  · cases h
theorem snd_ix {a b : C} (ha : SndC cf a) (hb : SndC cf b) : SndC cf (.ix a b) := fun Γ X e XO h => by
  simp only [chkE] at h
  split at h
  · simp only [Bool.and_eq_true] at h
    obtain ⟨h1, h2⟩ := h
    exact .plain rfl ((pe_ix (ix_ok XO.un) (ha Γ X _ XO h1).pe0 (hb Γ X _ XO h2).pe0 (plain_ix (chk_plain _ _ h2))).imp (op_imp fun en st => by simp only [evE]))
  · cases h
theorem cmp_bl {op : COp} {x y d : D} {st st' : Store} (h : cmpD op x y st = .ok d st') : ∃ k, d = .bl k := by
  obtain ⟨h, _⟩ := opt_ok h
  rw [Option.map_eq_some_iff] at h
  obtain ⟨k, _, e⟩ := h
  exact ⟨k, e.symm⟩
theorem snd_cmp {op : COp} {a b : C} (ha : SndC cf a) (hb : SndC cf b) : SndC cf (.cmp op a b) := fun Γ X e XO h => by
  simp only [chkE] at h
  split at h
  · simp only [Bool.and_eq_true] at h
    obtain ⟨⟨ho, h1⟩, h2⟩ := h
    have ho := of_decide_eq_true ho
    subst ho
    have hc : ∀ en st, evE cf (.cmp op a b) en st = (evE cf a en st).bind fun x s1 => (evE cf b en s1).bind fun y s2 => cmpD op x y s2 := fun en st => by simp only [evE]
    refine ⟨(pe_cmpR (op_cmp XO.un op) (ha Γ X _ XO h1).pe0 (hb Γ X _ XO h2).pe0 (plain_mark (chk_plain _ _ h2) _)).imp (op_imp hc), ?_, fun h => by cases h⟩
    refine (pt_cmpR (op_cmp XO.un op) (ha Γ X _ XO h1).pe0 (hb Γ X _ XO h2).pe0 (plain_mark (chk_plain _ _ h2) _)).imp fun σ H Q ⟨z, en, d, st', k, ok, er, ev, tb, q⟩ => ?_
    refine op_imp hc σ H _ ⟨z, en, d, st', ok, er, ev, fun H' z' v hs ok' t' dv' _ => ?_⟩
    rw [hc] at ev
    obtain ⟨x, s1, e1, ev⟩ := bind_ok ev
    obtain ⟨y, s2, e2, ev⟩ := bind_ok ev
    obtain ⟨k', rfl⟩ := cmp_bl ev
    cases dv'
    cases tb
    exact ⟨_, rfl, q H' z' hs ok' t'⟩
  · cases h
theorem snd_neg {a : C} (ha : SndC cf a) : SndC cf (.neg a) := fun Γ X e XO h => by
  simp only [chkE] at h
  split at h
  · simp only [Bool.and_eq_true] at h
    obtain ⟨ho, h1⟩ := h
    have ho := of_decide_eq_true ho
    subst ho
    refine .plain rfl ((pe_un un_neg (ha Γ X _ XO h1).pe0).imp fun σ H Q ⟨z, en, d, st', ok, er, ev, q⟩ => ?_)
    simp only [evE] at ev
    obtain ⟨x, s1, e1, ev⟩ := bind_ok ev
    refine ⟨z, en, x, s1, ok, er, e1, fun H1 z1 v1 hs1 ok1 t1 dv1 _ => ?_⟩
    subst hs1
    split at ev
    · cases ev
      cases dv1
      exact ⟨_, rfl, (q.trans t1).same ok1 (.int _)⟩
    · cases ev
  · cases h
theorem snd_not {a : C} (ha : SndC cf a) : SndC cf (.not a) := fun Γ X e XO h => by
  simp only [chkE] at h
  split at h
  · simp only [Bool.and_eq_true] at h
    obtain ⟨ho, h1⟩ := h
    have ho := of_decide_eq_true ho
    subst ho
    refine ⟨(pe_notT (ha Γ X _ XO h1).pe0).imp fun σ H Q ⟨z, en, d, st', ok, er, ev, q⟩ => ?_, (pt_not (ha Γ X _ XO h1).pt).imp fun σ H Q ⟨z, en, d, st', k, ok, er, ev, tb, q⟩ => ?_, fun h => by cases h⟩
    · simp only [evE] at ev
      obtain ⟨x, s1, e1, ev⟩ := bind_ok ev
      obtain ⟨ev, rfl⟩ := opt_ok ev
      rw [Option.map_eq_some_iff] at ev
      obtain ⟨k, e2, rfl⟩ := ev
      refine ⟨z, en, x, st', ok, er, e1, fun H1 z1 v1 hs1 ok1 t1 dv1 _ => ?_⟩
      subst hs1
      exact ⟨k, truV_of ok1 dv1 e2, (q.trans t1).same ok1 (.bl _)⟩
    · simp only [evE] at ev
      obtain ⟨x, s1, e1, ev⟩ := bind_ok ev
      obtain ⟨ev, rfl⟩ := opt_ok ev
      rw [Option.map_eq_some_iff] at ev
      obtain ⟨k', e2, rfl⟩ := ev
      cases tb
      exact ⟨z, en, x, st', k', ok, er, e1, e2, fun H1 z1 hs1 ok1 t1 => q H1 z1 hs1 ok1 t1⟩
  · cases h
theorem and_ev {K : PySem.W.Frag} {a b : C} {σ : L2.St} {H : Hp} {Q : VK} (h : tE K false cf (.and a b) σ H Q) : tAndT K (tE K false cf a) (tE K false cf b) σ H Q := by
  obtain ⟨z, en, d, st', ok, er, ev, q⟩ := h
  simp only [evE] at ev
  obtain ⟨x, s1, e1, ev⟩ := bind_ok ev
  refine ⟨z, en, x, s1, ok, er, e1, fun H1 z1 v1 hs1 ok1 t1 dv1 _ => ?_⟩
  subst hs1
  split at ev
  · rename_i ht
    refine ⟨true, truV_of ok1 dv1 ht, ?_⟩
    rw [if_pos rfl]
    exact ⟨z1, en, d, st', ok1, ok.env t1 er, ev, q.trans t1⟩
  · rename_i ht
    refine ⟨false, truV_of ok1 dv1 ht, ?_⟩
    rw [if_neg (by decide)]
    cases ev
    exact (q.trans t1).same ok1 dv1
  · cases ev
theorem or_ev {K : PySem.W.Frag} {a b : C} {σ : L2.St} {H : Hp} {Q : VK} (h : tE K false cf (.or a b) σ H Q) : tOrT K (tE K false cf a) (tE K false cf b) σ H Q := by
  obtain ⟨z, en, d, st', ok, er, ev, q⟩ := h
  simp only [evE] at ev
  obtain ⟨x, s1, e1, ev⟩ := bind_ok ev
  refine ⟨z, en, x, s1, ok, er, e1, fun H1 z1 v1 hs1 ok1 t1 dv1 _ => ?_⟩
  subst hs1
  split at ev
  · rename_i ht
    refine ⟨true, truV_of ok1 dv1 ht, ?_⟩
    rw [if_pos rfl]
    cases ev
    exact (q.trans t1).same ok1 dv1
  · rename_i ht
    refine ⟨false, truV_of ok1 dv1 ht, ?_⟩
    rw [if_neg (by decide)]
    exact ⟨z1, en, d, st', ok1, ok.env t1 er, ev, q.trans t1⟩
  · cases ev
theorem and_tv {K : PySem.W.Frag} {a b : C} {σ : L2.St} {H : Hp} {Q : Bool → Hp → Prop} (h : tT K cf (.and a b) σ H Q) : tAnd (tT K cf a) (tT K cf b) σ H Q := by
  obtain ⟨z, en, d, st', k, ok, er, ev, tb, q⟩ := h
  simp only [evE] at ev
  obtain ⟨x, s1, e1, ev⟩ := bind_ok ev
  split at ev
  · rename_i ht
    refine ⟨z, en, x, s1, true, ok, er, e1, ht, fun H1 z1 hs1 ok1 t1 => ?_⟩
    subst hs1
    rw [if_pos rfl]
    exact ⟨z1, en, d, st', k, ok1, ok.env t1 er, ev, tb, fun H2 z2 hs2 ok2 t2 => q H2 z2 hs2 ok2 (t1.trans t2)⟩
  · rename_i ht
    cases ev
    rw [ht] at tb
    cases tb
    exact ⟨z, en, d, st', false, ok, er, e1, ht, fun H1 z1 hs1 ok1 t1 => (if_neg (by decide)).mpr (q H1 z1 hs1 ok1 t1)⟩
  · cases ev
theorem or_tv {K : PySem.W.Frag} {a b : C} {σ : L2.St} {H : Hp} {Q : Bool → Hp → Prop} (h : tT K cf (.or a b) σ H Q) : tOr (tT K cf a) (tT K cf b) σ H Q := by
  obtain ⟨z, en, d, st', k, ok, er, ev, tb, q⟩ := h
  simp only [evE] at ev
  obtain ⟨x, s1, e1, ev⟩ := bind_ok ev
  split at ev
  · rename_i ht
    cases ev
    rw [ht] at tb
    cases tb
    exact ⟨z, en, d, st', true, ok, er, e1, ht, fun H1 z1 hs1 ok1 t1 => (if_pos rfl).mpr (q H1 z1 hs1 ok1 t1)⟩
  · rename_i ht
    refine ⟨z, en, x, s1, false, ok, er, e1, ht, fun H1 z1 hs1 ok1 t1 => ?_⟩
    subst hs1
    rw [if_neg (by decide)]
    exact ⟨z1, en, d, st', k, ok1, ok.env t1 er, ev, tb, fun H2 z2 hs2 ok2 t2 => q H2 z2 hs2 ok2 (t1.trans t2)⟩
  · cases ev
/-- what is known of a comparison's two sides -/
def Sub1 (cf : CallF) : C → Prop
  | .cmp _ a b => SndC cf a ∧ SndC cf b
  | _ => True
theorem chain_imp {K : PySem.W.Frag} {op op' : COp} {a c : C} {i : Nat} {σ : L2.St} {H : Hp} {Q : VK} (h : tE K false cf (.and (.cmp op a (.var i)) (.cmp op' (.var i) c)) σ H Q) :
    tChain (rD2 K false (cmpD op)) (rD2 K false (cmpD op')) (tE K false cf a) (tE K false cf (.var i)) (tE K false cf c) σ H Q := by
  obtain ⟨z, en, d, st', ok, er, ev, q⟩ := h
  have h0 : evE cf (.and (.cmp op a (.var i)) (.cmp op' (.var i) c)) en z.st = (evE cf (.cmp op a (.var i)) en z.st).bind fun x s1 => (match truth s1 x with
    | some true => evE cf (.cmp op' (.var i) c) en s1
    | some false => .ok x s1
    | none => .bad) := by first | (simp only [evE]; done) | (simp only [evE]; rfl)
  have hc : ∀ (op : COp) (a b : C) en st, evE cf (.cmp op a b) en st = (evE cf a en st).bind fun x s1 => (evE cf b en s1).bind fun y s2 => cmpD op x y s2 := fun op a b en st => by simp only [evE]
  have hv : ∀ en st, evE cf (.var i) en st = (match en[i]? with
    | some (some d) => .ok d st
    | _ => .bad) := fun en st => by first | (simp only [evE]; done) | (simp only [evE]; rfl)
  rw [h0] at ev
  obtain ⟨x, s0, f0, ev⟩ := bind_ok ev
  rw [hc] at f0
  obtain ⟨xa, s1, e1, f1⟩ := bind_ok f0
  obtain ⟨y, s2, e2, e0⟩ := bind_ok f1
  clear f0 f1
  obtain ⟨k, rfl⟩ := cmp_bl e0
  have hy := e2
  rw [hv] at hy
  obtain ⟨hy, hs2⟩ : en[i]? = some (some y) ∧ s2 = s1 := by
    split at hy
    · rename_i d hd
      cases hy
      exact ⟨hd, rfl⟩
    · cases hy
  subst hs2
  have hs0 : s0 = s2 := by
    obtain ⟨_, e⟩ := opt_ok e0
    exact e
  subst hs0
  refine ⟨z, en, xa, s0, ok, er, e1, fun H1 z1 v1 hs1 ok1 t1 dv1 _ => ?_⟩
  subst hs1
  refine ⟨z1, en, y, z1.st, ok1, ok.env t1 er, e2, fun H2 z2 v2 hs2 ok2 t2 dv2 _ => ?_⟩
  have e0' : cmpD op xa y z2.st = .ok (.bl k) z2.st := by rw [hs2]; exact e0
  refine ⟨z2, xa, y, .bl k, z2.st, ok2, ok1.dv t2 dv1, dv2, e0', fun H3 z3 v3 hs3 ok3 t3 dv3 _ => ?_⟩
  cases dv3
  refine ⟨k, rfl, ?_⟩
  have t13 := t2.trans t3
  have hs31 : z3.st = z1.st := hs3.trans hs2
  cases k with
  | false =>
    rw [if_neg (by decide)]
    have hd : R.ok (D.bl false) z1.st = .ok d st' := ev
    cases hd
    exact q H3 z3 _ hs31 ok3 (t1.trans t13) (.bl false) .no
  | true =>
    rw [if_pos rfl]
    have ev : evE cf (.cmp op' (.var i) c) en z1.st = .ok d st' := ev
    rw [hc] at ev
    obtain ⟨y', s3, e3, ev⟩ := bind_ok ev
    obtain ⟨w, s4, e4, ev⟩ := bind_ok ev
    rw [e2] at e3
    cases e3
    have e4' : evE cf c en z3.st = .ok w s4 := by rw [hs31]; exact e4
    refine ⟨z3, en, w, s4, ok3, ok1.env t13 (ok.env t1 er), e4', fun H4 z4 v4 hs4 ok4 t4 dv4 _ => ?_⟩
    subst hs4
    exact ⟨z4, y, w, d, st', ok4, (ok2.dv (t3.trans t4) dv2), dv4, ev, q.trans (t1.trans (t13.trans t4))⟩
theorem chain_bl {op op' : COp} {a c : C} {i : Nat} {en : En} {st st' : Store} {d : D} (h : evE cf (.and (.cmp op a (.var i)) (.cmp op' (.var i) c)) en st = .ok d st') : ∃ k, d = .bl k := by
  have hc : ∀ (op : COp) (a b : C) en st, evE cf (.cmp op a b) en st = (evE cf a en st).bind fun x s1 => (evE cf b en s1).bind fun y s2 => cmpD op x y s2 := fun op a b en st => by simp only [evE]
  have hb : ∀ {op : COp} {a b : C} {st st' : Store} {d : D}, evE cf (.cmp op a b) en st = .ok d st' → ∃ k, d = .bl k := fun {op a b st st' d} e => by
    rw [hc] at e
    obtain ⟨_, _, _, e⟩ := bind_ok e
    obtain ⟨_, _, _, e⟩ := bind_ok e
    exact cmp_bl e
  have h0 : evE cf (.and (.cmp op a (.var i)) (.cmp op' (.var i) c)) en st = (evE cf (.cmp op a (.var i)) en st).bind fun x s1 => (match truth s1 x with
    | some true => evE cf (.cmp op' (.var i) c) en s1
    | some false => .ok x s1
    | none => .bad) := by first | (simp only [evE]; done) | (simp only [evE]; rfl)
  rw [h0] at h
  obtain ⟨x, s1, e1, h⟩ := bind_ok h
  split at h
  · exact hb h
  · cases h; exact hb e1
  · cases h
theorem snd_and {a b : C} (ha : SndC cf a) (hb : SndC cf b) (ka : Sub1 cf a) (kb : Sub1 cf b) : SndC cf (.and a b) := fun Γ X e XO h => by
  simp only [chkE] at h
  split at h
  · rename_i x y rest pos
    simp only [Bool.and_eq_true] at h
    obtain ⟨h1, h2⟩ := h
    have key : PE X (.BoolOp .And (y :: rest) pos) (tE X.K false cf b) ∧ PW X (.BoolOp .And (y :: rest) pos) (tT X.K cf b) := by
      cases rest with
      | nil =>
        have s := hb Γ X _ XO h2
        exact ⟨pe_one s.pe0, pw_and1 s.pt⟩
      | cons w r =>
        have s := hb Γ X _ XO h2
        exact ⟨s.pe0, s.pw rfl⟩
    have s := ha Γ X _ XO h1
    have w := (pw_and s.pt key.2).imp fun σ H Q q => and_tv q
    exact ⟨(pe_andT s.pe0 key.1).imp fun σ H Q q => and_ev q, w.pt, fun _ => w⟩
  · rename_i l o1 o2 m r pos
    simp only [Bool.and_eq_true] at h
    obtain ⟨⟨h0, h1⟩, h2⟩ := h
    unfold midB at h0
    split at h0
    · rename_i op a1 i op' j c2
      have h0 := of_decide_eq_true h0
      subst h0
      simp only [chkE] at h1 h2
      simp only [Bool.and_eq_true] at h1 h2
      obtain ⟨⟨p1, p2⟩, p3⟩ := h1
      obtain ⟨⟨q1, q2⟩, q3⟩ := h2
      have p1 := of_decide_eq_true p1
      have q1 := of_decide_eq_true q1
      subst p1
      subst q1
      have sa := (ka.1 Γ X _ XO p2).pe0
      have sm := (ka.2 Γ X m XO (by simp only [chkE]; exact p3)).pe0
      have sc := (kb.2 Γ X _ XO q3).pe0
      have hm : lastMarks [copOf op, copOf op'] [m, r] = false := plain_mark (chk_plain _ _ q3) _
      refine ⟨(pe_chain (op_cmp XO.un op) (op_cmp XO.un op') sa sm sc hm).imp fun σ H Q q => chain_imp q, ?_, fun h => by cases h⟩
      refine (pt_chain (op_cmp XO.un op) (op_cmp XO.un op') sa sm sc hm).imp fun σ H Q ⟨z, en, d, st', k, ok, er, ev, tb, q⟩ => ?_
      obtain ⟨k', rfl⟩ := chain_bl ev
      exact chain_imp ⟨z, en, _, st', ok, er, ev, fun H' z' v hs ok' t' dv' _ => by
        cases dv'
        cases tb
        exact ⟨_, rfl, q H' z' hs ok' t'⟩⟩
    · cases h0
  · cases h
theorem snd_or {a b : C} (ha : SndC cf a) (hb : SndC cf b) : SndC cf (.or a b) := fun Γ X e XO h => by
  simp only [chkE] at h
  split at h
  · rename_i x y rest pos
    simp only [Bool.and_eq_true] at h
    obtain ⟨h1, h2⟩ := h
    have key : PE X (.BoolOp .Or (y :: rest) pos) (tE X.K false cf b) ∧ PW X (.BoolOp .Or (y :: rest) pos) (tT X.K cf b) := by
      cases rest with
      | nil =>
        have s := hb Γ X _ XO h2
        exact ⟨pe_one s.pe0, pw_or1 s.pt⟩
      | cons w r =>
        have s := hb Γ X _ XO h2
        exact ⟨s.pe0, s.pw rfl⟩
    have s := ha Γ X _ XO h1
    have w := (pw_or s.pt key.2).imp fun σ H Q q => or_tv q
    exact ⟨(pe_orT s.pe0 key.1).imp fun σ H Q q => or_ev q, w.pt, fun _ => w⟩
  · cases h
theorem snd_ife {c a b : C} (hc : SndC cf c) (ha : SndC cf a) (hb : SndC cf b) : SndC cf (.ife c a b) := fun Γ X e XO h => by
  simp only [chkE] at h
  split at h
  · simp only [Bool.and_eq_true] at h
    obtain ⟨⟨h0, h1⟩, h2⟩ := h
    have s0 := hc Γ X _ XO h0
    have s1 := ha Γ X _ XO h1
    have s2 := hb Γ X _ XO h2
    refine ⟨(pe_ifExp s0.pt s1.pe0 s2.pe0).imp fun σ H Q ⟨z, en, d, st', ok, er, ev, q⟩ => ?_, ⟨fun pins s σ H Q I ⟨z, en, d, st', k, ok, er, ev, tb, q⟩ => ?_⟩, fun h => by cases h⟩
    · simp only [evE] at ev
      obtain ⟨x, st1, e1, ev⟩ := bind_ok ev
      split at ev
      · rename_i ht
        refine ⟨z, en, x, st1, true, ok, er, e1, ht, fun H1 z1 hs1 ok1 t1 => ?_⟩
        subst hs1
        rw [if_pos rfl]
        exact ⟨z1, en, d, st', ok1, ok.env t1 er, ev, q.trans t1⟩
      · rename_i ht
        refine ⟨z, en, x, st1, false, ok, er, e1, ht, fun H1 z1 hs1 ok1 t1 => ?_⟩
        subst hs1
        rw [if_neg (by decide)]
        exact ⟨z1, en, d, st', ok1, ok.env t1 er, ev, q.trans t1⟩
      · cases ev
    · simp only [evE] at ev
      obtain ⟨x, st1, e1, ev⟩ := bind_ok ev
      refine isTrue_IfExp ?_
      split at ev
      · rename_i ht
        refine thn (s0.pt.run pins s σ H (fun c H1 => c = true ∧ tT X.K cf a σ H1 Q) I ⟨z, en, x, st1, true, ok, er, e1, ht, fun H1 z1 hs1 ok1 t1 => ⟨rfl, ?_⟩⟩) fun c s' ⟨H1, I1, hc, q1⟩ => ?_
        · subst hs1
          exact ⟨z1, en, d, st', k, ok1, ok.env t1 er, ev, tb, fun H2 z2 hs2 ok2 t2 => q H2 z2 hs2 ok2 (t1.trans t2)⟩
        · subst hc
          rw [if_pos rfl]
          exact s1.pt.run pins s' σ H1 Q I1 q1
      · rename_i ht
        refine thn (s0.pt.run pins s σ H (fun c H1 => c = false ∧ tT X.K cf b σ H1 Q) I ⟨z, en, x, st1, false, ok, er, e1, ht, fun H1 z1 hs1 ok1 t1 => ⟨rfl, ?_⟩⟩) fun c s' ⟨H1, I1, hc, q1⟩ => ?_
        · subst hs1
          exact ⟨z1, en, d, st', k, ok1, ok.env t1 er, ev, tb, fun H2 z2 hs2 ok2 t2 => q H2 z2 hs2 ok2 (t1.trans t2)⟩
        · subst hc
          rw [if_neg (by decide)]
          exact s2.pt.run pins s' σ H1 Q I1 q1
      · cases ev
  · cases h
end
end PyE

namespace PyE
open PySem PySem.Spec PyProof.Rows L2
def AllC (P : C → Prop) : Cs → Prop
  | .nil => True
  | .cons c r => P c ∧ AllC P r
section
variable {X : Cx} {cf : CallF} {Γ : Ct}
theorem chkEs_plain : ∀ {es : Cs} {xs : List Expr}, chkEs Γ es xs = true → xs.all plainE = true
  | .nil, [], _ => rfl
  | .cons c r, e :: es, h => by
    simp only [chkEs, Bool.and_eq_true] at h
    simp only [List.all_cons, Bool.and_eq_true]
    exact ⟨chk_plain c e h.1, chkEs_plain h.2⟩
  | .nil, _ :: _, h => by simp [chkEs] at h
  | .cons _ _, [], h => by simp [chkEs] at h
theorem stars_map {env : Env} : ∀ {xs : List Expr}, xs.all plainE = true → starEach xs env = xs.map fun e => (false, eval e env)
  | [], _ => rfl
  | e :: es, h => by
    simp only [List.all_cons, Bool.and_eq_true] at h
    rw [plain_star h.1, stars_map h.2]; rfl
theorem stars_any {env : Env} {pos : Pos} {xs : List Expr} (h : xs.all plainE = true) : (backTo pos (starEach xs env)).any (·.1) = false := by
  rw [stars_map h]
  unfold backTo
  simp [List.any_map, Function.comp_def]
theorem stars_all {env : Env} {pos : Pos} {xs : List Expr} (h : xs.all plainE = true) : (backTo pos (starEach xs env)).all (fun x => !x.1) = true := by
  rw [stars_map h]
  unfold backTo
  simp [List.all_map, Function.comp_def]
theorem few_of {args : List Expr} {env : Env} {pos : Pos} (pl : args.all plainE = true) (h30 : args.length < 30) : methodCallForm (args.length + ([] : List Keyword).length) (backTo pos (starEach args env)) (backToKw pos (keywordEach [] env)) = true := by
  unfold methodCallForm
  rw [stars_all pl]
  show (true && true && decide (args.length + 0 + 0 < 30)) = true
  simpa using h30
theorem ofEs {K : PySem.W.Frag} {c : C} {r : Cs} {σ : L2.St} {H : Hp} {Q : List V → Hp → Prop} (h : tEs K cf (.cons c r) σ H Q) : tCons (tE K false cf c) (tEs K cf r) σ H Q := by
  obtain ⟨z, en, xs, st', ok, er, ev, q⟩ := h
  simp only [evEs] at ev
  obtain ⟨x, s1, e1, ev⟩ := bind_ok ev
  obtain ⟨ys, s2, e2, ev⟩ := bind_ok ev
  cases ev
  refine ⟨z, en, x, s1, ok, er, e1, fun H1 z1 v1 hs1 ok1 t1 dv1 _ => ?_⟩
  subst hs1
  exact ⟨z1, en, ys, st', ok1, ok.env t1 er, e2, fun H2 z2 vs hs2 ok2 t2 dv2 => q H2 z2 _ hs2 ok2 (t1.trans t2) (.cons (ok1.dv t2 dv1) dv2)⟩
theorem pa_of (XO : XOk Γ cf X) : ∀ {es : Cs} {xs : List Expr}, AllC (SndC cf) es → chkEs Γ es xs = true → PA X xs (tEs X.K cf es)
  | .nil, [], _, _ => pa_nil.imp fun σ H Q ⟨z, en, xs, st', ok, er, ev, q⟩ => by
    simp only [evEs] at ev
    cases ev
    exact q H z [] rfl ok .refl .nil
  | .cons c r, e :: es, hs, h => by
    simp only [chkEs, Bool.and_eq_true] at h
    exact (pa_cons (hs.1 Γ X e XO h.1).pe0 (pa_of XO hs.2 h.2) (plain_star (chk_plain _ _ h.1) _ _)).imp fun σ H Q q => ofEs q
  | .nil, _ :: _, _, h => by simp [chkEs] at h
  | .cons _ _, [], _, h => by simp [chkEs] at h
theorem len_Es : ∀ {es : Cs} {en : En} {st st' : Store} {xs : List D} {ys : List Expr}, chkEs Γ es ys = true → evEs cf es en st = .ok xs st' → xs.length = ys.length
  | .nil, en, st, st', xs, [], _, e => by simp only [evEs] at e; cases e; rfl
  | .cons c r, en, st, st', xs, y :: ys, h, e => by
    simp only [chkEs, Bool.and_eq_true] at h
    simp only [evEs] at e
    obtain ⟨x, s1, e1, e⟩ := bind_ok e
    obtain ⟨zs, s2, e2, e⟩ := bind_ok e
    cases e
    rw [List.length_cons, List.length_cons, len_Es h.2 e2]
  | .nil, _, _, _, _, _ :: _, h, _ => by simp [chkEs] at h
  | .cons _ _, _, _, _, _, [], h, _ => by simp [chkEs] at h
theorem snd_tup {es : Cs} (hs : AllC (SndC cf) es) : SndC cf (.tup es) := fun Γ X e XO h => by
  simp only [chkE] at h
  split at h
  · refine .plain rfl ((pe_tup (pa_of XO hs h)).imp fun σ H Q ⟨z, en, d, st', ok, er, ev, q⟩ => ?_)
    simp only [evE] at ev
    obtain ⟨xs, s1, e1, ev⟩ := bind_ok ev
    obtain ⟨hg, ev⟩ := guard_ok ev
    cases ev
    refine ⟨z, en, xs, st', ok, er, e1, fun H1 z1 vs hs1 ok1 t1 dv1 => ⟨by rw [← dv1.length, ← line_eq]; exact of_decide_eq_true hg, ?_⟩⟩
    subst hs1
    exact (q.trans t1).tup ok1 dv1
  · cases h
theorem snd_list {es : Cs} (hs : AllC (SndC cf) es) : SndC cf (.list es) := fun Γ X e XO h => by
  simp only [chkE] at h
  split at h
  · refine .plain rfl ((pe_lst (pa_of XO hs h)).imp fun σ H Q ⟨z, en, d, st', ok, er, ev, q⟩ => ?_)
    simp only [evE] at ev
    obtain ⟨xs, s1, e1, ev⟩ := bind_ok ev
    obtain ⟨hg, ev⟩ := guard_ok ev
    cases ev
    refine ⟨z, en, xs, st', ok, er, e1, fun H1 z1 vs hs1 ok1 t1 dv1 => ⟨by rw [← dv1.length, ← line_eq]; exact of_decide_eq_true hg, ?_⟩⟩
    subst hs1
    exact (q.trans t1).lst ok1 dv1
  · cases h
theorem Ok.at {K : PySem.W.Frag} {H : Hp} {z : Z} {p : Addr} {o : HO} (ok : Ok K H z) (hp : z.he p = Option.none) : Ok K (upd H p o) z :=
  ⟨fun a u e => by
    have hne : a ≠ p := fun w => by rw [w, hp] at e; cases e
    rw [upd_ne hne]; exact ok.sub a u e, ok.sim⟩
theorem To.at {H H' : Hp} {z z' : Z} {p : Addr} {o : HO} (t : To H z H' z') (hp : H p = Option.none) : To H z (upd H' p o) z' :=
  ⟨t.ext, fun a u e q => by
    have hne : a ≠ p := ne_of_none e hp
    rw [upd_ne hne]; exact t.hid a u e q, fun a e => by
    by_cases w : a = p
    · subst w; exact hp
    · rw [upd_ne w] at e; exact t.there a e⟩
/-- it comes to be seen -/
theorem Ok.show {K : PySem.W.Frag} {H : Hp} {z : Z} {p : Addr} {o : HO} (ok : Ok K H z) (hp : z.he p = Option.none) (e : H p = some o) : Ok K H (z.put p o) :=
  ⟨fun a u q => by
    have q : upd z.he p o a = some u := q
    by_cases w : a = p
    · subst w; rw [upd_same] at q; cases q; exact e
    · rw [upd_ne w] at q; exact ok.sub a u q, ok.sim.new hp⟩
theorem To.show {H H' : Hp} {z z' : Z} {p : Addr} {o : HO} (t : To H z H' z') (hp : H p = Option.none) (hz : z'.he p = Option.none) : To H z H' (z'.put p o) :=
  ⟨t.ext.trans (Ext.new hz), fun a u e q => by
    have hne : a ≠ p := ne_of_none e hp
    obtain ⟨h1, h2⟩ := t.hid a u e q
    exact ⟨h1, by show upd z'.he p o a = _; rw [upd_ne hne]; exact h2⟩, t.there⟩
theorem End.lstAt {K : PySem.W.Frag} {fr : Bool} {H H' : Hp} {z z' : Z} {xs : List D} {vs : List V} {p : Addr} {st' : Store} {Q : VK} (q : End K fr H z (.lst xs) st' Q) (hs : z'.st = st') (ok : Ok K H' z') (t : To H z H' z') (hp : H p = Option.none) (hz : z'.he p = Option.none) (e : H' p = some (.lst vs)) (dv : DVsz K z' xs vs) : Q (.ref p) H' :=
  q _ (z'.put p (.lst vs)) _ hs (ok.show hz e) (t.show hp hz) (.lst (.inl upd_same) (ok.sim.ne_none hz) (dv.mono (Ext.new hz) ok.sim)) fun _ _ => ⟨z'.he, p, rfl, hz, t.ext, ok.sim, vs, rfl, dv⟩
theorem End.dctAt {K : PySem.W.Frag} {fr : Bool} {H H' : Hp} {z z' : Z} {es : List D} {kvs : List (Key × V)} {p : Addr} {st' : Store} {Q : VK} (q : End K fr H z (.dct es) st' Q) (hs : z'.st = st') (ok : Ok K H' z') (t : To H z H' z') (hp : H p = Option.none) (hz : z'.he p = Option.none) (e : H' p = some (.dK kvs)) (dv : DKsz K z' es kvs) : Q (.ref p) H' :=
  q _ (z'.put p (.dK kvs)) _ hs (ok.show hz e) (t.show hp hz) (.dct upd_same (ok.sim.ne_none hz) (dv.mono (Ext.new hz) ok.sim)) fun _ _ => ⟨z'.he, p, rfl, hz, t.ext, ok.sim, kvs, rfl, dv⟩
theorem isKey_lit {d : D} (h : isKey d = true) : ∃ k : Key, d = kD k := by
  cases d <;> first | (cases h; done) | skip
  · exact ⟨.inl _, rfl⟩
  · exact ⟨.inr _, rfl⟩
theorem litV_key (k : Key) : litV (kD k) = some (kV k) := by cases k <;> rfl
theorem chkKs_cons {d : D} {ds : List D} {keys : List (Option Expr)} (h : chkKs (d :: ds) keys = true) : ∃ k j p keys', keys = some (.Constant k j p) :: keys' ∧ constIs k d = true ∧ isKey d = true ∧ chkKs ds keys' = true := by
  cases keys with
  | nil => simp [chkKs] at h
  | cons o r =>
    cases o with
    | none => simp [chkKs] at h
    | some e =>
      cases e <;> first | (simp [chkKs] at h; done) | skip
      simp only [chkKs, Bool.and_eq_true] at h
      exact ⟨_, _, _, _, rfl, h.1.1, h.1.2, h.2⟩
theorem chkEs_cons {v : Expr} {vals : List Expr} {cs : Cs} (h : chkEs Γ cs (v :: vals) = true) : ∃ c r, cs = .cons c r ∧ chkE Γ c v = true ∧ chkEs Γ r vals = true := by
  cases cs with
  | nil => simp [chkEs] at h
  | cons c r =>
    simp only [chkEs, Bool.and_eq_true] at h
    exact ⟨c, r, rfl, h.1, h.2⟩
theorem pps_of (XO : XOk Γ cf X) {pos : Pos} : ∀ (ks : List D) (cs : Cs) (keys : List (Option Expr)) (vals : List Expr), AllC (SndC cf) cs → chkKs ks keys = true → chkEs Γ cs vals = true → keys.length = vals.length →
    ∃ (trs : List (TE × TE)) (kks : List Key), ks = kks.map kD ∧ kks.length = keys.length ∧ PPs X pos keys vals trs ∧ ∀ (σ : L2.St) (H : Hp) (Q : List (V × V) → Hp → Prop) (z : Z) (en : En) (xs : List D) (st' : Store), Ok X.K H z → EnvR X.K z en σ → evEs cf cs en z.st = .ok xs st' →
      (∀ H' z' vs, z'.st = st' → Ok X.K H' z' → To H z H' z' → DVsz X.K z' xs vs → Q ((kks.map kV).zip vs) H') → tPairs trs σ H Q := by
  intro ks
  induction ks with
  | nil =>
    intro cs keys vals hs h1 h2 hl
    cases keys with
    | cons _ _ => simp [chkKs] at h1
    | nil =>
      cases vals with
      | cons _ _ => simp at hl
      | nil =>
        cases cs with
        | cons _ _ => simp [chkEs] at h2
        | nil =>
          refine ⟨[], [], rfl, rfl, pps_nil, fun σ H Q z en xs st' ok er ev q => ?_⟩
          simp only [evEs] at ev
          cases ev
          exact q H z [] rfl ok .refl .nil
  | cons d ds ih =>
    intro cs keys vals hs h1 h2 hl
    obtain ⟨k, j, p, keys', rfl, h3, h4, h5⟩ := chkKs_cons h1
    cases vals with
    | nil => simp at hl
    | cons v vals =>
      obtain ⟨c, r, rfl, h6, h7⟩ := chkEs_cons h2
      obtain ⟨trs, kks, e1, e2, pp, ih⟩ := ih r keys' vals hs.2 h5 h7 (by simpa using hl)
      obtain ⟨kk, rfl⟩ := isKey_lit h4
      have s := (hs.1 Γ X v XO h6).pe0
      refine ⟨(tC (kV kk), tE X.K false cf c) :: trs, kk :: kks, by rw [e1]; rfl, by simp [e2], pps_cons (pe_const h3 (litV_key kk)) s pp, fun σ H Q z en xs st' ok er ev q => ?_⟩
      simp only [evEs] at ev
      obtain ⟨x, s1, e3, ev⟩ := bind_ok ev
      obtain ⟨ys, s2, e4, ev⟩ := bind_ok ev
      cases ev
      refine ⟨z, en, x, s1, ok, er, e3, fun H1 z1 v1 hs1 ok1 t1 dv1 _ => ?_⟩
      subst hs1
      exact ih σ H1 _ z1 en ys st' ok1 (ok.env t1 er) e4 fun H2 z2 vs hs2 ok2 t2 dv2 => q H2 z2 (v1 :: vs) hs2 ok2 (t1.trans t2) (.cons (ok1.dv t2 dv1) dv2)
theorem dictD_ok {K : PySem.W.Frag} {H : Hp} {μ : Nat → Addr} {n : Nat} : ∀ {kks : List Key} {xs : List D} {vs : List V} {acc es : List D} {kacc : List (Key × V)}, dictD (kks.map kD) xs acc = some es → DVs H K μ n xs vs → DKs H K μ n acc kacc →
    kks.length = vs.length ∧ DKs H K μ n es (mergeK kacc (kks.zip vs))
  | [], [], _, acc, es, kacc, h, .nil, a => by
    simp only [List.map_nil, dictD] at h
    cases h
    exact ⟨rfl, a⟩
  | k :: kks, x :: xs, _, acc, es, kacc, h, .cons dv dvs, a => by
    simp only [List.map_cons, dictD] at h
    split at h
    · obtain ⟨h1, h2⟩ := dictD_ok h dvs (dput_ok k dv a)
      exact ⟨by simp [h1], h2⟩
    · cases h
  | [], _ :: _, _, _, _, _, h, _, _ => by simp [dictD] at h
  | _ :: _, [], _, _, _, _, h, _, _ => by simp [dictD] at h
theorem zip_keys : ∀ (kks : List Key) (vs : List V), (kks.map kV).zip vs = (kks.zip vs).map fun kv => (kV kv.1, kv.2)
  | [], _ => rfl
  | _ :: _, [] => rfl
  | k :: kks, v :: vs => by simp [zip_keys kks vs]
theorem snd_dict {ks : List D} {vs : Cs} (hs : AllC (SndC cf) vs) : SndC cf (.dict ks vs) := fun Γ X e XO h => by
  simp only [chkE] at h
  split at h
  · rename_i keys values pos
    simp only [Bool.and_eq_true] at h
    obtain ⟨⟨⟨h1, h2⟩, h3⟩, h4⟩ := h
    have h3 := of_decide_eq_true h3
    have h4 := of_decide_eq_true h4
    obtain ⟨trs, kks, e1, e2, pp, run⟩ := pps_of (pos := pos) XO ks vs keys values hs h1 h2 h3
    have fin : ∀ {σ : L2.St} {H : Hp} {Q : VK}, tE X.K true cf (.dict ks vs) σ H Q → ∀ p, H p = none → tPairs trs σ (upd H p (.dK [])) fun ps H2 => H2 p = some (.dK []) ∧ ∃ kvs : List (Key × V), ps = kvs.map (fun kv => (kV kv.1, kv.2)) ∧ kvs.length ≤ 15 ∧ Q (.ref p) (upd H2 p (.dK (mergeK [] kvs))) := by
      intro σ H Q ⟨z, en, d, st', ok, er, ev, q⟩ p hp
      simp only [evE] at ev
      obtain ⟨xs, s1, e3, ev⟩ := bind_ok ev
      obtain ⟨ev', hst⟩ := opt_ok ev
      subst hst
      rw [Option.map_eq_some_iff] at ev'
      obtain ⟨es, e4, rfl⟩ := ev'
      have hz := ok.none hp
      refine run σ _ _ z en xs st' (ok.at hz) er e3 fun H' z' ws hs' ok' t' dv' => ?_
      obtain ⟨g1, g2⟩ := t'.hid p _ upd_same hz
      rw [e1] at e4
      obtain ⟨l1, dk⟩ := dictD_ok (kacc := []) e4 dv' .nil
      have l2 : (kks.zip ws).length ≤ 15 := by rw [List.length_zip]; omega
      have t0 : To H z H' z' := ⟨t'.ext, fun a u e q => t'.hid a u (by rw [upd_ne (ne_of_none e hp)]; exact e) q, fun a e => by
        have := t'.there a e
        by_cases w : a = p
        · subst w; exact hp
        · rwa [upd_ne w] at this⟩
      refine ⟨g1, kks.zip ws, zip_keys _ _, l2, ?_⟩
      exact q.dctAt hs' (ok'.at g2) (t0.at hp) hp g2 upd_same dk
    by_cases h0 : keys = []
    · subst h0
      cases values with
      | cons _ _ => simp at h3
      | nil =>
        refine .plain rfl (pe_dnewK.imp fun σ H Q q p hp => ?_)
        have kk0 : kks = [] := by simpa using e2
        subst kk0
        cases vs with
        | cons _ _ => simp [chkEs] at h2
        | nil =>
          obtain ⟨z, en, d, st', ok, er, ev, q⟩ := q
          simp only [evE, evEs] at ev
          have ev : opt ((dictD ks [] []).map .dct) z.st = .ok d st' := ev
          obtain ⟨ev', hst⟩ := opt_ok ev
          subst hst
          rw [e1] at ev'
          cases ev'
          exact q.dct ok .nil p hp
    · have hall : keys.all (·.isSome) = true := by
        have : ∀ (ks : List D) (keys : List (Option Expr)), chkKs ks keys = true → keys.all (·.isSome) = true := by
          intro ks
          induction ks with
          | nil => intro keys h; cases keys with
            | nil => rfl
            | cons _ _ => simp [chkKs] at h
          | cons d ds ih =>
            intro keys h
            obtain ⟨_, _, _, _, rfl, _, _, h5⟩ := chkKs_cons h
            simp only [List.all_cons, Bool.and_eq_true]
            exact ⟨rfl, ih _ h5⟩
        exact this ks keys h1
      exact .plain rfl ((pe_disp pp hall h3 h0 h4).imp fun σ H Q q => fin q)
  · cases h
end
end PyE

namespace PyE
open PySem PySem.Spec PyProof.Rows L2
section
variable {X : Cx} {cf : CallF} {Γ : Ct}
theorem thaw_ok {K : PySem.W.Frag} {H H' : Hp} {z z' : Z} {x : D} {v : V} (hb : isBox x = true) (ok' : Ok K H' z') (t : To H z H' z') (f : FreshOk K z z' x v) :
    ∃ z2 : Z, z2.st = z'.st ++ [x] ∧ Ok K H' z2 ∧ To H z H' z2 ∧ DVz K z2 (.ref z'.n) v := by
  obtain ⟨h0, a, rfl, hn, ex, sm, r⟩ := f
  have go : ∀ o, z'.he = upd h0 a o → CellOk z'.he K (muAt z'.mu z'.n a) (z'.n + 1) x a → ∃ z2 : Z, z2.st = z'.st ++ [x] ∧ Ok K H' z2 ∧ To H z H' z2 ∧ DVz K z2 (.ref z'.n) (.ref a) := fun o eo ck => by
    have hl : (z'.st ++ [x]).length = z'.n + 1 := by rw [List.length_append, List.length_singleton]
    refine ⟨⟨z'.he, muAt z'.mu z'.n a, z'.st ++ [x]⟩, rfl, ⟨ok'.sub, ?_⟩, ⟨?_, t.hid, t.there⟩, ?_⟩
    · show Sim z'.he K (muAt z'.mu z'.st.length a) (z'.st ++ [x])
      rw [eo]
      refine sm.thaw hn ?_
      rw [← eo]; exact ck
    · show Ext z.he z.mu z.n z'.he (muAt z'.mu z'.n a) (z'.st ++ [x]).length
      rw [hl, eo]
      exact ex.trans (Ext.thaw hn)
    · have : DV z'.he K (muAt z'.mu z'.n a) (z'.st ++ [x]).length (.ref z'.n) (.ref (muAt z'.mu z'.n a z'.n)) := .ref (by rw [hl]; exact Nat.lt_succ_self _)
      rw [muAt_new] at this
      exact this
  cases x with
  | lst xs =>
    obtain ⟨vs, e, dv⟩ := r
    refine go _ e ⟨vs, by rw [e, upd_same], ?_⟩
    rw [e]
    exact dv.mono (Ext.thaw hn) sm
  | dct es =>
    obtain ⟨kvs, e, dv⟩ := r
    refine go _ e ⟨kvs, by rw [e, upd_same], ?_⟩
    rw [e]
    exact dv.mono (Ext.thaw hn) sm
  | _ => cases hb
theorem mut_imp {K : PySem.W.Frag} {c : C} {σ : L2.St} {H : Hp} {Q : VK} (h : tE K false cf (.mut c) σ H Q) : tE K true cf c σ H Q := by
  obtain ⟨z, en, d, st', ok, er, ev, q⟩ := h
  simp only [evE] at ev
  obtain ⟨x, s1, e1, ev⟩ := bind_ok ev
  refine ⟨z, en, x, s1, ok, er, e1, fun H' z' v hs ok' t dv f => ?_⟩
  subst hs
  split at ev
  · cases ev
    obtain ⟨z2, h1, h2, h3, h4⟩ := thaw_ok rfl ok' t (f rfl rfl)
    exact q H' z2 v h1 h2 h3 h4 .no
  · cases ev
    obtain ⟨z2, h1, h2, h3, h4⟩ := thaw_ok rfl ok' t (f rfl rfl)
    exact q H' z2 v h1 h2 h3 h4 .no
  · cases ev
theorem fre_plainT {c : C} {e : Expr} (h0 : freC c = true) (h : chkE Γ c e = true) : plainT e = true := by
  cases c <;> first | (simp only [freC] at h0; cases h0; done) | skip
  all_goals (simp only [chkE] at h; split at h <;> first | rfl | (cases h; done))
theorem snd_mut {c : C} (hc : SndC cf c) : SndC cf (.mut c) := fun Γ X e XO h => by
  simp only [chkE, Bool.and_eq_true] at h
  have s := (hc Γ X e XO h.2).pe
  rw [h.1] at s
  exact .plain (fre_plainT h.1 h.2) (s.imp fun σ H Q q => mut_imp q)
def OptC (cf : CallF) : Co → Prop
  | .none => True
  | .some c => SndC cf c
theorem po_of (XO : XOk Γ cf X) {c : Co} {o : Option Expr} (hc : OptC cf c) (h : chkO Γ c o = true) : PO X o (tO X.K cf c) := by
  cases c with
  | none =>
    cases o with
    | some _ => simp [chkO] at h
    | none =>
      refine po_none.imp fun σ H Q ⟨z, en, d, st', ok, er, ev, q⟩ => ?_
      simp only [evO] at ev
      cases ev
      exact q H z rfl ok .refl
  | some c =>
    cases o with
    | none => simp [chkO] at h
    | some e =>
      simp only [chkO] at h
      refine (po_some (hc Γ X e XO h).pe0).imp fun σ H Q ⟨z, en, d, st', ok, er, ev, q⟩ => ?_
      simp only [evO] at ev
      obtain ⟨x, s1, e1, ev⟩ := bind_ok ev
      split at ev
      · cases ev
        refine ⟨z, en, _, st', ok, er, e1, fun H' z' v hs ok' t dv _ => ?_⟩
        cases dv
        exact ⟨_, rfl, q H' z' hs ok' t⟩
      · cases ev
theorem snd_sl {a : C} {lo hi : Co} (ha : SndC cf a) (hl : OptC cf lo) (hh : OptC cf hi) : SndC cf (.sl a lo hi) := fun Γ X e XO h => by
  simp only [chkE] at h
  split at h
  · simp only [Bool.and_eq_true] at h
    obtain ⟨⟨h1, h2⟩, h3⟩ := h
    refine .plain rfl ((pe_slice sl_ok (ha Γ X _ XO h1).pe0 (po_of XO hl h2) (po_of XO hh h3)).imp fun σ H Q ⟨z, en, d, st', ok, er, ev, q⟩ => ?_)
    simp only [evE] at ev
    obtain ⟨x, s1, e1, ev⟩ := bind_ok ev
    obtain ⟨l, s2, e2, ev⟩ := bind_ok ev
    obtain ⟨u, s3, e3, ev⟩ := bind_ok ev
    obtain ⟨ev2, hst⟩ := opt_ok ev
    subst hst
    refine ⟨z, en, x, s1, ok, er, e1, fun H1 z1 v1 hs1 ok1 t1 dv1 _ => ?_⟩
    subst hs1
    refine ⟨z1, en, l, s2, ok1, ok.env t1 er, e2, fun H2 z2 hs2 ok2 t2 => ?_⟩
    subst hs2
    refine ⟨z2, en, u, _, ok2, ok1.env t2 (ok.env t1 er), e3, fun H3 z3 hs3 ok3 t3 => ?_⟩
    subst hs3
    exact ⟨z3, x, d, ok3, ok2.dv t3 (ok1.dv t2 dv1), ev2, q.trans (t1.trans (t2.trans t3))⟩
  · cases h
theorem chkC_lit {c : C} {r : Cs} {ds : List D} (h : chkC Γ (.cons c r) [] [] ds = true) : ∃ d ds', c = .lit d ∧ ds = d :: ds' ∧ (litV d).isSome = true ∧ chkC Γ r [] [] ds' = true := by
  cases c with
  | lit d =>
    cases ds with
    | nil => simp [chkC] at h
    | cons d' ds =>
      simp only [chkC, Bool.and_eq_true] at h
      have := beq_eq h.1.1
      subst this
      exact ⟨d, ds, rfl, rfl, h.1.2, h.2⟩
  | _ => cases ds <;> simp [chkC] at h
theorem lits_ok : ∀ (es : Cs) {ds : List D}, chkC Γ es [] [] ds = true → ∀ {en : En} {st st' : Store} {xs : List D}, evEs cf es en st = .ok xs st' → st' = st ∧ ∃ dv, mapO litV ds = some dv ∧ ∀ (K : PySem.W.Frag) (z : Z), DVsz K z xs dv
  | .nil, ds, h, en, st, st', xs, e => by
    cases ds with
    | cons _ _ => simp [chkC] at h
    | nil =>
      simp only [evEs] at e
      cases e
      exact ⟨rfl, [], rfl, fun K z => .nil⟩
  | .cons c r, ds, h, en, st, st', xs, e => by
    obtain ⟨d, ds, rfl, rfl, h2, h3⟩ := chkC_lit h
    simp only [evEs, evE] at e
    obtain ⟨x, s1, e1, e⟩ := bind_ok e
    cases e1
    obtain ⟨ys, s2, e2, e⟩ := bind_ok e
    cases e
    obtain ⟨r1, dv, r2, r3⟩ := lits_ok r h3 e2
    obtain ⟨w, hw⟩ := Option.isSome_iff_exists.mp h2
    refine ⟨r1, w :: dv, ?_, fun K z => .cons (litV_dv hw) (r3 K z)⟩
    unfold mapO
    rw [hw, r2]; rfl
/-- the state behind the arguments -/
def AfterA (X : Cx) (pins : List (Addr × Obj)) (σ : L2.St) (H : Hp) (z : Z) (xs : List D) (st' : Store) (ds : List D) (n m : Nat) (us ws : List Value) (s2 : Shared) : Prop :=
  ∃ H' z' vs1 vs2 dv, z'.st = st' ∧ L2.Inv X pins σ H' s2 ∧ Ok X.K H' z' ∧ To H z H' z' ∧ Vals vs1 us ∧ Vals vs2 ws ∧ mapO litV ds = some dv ∧ DVsz X.K z' xs (vs1 ++ vs2 ++ dv) ∧ us.length = n ∧ ws.length = m
theorem run_kw (XO : XOk Γ cf X) {pos : Pos} {pins : List (Addr × Obj)} {σ : L2.St} {en : En} {ds : List D} : ∀ (es : Cs) {kws : List Keyword} {s : Shared} {H : Hp} {z : Z} {xs : List D} {st' : Store}, AllC (SndC cf) es → chkC Γ es [] kws ds = true → L2.Inv X pins σ H s → Ok X.K H z → EnvR X.K z en σ → evEs cf es en z.st = .ok xs st' →
    wpAny (model X.prog X.w) X.A (evalAll ((backToKw pos (keywordEach kws X.env)).map (·.2))) (fun ws s2 => AfterA X pins σ H z xs st' ds 0 kws.length [] ws s2) X.xe s
  | es, [], s, H, z, xs, st', hs, h, I, ok, er, ev => by
    obtain ⟨rfl, dv, h2, h3⟩ := lits_ok es h ev
    exact wpAny_evalAll_nil ⟨H, z, [], [], dv, rfl, I, ok, .refl, .nil, .nil, h2, h3 X.K z, rfl, rfl⟩
  | .nil, k :: kws, s, H, z, xs, st', hs, h, I, ok, er, ev => by simp [chkC] at h
  | .cons c r, ⟨nm, e, kp⟩ :: kws, s, H, z, xs, st', hs, h, I, ok, er, ev => by
    simp only [chkC, Bool.and_eq_true] at h
    simp only [evEs] at ev
    obtain ⟨x, s1, e1, ev⟩ := bind_ok ev
    obtain ⟨ys, s2, e2, ev⟩ := bind_ok ev
    cases ev
    show wpAny _ _ (evalAll ((do let v ← eval e X.env; standAt pos; pure v) :: (backToKw pos (keywordEach kws X.env)).map (·.2))) _ _ s
    refine wpAny_evalAll_cons (wpAny_bind (thn ((hs.1 Γ X e XO h.1).pe0.run pins s σ H (fun v H1 => ∃ z1 : Z, z1.st = s1 ∧ Ok X.K H1 z1 ∧ To H z H1 z1 ∧ DVz X.K z1 x v) I ⟨z, en, x, s1, ok, er, e1, fun H1 z1 v hs1 ok1 t1 dv1 _ => ⟨z1, hs1, ok1, t1, dv1⟩⟩) fun u s3 ⟨v, H1, I1, r1, z1, hs1, ok1, t1, dv1⟩ => wpAny_bind (wpAny_standAt (wpAny_pure ?_))))
    subst hs1
    exact thn (run_kw XO r hs.2 h.2 I1 ok1 (ok.env t1 er) e2) fun ws s4 ⟨H2, z2, vs1, vs2, dv, a1, a2, a3, a4, a5, a6, a7, a8, l1, l2⟩ => by
      cases a5
      exact ⟨H2, z2, [], v :: vs2, dv, a1, a2, a3, t1.trans a4, .nil, .cons r1 a6, a7, .cons (ok1.dv a4 dv1) a8, rfl, by rw [List.length_cons, List.length_cons, l2]⟩
theorem run_args (XO : XOk Γ cf X) {pos : Pos} {pins : List (Addr × Obj)} {σ : L2.St} {en : En} {ds : List D} {kws : List Keyword} : ∀ (es : Cs) {args : List Expr} {s : Shared} {H : Hp} {z : Z} {xs : List D} {st' : Store}, AllC (SndC cf) es → chkC Γ es args kws ds = true → L2.Inv X pins σ H s → Ok X.K H z → EnvR X.K z en σ → evEs cf es en z.st = .ok xs st' →
    wpAny (model X.prog X.w) X.A (spliced (backTo pos (starEach args X.env))) (fun us s1 => wpAny (model X.prog X.w) X.A (evalAll ((backToKw pos (keywordEach kws X.env)).map (·.2))) (fun ws s2 => AfterA X pins σ H z xs st' ds args.length kws.length us ws s2) X.xe s1) X.xe s
  | es, [], s, H, z, xs, st', hs, h, I, ok, er, ev => Calls.spliced_nil (thn (run_kw XO es hs h I ok er ev) fun ws s2 w => w)
  | .nil, e :: args, s, H, z, xs, st', hs, h, I, ok, er, ev => by simp [chkC] at h
  | .cons c r, e :: args, s, H, z, xs, st', hs, h, I, ok, er, ev => by
    simp only [chkC, Bool.and_eq_true] at h
    simp only [evEs] at ev
    obtain ⟨x, s1, e1, ev⟩ := bind_ok ev
    obtain ⟨ys, s2, e2, ev⟩ := bind_ok ev
    cases ev
    rw [plain_star (chk_plain _ _ h.1)]
    show wpAny _ _ (spliced ((false, eval e X.env) :: backTo pos (starEach args X.env))) _ _ s
    refine Calls.spliced_cons (thn ((hs.1 Γ X e XO h.1).pe0.run pins s σ H (fun v H1 => ∃ z1 : Z, z1.st = s1 ∧ Ok X.K H1 z1 ∧ To H z H1 z1 ∧ DVz X.K z1 x v) I ⟨z, en, x, s1, ok, er, e1, fun H1 z1 v hs1 ok1 t1 dv1 _ => ⟨z1, hs1, ok1, t1, dv1⟩⟩) fun u s3 ⟨v, H1, I1, r1, z1, hs1, ok1, t1, dv1⟩ => ?_)
    subst hs1
    exact thn (run_args XO r hs.2 h.2 I1 ok1 (ok.env t1 er) e2) fun us s4 w => thn w fun ws s5 ⟨H2, z2, vs1, vs2, dv, a1, a2, a3, a4, a5, a6, a7, a8, l1, l2⟩ => ⟨H2, z2, v :: vs1, vs2, dv, a1, a2, a3, t1.trans a4, .cons r1 a5, a6, a7, .cons (ok1.dv a4 dv1) a8, by rw [List.length_cons, List.length_cons, l1], l2⟩
theorem chkC_plain : ∀ (es : Cs) {args : List Expr} {kws : List Keyword} {ds : List D}, chkC Γ es args kws ds = true → args.all plainE = true
  | _, [], _, _, _ => rfl
  | .nil, _ :: _, _, _, h => by simp [chkC] at h
  | .cons c r, e :: args, _, _, h => by
    simp only [chkC, Bool.and_eq_true] at h
    simp only [List.all_cons, Bool.and_eq_true]
    exact ⟨chk_plain _ _ h.1, chkC_plain r h.2⟩
theorem kw_all {env : Env} {pos : Pos} : ∀ {kws : List Keyword} {ks : List Str}, ks.map some = kws.map (·.arg) → (backToKw pos (keywordEach kws env)).all (·.1.isSome) = true ∧ (backToKw pos (keywordEach kws env)).any (·.1.isNone) = false ∧ (backToKw pos (keywordEach kws env)).filterMap (·.1) = ks
  | [], [], _ => ⟨rfl, rfl, rfl⟩
  | ⟨nm, e, kp⟩ :: kws, k :: ks, h => by
    simp only [List.map_cons, List.cons.injEq] at h
    obtain ⟨h1, h2⟩ := h
    obtain ⟨i1, i2, i3⟩ := kw_all (env := env) (pos := pos) h2
    have h1 : some k = nm := h1
    subst h1
    have e1 : backToKw pos (keywordEach (⟨some k, e, kp⟩ :: kws) env) = (some k, do let v ← eval e env; standAt pos; pure v) :: backToKw pos (keywordEach kws env) := rfl
    rw [e1]
    exact ⟨by rw [List.all_cons, i1]; rfl, by rw [List.any_cons, i2]; rfl, by rw [List.filterMap_cons_some (show (fun (x : Option Str × Sem Value) => x.1) _ = some k from rfl), i3]⟩
  | [], _ :: _, h => by simp at h
  | _ :: _, [], h => by simp at h
/-- f(..): what the callee wants -/
theorem pe_own {f : Nat} {es : Cs} {x : Str} {p pos : Pos} {args : List Expr} {kws : List Keyword} {ft : FT} {pat : Nat × List Str × List D} (XO : XOk Γ cf X) (hs : AllC (SndC cf) es) (hg : gloB Γ.sc x = true) (hk : okN x = true) (hf : Γ.fns[f]? = some ft) (hat : ft.at_ = none) (hx : ft.name = x) (hp : pat ∈ ft.pats)
    (h1 : pat.1 = args.length) (h2 : pat.2.1.map some = kws.map (·.arg)) (h3 : chkC Γ es args kws pat.2.2 = true) :
    PE X (.Call (.Name x p) args kws pos) (fun σ H Q => ∃ z en xs st', Ok X.K H z ∧ EnvR X.K z en σ ∧ evEs cf es en z.st = .ok xs st' ∧ ∀ H' z' vs, z'.st = st' → Ok X.K H' z' → To H z H' z' → DVsz X.K z' xs vs → spF X.K cf f vs H' Q E0) := by
  refine ⟨fun pins s σ H Q I ⟨z, en, xs, st', ok, er, ev, q⟩ => ?_⟩
  obtain ⟨k, a, fd, hm, kp, F, rm1, binds⟩ := (XO.fns f ft hf).ex
  have rm := rm1.mono (Nat.le_succ k)
  unfold AtOk at hm
  rw [hat] at hm
  subst hx
  have hgl : Gl X ft.name := by
    show X.env.scope.names.lookup ft.name = _
    rw [XO.sc]; exact of_decide_eq_true hg
  simp only [okN, Bool.and_eq_true, Bool.not_eq_true'] at hk
  obtain ⟨ka, kn, kf⟩ := kw_all (env := X.env) (pos := pos) h2
  have pl := chkC_plain es h3
  have go : ∀ (us ws : List Value) (s2 : Shared), AfterA X pins σ H z xs st' pat.2.2 args.length kws.length us ws s2 →
      X.K.In s2.heap ∧ wpAny (model X.prog X.w) X.A (call (.ref a) us (((backToKw pos (keywordEach kws X.env)).filterMap (·.1)).zip ws)) (EP X pins σ Q) X.xe s2 := fun us ws s2 ⟨H2, z2, vs1, vs2, dv, a1, I2, a3, a4, a5, a6, a7, a8, l1, l2⟩ => by
    refine ⟨I2.kIn, ?_⟩
    rw [kf]
    obtain ⟨ds, rd, bd⟩ := binds pat hp dv a7
    have lk : pat.2.1.length = kws.length := by
      have := congrArg List.length h2
      simpa using this
    have r2 := (a5.append a6).append rd
    refine wpAny_call (codeAny_mono (F.run X.A X.stack s2 H2 ⟨us, pat.2.1.zip ws⟩ (us ++ ws ++ ds) (vs1 ++ vs2 ++ dv) Q E0 rm I2.env0 (bd s2 us ws I2.kIn (l1.trans h1.symm) (l2.trans lk.symm)) r2 (q H2 z2 _ a1 a3 a4 a8)) fun r s' hq => ?_)
    cases r with
    | error e => exact hq.elim
    | ok fl =>
      cases fl with
      | ret u => exact I2.after hq
      | next => exact False.elim hq
      | brk => exact False.elim hq
      | cont => exact False.elim hq
  refine wpAny_Call_Name_kw (ld_glob I hgl hm ?_ hk.1)
  cases args with
  | nil =>
    refine PySem.W.callWith_KW0 (h₀ := X.base) I.ok.mod.kin kp ka ?_ (by rw [kn]; rfl)
    exact thn (run_kw (pos := pos) XO es hs h3 I ok er ev) fun ws s2 w => go [] ws s2 w
  | cons e es' =>
    have pl' : plainE e = true ∧ es'.all plainE = true := by simpa using pl
    refine PySem.W.callWith_KW (h₀ := X.base) I.ok.mod.kin kp ka ?_ (by rw [kn, stars_any pl]; rfl) (plain_star pl'.1 _ _)
    exact thn (run_args (pos := pos) XO es hs h3 I ok er ev) fun us s1 w => thn w fun ws s2 w => go us ws s2 w
theorem ft_of {f : Nat} {es : Cs} {x : Str} {args : List Expr} {kws : List Keyword} (h : (match Γ.fns[f]? with
      | some ft => decide (ft.name = x) && ft.at_.isNone && ft.pats.any fun p => decide (p.1 = args.length) && decide (p.2.1.map some = kws.map (·.arg)) && chkC Γ es args kws p.2.2
      | none => false) = true) : ∃ ft pat, (Γ.fns[f]? = some ft ∧ ft.at_ = none) ∧ ft.name = x ∧ pat ∈ ft.pats ∧ pat.1 = args.length ∧ pat.2.1.map some = kws.map (·.arg) ∧ chkC Γ es args kws pat.2.2 = true := by
  split at h
  · rename_i ft hft
    simp only [Bool.and_eq_true, List.any_eq_true] at h
    obtain ⟨⟨h1, h0⟩, p, hp, ⟨h2, h3⟩, h4⟩ := h
    exact ⟨ft, p, ⟨hft, Option.isNone_iff_eq_none.mp h0⟩, of_decide_eq_true h1, hp, of_decide_eq_true h2, of_decide_eq_true h3, h4⟩
  · cases h
theorem snd_call {f : Nat} {es : Cs} {io : List Nat} {fresh : Bool} (hs : AllC (SndC cf) es) : SndC cf (.call f es io fresh) := fun Γ X e XO h => by
  simp only [chkE] at h
  split at h
  · rename_i x p args kws pos
    simp only [Bool.and_eq_true] at h
    obtain ⟨⟨h1, h2⟩, h3⟩ := h
    obtain ⟨ft, pat, g1, g2, g3, g4, g5, g6⟩ := ft_of h3
    refine .plain rfl ((pe_own XO hs h1 h2 g1.1 g1.2 g2 g3 g4 g5 g6).imp fun σ H Q ⟨z, en, d, st', ok, er, ev, q⟩ => ?_)
    simp only [evE] at ev
    obtain ⟨xs, s1, e1, ev⟩ := bind_ok ev
    refine ⟨z, en, xs, s1, ok, er, e1, fun H' z' vs hs' ok' t dv => ?_⟩
    subst hs'
    exact callIn_ok ok' dv ev (q.trans t)
  · cases h
theorem snd_callS {f : Nat} {es : Cs} (hs : AllC (SndC cf) es) : SndC cf (.callS f es) := fun Γ X e XO h => by
  simp only [chkE] at h
  split at h
  · rename_i x p args kws pos
    simp only [Bool.and_eq_true] at h
    obtain ⟨⟨h1, h2⟩, h3⟩ := h
    obtain ⟨ft, pat, g1, g2, g3, g4, g5, g6⟩ := ft_of h3
    refine .plain rfl ((pe_own XO hs h1 h2 g1.1 g1.2 g2 g3 g4 g5 g6).imp fun σ H Q ⟨z, en, d, st', ok, er, ev, q⟩ => ?_)
    simp only [evE] at ev
    obtain ⟨xs, s1, e1, ev⟩ := bind_ok ev
    refine ⟨z, en, xs, s1, ok, er, e1, fun H' z' vs hs' ok' t dv => ?_⟩
    subst hs'
    exact ⟨z', xs, d, st', ok', dv, ev, q.trans t⟩
  · cases h
end
end PyE

namespace PyE
open PySem PySem.Spec PyProof.Rows L2
section
variable {X : Cx} {cf : CallF} {Γ : Ct}
theorem gl_of (XO : XOk Γ cf X) {x : Str} (h : gloB Γ.sc x = true) : Gl X x := by
  show X.env.scope.names.lookup x = _
  rw [XO.sc]; exact of_decide_eq_true h
theorem okD (s : Str) (h : (s == ("__debug__" : Str)) = false := by decide) : (s == ("__debug__" : Str)) = false := h
/-- a built-in call by values -/
theorem pe_biB {f : Bi} {es : Cs} {x : Str} {args : List Expr} {p pos : Pos} {id : String} {fr : Bool} {bd : List D → Store → R D} (XO : XOk Γ cf X) (hs : AllC (SndC cf) es) (hg : gloB Γ.sc x = true) (hb : x ∈ bltNames) (hv : bootBuiltins x = some (.builtin id)) (hn : x ≠ "__name__") (hd : (x == ("__debug__" : Str)) = false)
    (h : chkEs Γ es args = true) (h0 : 0 < args.length) (hc : CallR X (.builtin id) (rDL X.K fr bd)) (he : ∀ en st, evE cf (.bi f es) en st = (evEs cf es en st).bind fun xs s1 => bd xs s1) : PE X (.Call (.Name x p) args [] pos) (tE X.K fr cf (.bi f es)) := by
  have pl := chkEs_plain h
  cases args with
  | nil => simp at h0
  | cons e es' =>
    have pl' : plainE e = true ∧ es'.all plainE = true := by simpa using pl
    refine (pe_callB hc (gl_of XO hg) (XO.bi x hb) hv (pa_of XO hs h) hn hd (plain_star pl'.1 _ _) (stars_any pl'.2)).imp fun σ H Q ⟨z, en, d, st', ok, er, ev, q⟩ => ?_
    rw [he] at ev
    obtain ⟨xs, s1, e1, ev⟩ := bind_ok ev
    refine ⟨z, en, xs, s1, ok, er, e1, fun H' z' vs hs' ok' t dv => ?_⟩
    subst hs'
    exact ⟨z', xs, d, st', ok', dv, ev, q.trans t⟩
theorem pe_biT {f : Bi} {es : Cs} {x : Str} {args : List Expr} {p pos : Pos} {id : String} {fr : Bool} {bd : List D → Store → R D} (XO : XOk Γ cf X) (hs : AllC (SndC cf) es) (hg : gloB Γ.sc x = true) (hb : x ∈ bltNames) (hv : bootBuiltins x = some (.type id)) (hn : x ≠ "__name__") (hd : (x == ("__debug__" : Str)) = false)
    (h : chkEs Γ es args = true) (h0 : 0 < args.length) (hc : CallR X (.type id) (rDL X.K fr bd)) (he : ∀ en st, evE cf (.bi f es) en st = (evEs cf es en st).bind fun xs s1 => bd xs s1) : PE X (.Call (.Name x p) args [] pos) (tE X.K fr cf (.bi f es)) := by
  have pl := chkEs_plain h
  cases args with
  | nil => simp at h0
  | cons e es' =>
    have pl' : plainE e = true ∧ es'.all plainE = true := by simpa using pl
    refine (pe_callTy hc (gl_of XO hg) (XO.bi x hb) hv (pa_of XO hs h) hn hd (plain_star pl'.1 _ _) (stars_any pl'.2)).imp fun σ H Q ⟨z, en, d, st', ok, er, ev, q⟩ => ?_
    rw [he] at ev
    obtain ⟨xs, s1, e1, ev⟩ := bind_ok ev
    refine ⟨z, en, xs, s1, ok, er, e1, fun H' z' vs hs' ok' t dv => ?_⟩
    subst hs'
    exact ⟨z', xs, d, st', ok', dv, ev, q.trans t⟩
theorem bi_ev {f : Bi} {es : Cs} {bd : List D → Store → R D} (h : ∀ xs st, biD f xs st = bd xs st) : ∀ en st, evE cf (.bi f es) en st = (evEs cf es en st).bind fun xs s1 => bd xs s1 := fun en st => by
  simp only [evE]
  congr 1
  funext xs s1
  exact h xs s1
/-- the one that is not a plain call -/
def SortedSetOk (cf : CallF) : Prop := ∀ (Γ : Ct) (X : Cx) (es : Cs) (x y : Str) (as : List Expr) (p p2 q pos : Pos), XOk Γ cf X → AllC (SndC cf) es → gloB Γ.sc x = true → x = ("sorted" : Str) → gloB Γ.sc y = true → y = ("set" : Str) → as.length = 1 → chkEs Γ es as = true →
  PE X (.Call (.Name x p) [.Call (.Name y p2) as [] q] [] pos) (tE X.K false cf (.bi .sortedSet es))
theorem snd_bi {f : Bi} {es : Cs} (hS : SortedSetOk cf) (hs : AllC (SndC cf) es) : SndC cf (.bi f es) := fun Γ X e XO h => by
  simp only [chkE] at h
  split at h
  · rename_i x p args pos
    simp only [Bool.and_eq_true] at h
    obtain ⟨⟨hg, hx⟩, h⟩ := h
    have hx := of_decide_eq_true hx
    have one : ∀ {n : Nat}, (decide (args.length = n) && chkEs Γ es args) = true → args.length = n ∧ chkEs Γ es args = true := fun {n} q => by
      simp only [Bool.and_eq_true] at q
      exact ⟨of_decide_eq_true q.1, q.2⟩
    cases f with
    | len => obtain ⟨h1, h2⟩ := one h; subst hx; exact .plain rfl (pe_biB XO hs hg (by decide) boot_len (by decide) (by decide) h2 (by omega) bi_len (bi_ev fun _ _ => rfl))
    | abs => obtain ⟨h1, h2⟩ := one h; subst hx; exact .plain rfl (pe_biB XO hs hg (by decide) boot_abs (by decide) (by decide) h2 (by omega) bi_abs (bi_ev fun _ _ => rfl))
    | int => obtain ⟨h1, h2⟩ := one h; subst hx; exact .plain rfl (pe_biT XO hs hg (by decide) boot_int (by decide) (by decide) h2 (by omega) bi_int (bi_ev fun _ _ => rfl))
    | max2 => obtain ⟨h1, h2⟩ := one h; subst hx; exact .plain rfl (pe_biB XO hs hg (by decide) boot_max (by decide) (by decide) h2 (by omega) (bi_max2 XO.calm) (bi_ev fun _ _ => rfl))
    | min2 => obtain ⟨h1, h2⟩ := one h; subst hx; exact .plain rfl (pe_biB XO hs hg (by decide) boot_min (by decide) (by decide) h2 (by omega) (bi_min2 XO.calm) (bi_ev fun _ _ => rfl))
    | max1 => obtain ⟨h1, h2⟩ := one h; subst hx; exact .plain rfl (pe_biB XO hs hg (by decide) boot_max (by decide) (by decide) h2 (by omega) (bi_max1 XO.calm) (bi_ev fun _ _ => rfl))
    | min1 => obtain ⟨h1, h2⟩ := one h; subst hx; exact .plain rfl (pe_biB XO hs hg (by decide) boot_min (by decide) (by decide) h2 (by omega) (bi_min1 XO.calm) (bi_ev fun _ _ => rfl))
    | sum => obtain ⟨h1, h2⟩ := one h; subst hx; exact .plain rfl (pe_biB XO hs hg (by decide) boot_sum (by decide) (by decide) h2 (by omega) (bi_sum XO.calm) (bi_ev fun _ _ => rfl))
    | all => obtain ⟨h1, h2⟩ := one h; subst hx; exact .plain rfl (pe_biB XO hs hg (by decide) boot_all (by decide) (by decide) h2 (by omega) (bi_all XO.calm) (bi_ev fun _ _ => rfl))
    | any => obtain ⟨h1, h2⟩ := one h; subst hx; exact .plain rfl (pe_biB XO hs hg (by decide) boot_any (by decide) (by decide) h2 (by omega) (bi_any XO.calm) (bi_ev fun _ _ => rfl))
    | tuple => obtain ⟨h1, h2⟩ := one h; subst hx; exact .plain rfl (pe_biT XO hs hg (by decide) boot_tuple (by decide) (by decide) h2 (by omega) bi_tuple (bi_ev fun _ _ => rfl))
    | list => obtain ⟨h1, h2⟩ := one h; subst hx; exact .plain rfl (pe_biT XO hs hg (by decide) boot_list (by decide) (by decide) h2 (by omega) bi_list (bi_ev fun _ _ => rfl))
    | sorted => obtain ⟨h1, h2⟩ := one h; subst hx; exact .plain rfl (pe_biB XO hs hg (by decide) boot_sorted (by decide) (by decide) h2 (by omega) bi_sorted (bi_ev fun _ _ => rfl))
    | str => obtain ⟨h1, h2⟩ := one h; subst hx; exact .plain rfl (pe_biT XO hs hg (by decide) boot_str (by decide) (by decide) h2 (by omega) bi_str (bi_ev fun _ _ => rfl))
    | sortedSet =>
      clear one
      dsimp only at h
      split at h
      · rename_i y p2 as q
        simp only [Bool.and_eq_true] at h
        obtain ⟨⟨⟨h1, h2⟩, h3⟩, h4⟩ := h
        exact .plain rfl (hS Γ X es x y as p p2 q pos XO hs hg hx h1 (of_decide_eq_true h2) (of_decide_eq_true h3) h4)
      · cases h
  · cases h
theorem pe_mtG {m : Mt} {o : C} {es : Cs} {ob : Expr} {args : List Expr} {apos cpos : Pos} {name : Str} {id : String} {bd : D → List D → Store → R D} (XO : XOk Γ cf X) (ho : SndC cf o) (hs : AllC (SndC cf) es) {T : String} (pat : PlainAttrs T) (hT : ∀ (H : Hp) (z : Z) (dx : D) (v : V), Ok X.K H z → DVz X.K z dx v → mtTy m (view z.st dx) = true → tyV X.K T v H) (hm : MtR X id (rDM X.K bd)) (slot : Slot T name id)
    (hty : typeOf (.builtin id) = pure (.type "method_descriptor")) (hmo : methO ob = true) (hl : (apos.endLine == cpos.line) = true) (h30 : args.length < 30) (h1 : chkE Γ o ob = true) (h2 : chkEs Γ es args = true)
    (he : ∀ x xs st, mtD m x xs st = bd x xs st) : PE X (.Call (.Attribute ob name apos) args [] cpos) (tE X.K false cf (.mt m o es)) := by
  have pl := chkEs_plain h2
  have run : ∀ {σ : L2.St} {H : Hp} {Q : VK}, tE X.K false cf (.mt m o es) σ H Q → tBM X.K T (rDM X.K bd) (tE X.K false cf o) (tEs X.K cf es) σ H Q := fun {σ H Q} ⟨z, en, d, st', ok, er, ev, q⟩ => by
    simp only [evE] at ev
    obtain ⟨x, s1, e1, ev⟩ := bind_ok ev
    obtain ⟨g, ev⟩ := guard_ok ev
    obtain ⟨xs, s2, e2, ev⟩ := bind_ok ev
    rw [he] at ev
    refine ⟨z, en, x, s1, ok, er, e1, fun H1 z1 v1 hs1 ok1 t1 dv1 _ => ?_⟩
    subst hs1
    refine ⟨hT _ _ _ _ ok1 dv1 g, z1, en, xs, s2, ok1, ok.env t1 er, e2, fun H2 z2 ws hs2 ok2 t2 dv2 => ?_⟩
    subst hs2
    exact ⟨z2, x, xs, d, st', ok2, ok1.dv t2 dv1, dv2, ev, q.trans (t1.trans t2)⟩
  cases args with
  | nil =>
    refine (pe_bm0 pat slot hty hm (ho Γ X ob XO h1).pe0 (meth_base hmo _) hl).imp fun σ H Q q => ?_
    obtain ⟨z, en, d, st', ok, er, ev, q⟩ := q
    simp only [evE] at ev
    obtain ⟨x, s1, e1, ev⟩ := bind_ok ev
    obtain ⟨g, ev⟩ := guard_ok ev
    obtain ⟨xs, s2, e2, ev⟩ := bind_ok ev
    rw [he] at ev
    cases es with
    | cons _ _ => simp [chkEs] at h2
    | nil =>
      simp only [evEs] at e2
      cases e2
      refine ⟨z, en, x, _, ok, er, e1, fun H1 z1 v1 hs1 ok1 t1 dv1 _ => ?_⟩
      subst hs1
      exact ⟨hT _ _ _ _ ok1 dv1 g, z1, x, [], d, st', ok1, dv1, .nil, ev, q.trans t1⟩
  | cons e es' =>
    have pl' : plainE e = true ∧ es'.all plainE = true := by simpa using pl
    have few : ((backTo cpos (starEach (e :: es') X.env)).all (fun x => !x.1) && (backToKw cpos (keywordEach [] X.env)).all (fun x => x.1.isSome)
      && decide ((e :: es').length + ([] : List Keyword).length + (if ([] : List Keyword).isEmpty then 0 else 1) < 30)) = true := by
      rw [stars_all pl]
      show (true && true && decide ((e :: es').length + 0 + 0 < 30)) = true
      simpa using h30
    exact (pe_bm pat slot hty hm (ho Γ X ob XO h1).pe0 (pa_of XO hs h2) (meth_base hmo _) few hl (plain_star pl'.1 _ _) (stars_any pl'.2)).imp fun σ H Q q => run q
theorem ty_lst {m : Mt} (hk : m ≠ .get ∧ m ≠ .setdefault ∧ m ≠ .join ∧ m ≠ .tindex ∧ m ≠ .sindex) (H : Hp) (z : Z) (dx : D) (v : V) (ok : Ok X.K H z) (dv : DVz X.K z dx v) (g : mtTy m (view z.st dx) = true) : tyV X.K "list" v H := by
  obtain ⟨a, vs, rfl, hr⟩ := mtTy_lst hk ok dv g
  exact .inl ⟨rfl, vs, .inl hr⟩
theorem ty_dct (H : Hp) (z : Z) (dx : D) (v : V) (ok : Ok X.K H z) (dv : DVz X.K z dx v) (g : mtTy .get (view z.st dx) = true) : tyV X.K "dict" v H := by
  obtain ⟨a, kvs, rfl, hr⟩ := mtTy_dct ok dv g
  exact .inr (.inr (.inl ⟨rfl, .inl ⟨kvs, hr⟩⟩))
theorem ty_str {m : Mt} (hm : m = .join ∨ m = .sindex) (H : Hp) (z : Z) (dx : D) (v : V) (ok : Ok X.K H z) (dv : DVz X.K z dx v) (g : mtTy m (view z.st dx) = true) : tyV X.K "str" v H := by
  cases e : view z.st dx with
  | str t =>
    obtain ⟨rfl, rfl⟩ := view_str ok dv e
    rfl
  | _ => rw [e] at g; rcases hm with rfl | rfl <;> cases g
/-- the index in a tuple of the module's own -/
theorem pe_tidx {d : D} {es : Cs} {ob : Expr} {args : List Expr} {apos cpos : Pos} (XO : XOk Γ cf X) (hs : AllC (SndC cf) es) (hx : tixOk .tindex (.lit d) ob = true) (hl : (apos.endLine == cpos.line) = true) (h30 : args.length < 30) (h5 : args.isEmpty = false) (h1 : chkE Γ (.lit d) ob = true) (h2 : chkEs Γ es args = true) :
    PE X (.Call (.Attribute ob "index" apos) args [] cpos) (tE X.K false cf (.mt .tindex (.lit d) es)) := by
  have pl := chkEs_plain h2
  cases d <;> first | (cases h1; done) | (simp [tixOk] at hx; done) | skip
  cases ob <;> first | (cases hx; done) | skip
  rename_i xs x pos
  simp only [chkE, Bool.and_eq_true, List.any_eq_true] at h1
  obtain ⟨⟨hg, hk⟩, p, hp, h3, h4⟩ := h1
  have h3 := of_decide_eq_true h3
  subst h3
  have h4 := beq_eq h4
  obtain ⟨u, v, hm, r, tc, hv⟩ := XO.glb p hp
  rw [h4] at tc hv
  obtain ⟨a, o, rfl, k1, k2, k3⟩ := tc
  have hgl : Gl X p.1 := by
    show X.env.scope.names.lookup p.1 = _
    rw [XO.sc]; exact of_decide_eq_true hg
  simp only [okN, Bool.and_eq_true, Bool.not_eq_true'] at hk
  cases args with
  | nil => cases h5
  | cons e es' =>
    have pl' : plainE e = true ∧ es'.all plainE = true := by simpa using pl
    have few := few_of (env := X.env) (pos := cpos) pl h30
    refine (pe_bm PySem.F.plainAttrs_tuple PySem.F.slot_tuple_index PySem.F.type_tuple_index m_tidx (pe_glob hgl hm r hk.1) (pa_of XO hs h2) rfl few hl (plain_star pl'.1 _ _) (stars_any pl'.2)).imp fun σ H Q ⟨z, en, d, st', ok, er, ev, q⟩ => ?_
    simp only [evE] at ev
    obtain ⟨x1, s1, e1, ev⟩ := bind_ok ev
    cases e1
    obtain ⟨g, ev⟩ := guard_ok ev
    obtain ⟨xs', s2, e2, ev⟩ := bind_ok ev
    refine ⟨.inr (.inl ⟨rfl, o, k1, k2, k3⟩), z, en, xs', s2, ok, er, e2, fun H2 z2 ws hs2 ok2 t2 dv2 => ?_⟩
    subst hs2
    exact ⟨z2, .tup xs, xs', d, st', ok2, hv H2 z2 ok2, dv2, ev, q.trans t2⟩
theorem ev_mtBad {m : Mt} {o : C} {es : Cs} (h : ∀ x xs st, mtD m x xs st = .bad) {en : En} {st st' : Store} {d : D} : evE cf (.mt m o es) en st ≠ .ok d st' := fun ev => by
  simp only [evE] at ev
  obtain ⟨x, s1, e1, ev⟩ := bind_ok ev
  obtain ⟨g, ev⟩ := guard_ok ev
  obtain ⟨xs, s2, e2, ev⟩ := bind_ok ev
  rw [h] at ev
  cases ev
theorem snd_mt {m : Mt} {o : C} {es : Cs} (ho : SndC cf o) (hs : AllC (SndC cf) es) : SndC cf (.mt m o es) := fun Γ X e XO h => by
  simp only [chkE] at h
  split at h
  · rename_i ob nm apos args cpos
    simp only [Bool.and_eq_true] at h
    obtain ⟨⟨⟨⟨⟨⟨⟨h1, hx⟩, h2⟩, h3⟩, h4⟩, h5⟩, h6⟩, h7⟩ := h
    have h1 := of_decide_eq_true h1
    have h4 := of_decide_eq_true h4
    subst h1
    have bad : (∀ x xs st, mtD m x xs st = .bad) → PE X (.Call (.Attribute ob (mtN m) apos) args [] cpos) (tE X.K false cf (.mt m o es)) := fun hb => ⟨fun pins s σ H Q I ⟨z, en, d, st', ok, er, ev, q⟩ => (ev_mtBad hb ev).elim⟩
    refine .plain rfl ?_
    cases m with
    | append => exact pe_mtG XO ho hs PySem.F.plainAttrs_list (ty_lst (by decide)) m_append PySem.F.slot_list_append PySem.F.type_list_append h2 h3 h4 h6 h7 fun _ _ _ => rfl
    | extend => exact pe_mtG XO ho hs PySem.F.plainAttrs_list (ty_lst (by decide)) m_extend PySem.F.slot_list_extend PySem.F.type_list_extend h2 h3 h4 h6 h7 fun _ _ _ => rfl
    | insert => exact pe_mtG XO ho hs PySem.F.plainAttrs_list (ty_lst (by decide)) m_insert PySem.F.slot_list_insert PySem.F.type_list_insert h2 h3 h4 h6 h7 fun _ _ _ => rfl
    | pop => exact pe_mtG XO ho hs PySem.F.plainAttrs_list (ty_lst (by decide)) m_pop PySem.F.slot_list_pop PySem.F.type_list_pop h2 h3 h4 h6 h7 fun _ _ _ => rfl
    | popAt => exact pe_mtG XO ho hs PySem.F.plainAttrs_list (ty_lst (by decide)) m_popAt PySem.F.slot_list_pop PySem.F.type_list_pop h2 h3 h4 h6 h7 fun _ _ _ => rfl
    | index => exact pe_mtG XO ho hs PySem.F.plainAttrs_list (ty_lst (by decide)) m_index PySem.F.slot_list_index PySem.F.type_list_index h2 h3 h4 h6 h7 fun _ _ _ => rfl
    | get => exact pe_mtG XO ho hs PySem.F.plainAttrs_dict ty_dct (m_get XO.un) PySem.F.slot_dict_get PySem.F.type_dict_get h2 h3 h4 h6 h7 fun _ _ _ => rfl
    | setdefault => exact bad fun _ _ _ => rfl
    | join => exact pe_mtG XO ho hs PySem.F.plainAttrs_str (ty_str (.inl rfl)) m_join PySem.F.slot_str_join PySem.F.type_str_join h2 h3 h4 h6 h7 fun _ _ _ => rfl
    | sindex => exact pe_mtG XO ho hs PySem.F.plainAttrs_str (ty_str (.inr rfl)) m_sidx PySem.F.slot_str_index PySem.F.type_str_index h2 h3 h4 h6 h7 fun _ _ _ => rfl
    | tindex =>
      cases o <;> first | (simp [tixOk] at hx; done) | skip
      exact pe_tidx XO hs hx h3 h4 (by simpa using of_decide_eq_true h5) h6 h7
  · cases h
theorem boot_ty (t : Ty) : bootBuiltins (Str.ofString (tyT t)) = some (.type (tyT t)) ∧ Str.ofString (tyT t) ∈ bltNames ∧ Str.ofString (tyT t) ≠ "__name__" ∧ ((Str.ofString (tyT t)) == ("__debug__" : Str)) = false := by
  cases t
  · exact ⟨boot_int, by decide, by decide, by decide⟩
  · exact ⟨boot_bool, by decide, by decide, by decide⟩
  · exact ⟨boot_str, by decide, by decide, by decide⟩
  · exact ⟨boot_tuple, by decide, by decide, by decide⟩
  · exact ⟨boot_list, by decide, by decide, by decide⟩
theorem pe_tyN (XO : XOk Γ cf X) {e : Expr} {t : Ty} (h : tyName e t = true) (hg : gloB Γ.sc (Str.ofString (tyT t)) = true) : PE X e (tC (.ty (tyT t))) ∧ plainE e = true := by
  cases e <;> first | (cases h; done) | skip
  have h := of_decide_eq_true h
  subst h
  obtain ⟨b1, b2, b3, b4⟩ := boot_ty t
  exact ⟨pe_bltn (gl_of XO hg) (XO.bi _ b2) b1 rfl b3 b4, rfl⟩
def tTys (ts : List Ty) : TA := fun _ H Q => Q (ts.map fun t => V.ty (tyT t)) H
theorem pa_tys (XO : XOk Γ cf X) : ∀ {es : List Expr} {ts : List Ty}, tysNames es ts = true → glTys Γ.sc ts = true → PA X es (tTys ts)
  | [], [], _, _ => pa_nil.imp fun σ H Q q => q
  | e :: es, t :: ts, h, g => by
    simp only [tysNames, Bool.and_eq_true] at h
    have g' : gloB Γ.sc (Str.ofString (tyT t)) = true ∧ glTys Γ.sc ts = true := by simpa [glTys] using g
    obtain ⟨p1, p2⟩ := pe_tyN XO h.1 g'.1
    exact (pa_cons p1 (pa_tys XO h.2 g'.2) (plain_star p2 _ _)).imp fun σ H Q q => q
  | [], _ :: _, h, _ => by simp [tysNames] at h
  | _ :: _, [], h, _ => by simp [tysNames] at h
theorem cls_all : ∀ ts : List Ty, Paired ClsV (ts.map fun t => V.ty (tyT t)) (ts.map fun t => Value.type (tyT t))
  | [] => .nil
  | t :: ts => .cons (.ty _) (cls_all ts)
theorem snd_isi {a : C} {ts : List Ty} (ha : SndC cf a) : SndC cf (.isi a ts) := fun Γ X e XO h => by
  simp only [chkE] at h
  split at h
  · rename_i x p e1 e2 pos
    simp only [Bool.and_eq_true] at h
    obtain ⟨⟨⟨h1, h2⟩, h3⟩, h4⟩ := h
    have h2 := of_decide_eq_true h2
    subst h2
    have s := (ha Γ X e1 XO h3).pe0
    have p1 := plain_star (chk_plain _ _ h3)
    simp only [tysIs, Bool.and_eq_true] at h4
    obtain ⟨⟨hgl, hn8⟩, h4⟩ := h4
    replace hn8 := of_decide_eq_true hn8
    refine .plain rfl ?_
    split at h4
    · -- a tuple of classes
      rename_i es k tp
      have pt := pe_tup (x1 := k) (pos := tp) (pa_tys XO h4 hgl)
      have pa : PA X [e1, .Tuple es k tp] _ := pa_cons s (pa_cons pt pa_nil (plain_star rfl _ _)) (p1 _ _)
      refine (pe_callB call_isiT (gl_of XO h1) (XO.bi _ (by decide)) boot_isinstance pa (by decide) (by decide) (p1 _ _) (stars_any rfl)).imp fun σ H Q ⟨z, en, d, st', ok, er, ev, q⟩ => ?_
      simp only [evE] at ev
      obtain ⟨x, s1, e3, ev⟩ := bind_ok ev
      obtain ⟨g, ev⟩ := guard_ok ev
      cases ev
      refine ⟨z, en, x, _, ok, er, e3, fun H1 z1 v1 hs1 ok1 t1 dv1 _ => ?_⟩
      subst hs1
      refine ⟨?_, fun p hp => ?_⟩
      · rw [List.length_map, sizeLine_eq]; omega
      · have ok2 : Ok X.K (upd H1 p (.tup (ts.map fun t => V.ty (tyT t)))) (z1.put p (.tup (ts.map fun t => V.ty (tyT t)))) := ok1.put hp
        have t2 := To.put (o := .tup (ts.map fun t => V.ty (tyT t))) ok1 hp
        refine ⟨v1, p, _, _, _, _, rfl, upd_same, cls_all ts, tyx_of ok2 (ok1.dv t2 dv1) g, kits _ ts X.K g, ?_⟩
        exact (q.trans (t1.trans t2)).same ok2 (.bl _)
    · rename_i hne
      split at h4
      · rename_i t
        have hg' : gloB Γ.sc (Str.ofString (tyT t)) = true := by simpa [glTys] using hgl
        obtain ⟨pt, pp⟩ := pe_tyN XO h4 hg'
        have pa : PA X [e1, e2] _ := pa_cons s (pa_cons pt pa_nil (plain_star pp _ _)) (p1 _ _)
        refine (pe_callB call_isi (gl_of XO h1) (XO.bi _ (by decide)) boot_isinstance pa (by decide) (by decide) (p1 _ _) (stars_any (by simpa using pp))).imp fun σ H Q ⟨z, en, d, st', ok, er, ev, q⟩ => ?_
        simp only [evE] at ev
        obtain ⟨x, s1, e3, ev⟩ := bind_ok ev
        obtain ⟨g, ev⟩ := guard_ok ev
        cases ev
        refine ⟨z, en, x, _, ok, er, e3, fun H1 z1 v1 hs1 ok1 t1 dv1 _ => ?_⟩
        subst hs1
        refine ⟨v1, _, _, _, _, rfl, .ty _, tyx_of ok1 dv1 g, kit_ty (kit_all _ t g), ?_⟩
        have e : ([t].any (isTy (view z1.st x))) = isTy (view z1.st x) t := by simp
        rw [e] at q
        exact (q.trans t1).same ok1 (.bl _)
      · cases h4
  · cases h
end
end PyE

namespace PyE
open PySem PySem.Spec PyProof.Rows L2
section
variable {P : Program} {w : World} {A : Around} {E : Value → Shared → Prop} {s : Shared}
set_option maxHeartbeats 3200000 in
theorem call_set_lstI {l : Addr} {items : Array Value} (ns : List Int) {Q : Value → Shared → Prop} (hh : A.handled = none) (hl : s.heap.IsList l items) (hit : IntsAre items.toList ns) (hb : ns.length + 1 < scanBound)
    (h : ∀ (h' : Heap) (tk c : Nat), SetR w h' s.heap.objs.size (fun j => decide (j ∈ ns)) c → c ≤ ns.length → (∀ b o, s.heap.get? b = some o → h'.get? b = some o) → Q (.ref s.heap.objs.size) { s with heap := h', toks := tk }) :
    wpAny (model P w) A (call (.type "set") [.ref l]) Q E s := by
  have hisz : items.size = ns.length := by
    have q := IntsAre.length hit
    rw [Array.length_toList] at q
    exact q
  obtain ⟨c, tl, hmro⟩ := F.called_set.mro
  have hmade := F.called_set.made
  have hsub := F.called_set.sub
  refine wpAny_call (codeAny_of_tree ?_)
  show wpAny _ _ (callAny (.type "set") _) _ _ _
  refine wpAny_pure ⟨Code.quiet_builtin _ (by decide +kernel), codeAny_builtin F.entry_type_call ?_⟩
  rw [Around.under_plain (weight_type_call_type "set" [.ref l] []) rfl]
  have h1 := F.called_set.notType
  have h2 := F.called_set.canCreate
  have hct := F.typeCall_set_1 (.ref l)
  repeat (any_goals (first | assumption | wp_step))

  refine codeAny_mono (code_set_led1 (.ref l) (E := E) (Q₁ := fun obj s₁ => obj = .ref s.heap.objs.size ∧ s₁ = { s with heap := s.heap.push { cls := .type "set", dict := none, data := .set #[] 0 (.fresh 0 0 (!w.params.followText "set-order")) } }) ⟨rfl, rfl⟩) fun r s₁ hr => ?_
  cases r with
  | error e => exact hr
  | ok fl =>
    cases fl with
    | ret obj =>
      obtain ⟨rfl, rfl⟩ := hr
      have hS : (s.heap.push { cls := .type "set", dict := none, data := .set #[] 0 (.fresh 0 0 (!w.params.followText "set-order")) }).get? s.heap.objs.size = some { cls := .type "set", dict := none, data := .set #[] 0 (.fresh 0 0 (!w.params.followText "set-order")) } := Heap.get?_push_size _ rfl
      have hT : Shared.TypeIs { s with heap := s.heap.push { cls := .type "set", dict := none, data := .set #[] 0 (.fresh 0 0 (!w.params.followText "set-order")) } } (.ref s.heap.objs.size) "set" := ⟨_, hS, rfl⟩
      have hli := F.called_set.init.lookup
      have hbi := F.called_set.init.bind (.ref s.heap.objs.size)
      repeat (any_goals (first | assumption | wp_step))

      refine codeAny_mono (codeAny_call_builtin (R := wants (fun r s₂ => r = .none ∧ ∃ h' tk c, s₂ = { s with heap := h', toks := tk } ∧ SetR w h' s.heap.objs.size (fun j => decide (j ∈ ns)) c ∧ c ≤ ns.length ∧
          (∀ b o, s.heap.get? b = some o → h'.get? b = some o)) E) F.called_set.init.plain F.entry_set_init (check_set_init_1 hT ?_)) fun r₂ s₂ hr₂ => ?_
      · obtain ⟨ol, hol, hcl, nl, hdl⟩ := hl
        obtain ⟨ocls, odict, odata, oslots⟩ := ol
        simp only at hcl hdl
        subst hcl; subst hdl
        have hol' : (s.heap.push { cls := .type "set", dict := none, data := .set #[] 0 (.fresh 0 0 (!w.params.followText "set-order")) }).get? l = some { cls := .type "list", dict := odict, data := .seq items nl, slots := oslots } := Heap.get?_push_of_some _ hol
        have hsls := F.sub_list_set
        have hslf := F.sub_list_frozenset
        have hne : (Value.type "list" == Value.type "dict") = false := by decide
        have hl1 : (s.heap.push { cls := .type "set", dict := none, data := .set #[] 0 (.fresh 0 0 (!w.params.followText "set-order")) }).IsList l items := ⟨_, hol', rfl, nl, rfl⟩
        unfold Builtin.«set.__init__» noKeywords Builtin.Frozenset.updateFrom
        generalize hPI : pyIter = PI
        wp_walk
        subst hPI

        refine wpAny_pyIter_list hl1 ?_
        refine wpAny_bind (wpAny_runValue ?_)
        have hlS : l < s.heap.objs.size := Heap.lt_size hol
        have hh3 : A.in1.in1.in1.handled = none := by simp [hh]
        have hz1 : (s.heap.push { cls := .type "set", dict := none, data := .set #[] 0 (.fresh 0 0 (!w.params.followText "set-order")) }).objs.size = s.heap.objs.size + 1 := Heap.size_push ..
        have hneI : l ≠ (s.heap.push { cls := .type "set", dict := none, data := .set #[] 0 (.fresh 0 0 (!w.params.followText "set-order")) }).objs.size := by
          rw [Heap.size_push]; exact Nat.ne_of_lt (Nat.lt_succ_of_lt hlS)
        have hSf : s.heap.objs.size ∉ [(s.heap.push { cls := .type "set", dict := none, data := .set #[] 0 (.fresh 0 0 (!w.params.followText "set-order")) }).objs.size, l] := by
          rw [Heap.size_push]; simp only [List.mem_cons, List.mem_singleton, List.not_mem_nil, or_false, not_or]
          exact ⟨Nat.ne_of_lt (Nat.lt_succ_self _), Nat.ne_of_gt hlS⟩
        have hval : ∀ (i : Nat) (v : Value), items[i]? = some v → ∃ k t, ns[i]? = some k ∧ v = .int k t := fun i v hv => by
          have hi : i < ns.length := by rw [← hisz]; exact (Array.getElem?_eq_some_iff.mp hv).1
          obtain ⟨t, e⟩ := PyProof.Rows.IntsAre.int_at hit i v (by rw [Array.getElem?_toList]; exact hv)
          refine ⟨ns[i], t, List.getElem?_eq_getElem hi, ?_⟩
          rw [e, List.getD_eq_getElem?_getD, List.getElem?_eq_getElem hi] <;> rfl
        refine set_update_ints ((Walks.list hh3 _ l hneI items).toS) s.heap.objs.size
          hSf ns hisz hb hval (items.size - 0) 0 _ (by omega) (Nat.zero_le _)
          ⟨⟨_, Heap.get?_push_size _ rfl, rfl, rfl⟩, (hl1.push _)⟩ ?hS0 ?hR
        case hS0 =>
          have hget : ((s.heap.push { cls := .type "set", dict := none, data := .set #[] 0 (.fresh 0 0 (!w.params.followText "set-order")) }).push { cls := .type "list_iterator", data := .fields #[.ref l, .int 0 0] }).get? s.heap.objs.size
              = some { cls := .type "set", dict := none, data := .set #[] 0 (.fresh 0 0 (!w.params.followText "set-order")) } := Heap.get?_push_of_some _ hS
          exact ⟨0, Nat.le_refl 0, setR_new_at hget⟩
        case hR =>
          intro s' c' hm hc' hS'
          obtain ⟨h', g2, d', tk', os'⟩ := s'
          have eg : g2 = s.gens := hm.gens
          have ed : d' = s.drawn := hm.drawn
          have eo : os' = s.os := hm.os
          subst eg; subst ed; subst eo
          show wpAny _ _ _ _ _ _
          refine wpAny_pure ?_
          show wpAny _ _ (ret Value.none) _ _ _
          rw [hisz] at hc'
          refine wpAny_pure ⟨rfl, h', tk', c', rfl, hS', hc', fun b o e => ?_⟩
          have hb0 : b < s.heap.objs.size := Heap.lt_size e
          have hb1 : b ≠ s.heap.objs.size := Nat.ne_of_lt hb0
          have hb2 : b ≠ (s.heap.push { cls := .type "set", dict := none, data := .set #[] 0 (.fresh 0 0 (!w.params.followText "set-order")) }).objs.size := by
            rw [Heap.size_push]; exact Nat.ne_of_lt (Nat.lt_succ_of_lt hb0)
          exact hm.heap b o (by simp only [List.mem_cons, List.mem_singleton, List.not_mem_nil, or_false, not_or]; exact ⟨hb1, hb2⟩) (Heap.get?_push_of_some _ (Heap.get?_push_of_some _ e))

      · cases r₂ with
        | error e => exact hr₂
        | ok fl₂ =>
          cases fl₂ with
          | ret r =>
            obtain ⟨rfl, h', tk, c', rfl, hS', hc', hk'⟩ := hr₂
            repeat (any_goals (first | assumption | wp_step))
            exact h _ _ _ hS' hc' hk'
          | _ => exact hr₂.elim
    | _ => exact hr.elim

end
end PyE

namespace PyE
open PySem PySem.Spec PyProof.Rows L2
section
variable {X : Cx} {cf : CallF} {Γ : Ct}
theorem mem_dedupI (k : Int) : ∀ l : List Int, k ∈ dedupI l ↔ k ∈ l
  | [] => Iff.rfl
  | x :: r => by
    unfold dedupI
    have ih := mem_dedupI k r
    split
    · rename_i hx
      rw [ih, List.mem_cons]
      exact ⟨.inr, fun h => h.elim (fun e => e ▸ hx) id⟩
    · rw [List.mem_cons, List.mem_cons, ih]
theorem nodup_dedupI : ∀ l : List Int, (dedupI l).Nodup
  | [] => List.nodup_nil
  | x :: r => by
    unfold dedupI
    split
    · exact nodup_dedupI r
    · rename_i hx
      exact List.nodup_cons.mpr ⟨fun h => hx ((mem_dedupI x r).mp h), nodup_dedupI r⟩
def rSetL (w : World) : List V → Hp → VK → Prop := fun vs H Q => ∃ (a : Addr) (ns : List Int), vs = [.ref a] ∧ Rd H a (.lst (ns.map V.int)) ∧ ns.length < 64 ∧ ∀ p c, H p = none → c ≤ ns.length → Q (.ref p) (upd H p (SetO w p (fun j => decide (j ∈ ns)) c))
theorem cr_setL (hc : X.calm = true) : CallR X (.type "set") (rSetL X.w) := by
  intro pins s σ H xs us Q I r h
  obtain ⟨a, ns, rfl, hr, hl, q⟩ := h
  rw [Vals.ref1 r]
  obtain ⟨its, rv, pl, hz⟩ := I.list (.inl hr : SqL X.K H a _)
  have hi : IntsAre its.toArray.toList ns := by simpa using intsAre_of rv
  refine call_set_lstI ns (I.ok.hd hc) pl.isList hi (by unfold scanBound; omega) fun h' tk c R1 hcn k => ?_
  have hn : H s.heap.objs.size = none := I.hok.fresh (Nat.le_refl _)
  exact ⟨.ref _, _, I.laid k (Nat.le_refl _) (setO_new R1), rfl, q _ c hn hcn⟩
theorem sortedSet_ok (cf : CallF) : SortedSetOk cf := fun Γ X es x y as p p2 q pos XO hs hg hx hg2 hy hl h => by
  subst hx
  subst hy
  have pl := chkEs_plain h
  cases as with
  | nil => simp at hl
  | cons e es' =>
    cases es' with
    | cons _ _ => simp at hl
    | nil =>
      have pl' : plainE e = true := by simpa using pl
      have p1 := pe_callTy (p := p2) (pos := q) (cr_setL XO.calm) (gl_of XO hg2) (XO.bi _ (by decide)) boot_set (pa_of XO hs h) (by decide) (by decide) (plain_star pl' _ _) (stars_any rfl)
      have pa := pa_cons p1 pa_nil (plain_star rfl _ _)
      refine (pe_callB (p := p) (pos := pos) (cr_sortedSet XO.calm) (gl_of XO hg) (XO.bi _ (by decide)) boot_sorted pa (by decide) (by decide) (plain_star rfl _ _) (stars_any rfl)).imp fun σ H Q ⟨z, en, d, st', ok, er, ev, qe⟩ => ?_
      simp only [evE] at ev
      obtain ⟨xs, s1, e1, ev⟩ := bind_ok ev
      have ev : bd1 .sortedSet xs s1 = .ok d st' := ev
      unfold bd1 at ev
      split at ev
      · obtain ⟨ev2, hst⟩ := opt_ok ev
        subst hst
        refine ⟨z, en, [_], _, ok, er, e1, fun H1 z1 vs hs1 ok1 t1 dv1 => ?_⟩
        subst hs1
        obtain ⟨v, rfl, dv⟩ := dv1.one
        obtain ⟨a, ns, rfl, hr, hf⟩ := intsB_ok ok1 dv ev2
        split at hf
        · rename_i h64
          cases hf
          refine ⟨a, ns, rfl, hr, h64, fun p0 c hp0 hc => ?_⟩
          refine ⟨p0, _, c, rfl, upd_same, by omega, fun ks p3 hp hm hk hn3 => ?_⟩
          have ek : ks = sortI (dedupI ns) := by
            refine sorted_one ((List.perm_ext_iff_of_nodup (hp.imp fun h => Int.ne_of_lt h) (nodup_dedupI ns)).mpr (fun k => ?_) |>.trans (sortI_perm _).symm) (hp.imp fun h => Int.le_of_lt h) (sortI_sorted _)
            rw [hm k, mem_dedupI, decide_eq_true_eq]
          rw [ek]
          have ok2 : Ok X.K (upd H1 p0 (SetO X.w p0 (fun j => decide (j ∈ ns)) c)) z1 := ok1.at (ok1.none hp0)
          have t2 : To H1 z1 (upd H1 p0 (SetO X.w p0 (fun j => decide (j ∈ ns)) c)) z1 := To.refl.at hp0
          exact (qe.trans (t1.trans t2)).lst ok2 (of_ints _) p3 hn3
        · cases hf
      · cases ev
theorem wipe_set {σ : L2.St} {i : Nat} {o : Option V} : ∀ {vs : List Nat}, i ∈ vs → L2.wipe (σ.set i o) vs = L2.wipe σ vs
  | v :: vs, h => by
    unfold L2.wipe
    by_cases e : i ∈ vs
    · rw [wipe_set e]
    · have hv : i = v := by
        rcases List.mem_cons.mp h with w | w
        · exact w
        · exact absurd w e
      subst hv
      have : ∀ {us : List Nat}, i ∉ us → L2.wipe (σ.set i o) us = (L2.wipe σ us).set i o := by
        intro us
        induction us with
        | nil => intro _; rfl
        | cons u us ih =>
          intro hu
          obtain ⟨h1, h2⟩ : i ≠ u ∧ i ∉ us := by simpa using hu
          unfold L2.wipe
          rw [ih h2, List.set_comm _ _ h1]
      rw [this e, List.set_set]
theorem wipe_env {K : PySem.W.Frag} {z : Z} {en : En} {σ : L2.St} (h : EnvR K z en σ) : ∀ vs : List Nat, EnvR K z (wipe en vs) (L2.wipe σ vs)
  | [] => h
  | v :: vs => by
    have ih := wipe_env h vs
    unfold wipe L2.wipe
    refine ⟨by rw [List.length_set, List.length_set]; exact ih.1, fun j d e => ?_⟩
    by_cases hj : v = j
    · subst hj
      by_cases hl : v < (wipe en vs).length
      · rw [List.getElem?_set_self hl] at e; cases e
      · rw [List.getElem?_eq_none (by rw [List.length_set]; omega)] at e; cases e
    · rw [List.getElem?_set_ne hj] at e ⊢
      exact ih.2 j d e
def SndT (cf : CallF) (t : T) : Prop := ∀ Γ X e, XOk Γ cf X → chkT Γ t e = true → PG X e (gT X.K cf t) ∧ plainE e = true
def SndTs (cf : CallF) (t : Ts) : Prop := ∀ Γ X es, XOk Γ cf X → chkTs Γ t es = true → PGs X es (gTs X.K cf t) ∧ es.all plainE = true ∧ ∀ ds en st en' st', asTs cf t ds en st = .ok en' st' → ds.length = es.length
theorem snd_tname (i : Nat) : SndT cf (.name i) := fun Γ X e XO h => by
  simp only [chkT] at h
  split at h
  · simp only [Bool.and_eq_true] at h
    obtain ⟨h1, h2⟩ := h
    obtain ⟨l1, l2⟩ := XO.loc _ h2
    refine ⟨(pg_name XO.nd (by rw [XO.N]; exact of_decide_eq_true h1) l1 l2).imp fun v σ H Q ⟨z, en, d, en', st', ok, er, dv, ev, q⟩ => ?_, rfl⟩
    simp only [asT] at ev
    cases ev
    exact q H z _ rfl ok .refl (er.set dv i) fun vs hv => wipe_set (hv i (by simp [slotsT]))
  · cases h
theorem sub_ev {x y d : D} {en en' : En} {st st' : Store} (h : (match x with
    | .ref n => (match st[n]? with
      | some (.lst xs) => (match y with
        | .int k => (match L2.ixN xs.length k with
          | some j => R.ok en (st.set n (.lst (xs.set j d)))
          | none => .bad)
        | _ => .bad)
      | some (.dct es) => guardB (isKey y && decide (es.length < line)) (.ok en (st.set n (.dct (dput es y d))))
      | _ => .bad)
    | _ => .bad) = .ok en' st') : en' = en ∧ ∃ n c, subB x y d st = some (n, c) ∧ st' = st.set n c := by
  unfold subB
  split at h
  · split at h
    · split at h
      · split at h
        · cases h
          exact ⟨rfl, _, _, by simp [*], rfl⟩
        · cases h
      · cases h
    · obtain ⟨g, h⟩ := guard_ok h
      cases h
      simp only [Bool.and_eq_true] at g
      have g2 := of_decide_eq_true g.2
      exact ⟨rfl, _, _, by simp [*], rfl⟩
    · cases h
  · cases h
theorem snd_tsub {o i : C} (ho : SndC cf o) (hi : SndC cf i) : SndT cf (.sub o i) := fun Γ X e XO h => by
  simp only [chkT] at h
  split at h
  · simp only [Bool.and_eq_true] at h
    obtain ⟨h1, h2⟩ := h
    refine ⟨(pg_sub (ho Γ X _ XO h1).pe0 (hi Γ X _ XO h2).pe0 (set_ok XO.un) (plain_sub (chk_plain _ _ h2))).imp fun v σ H Q ⟨z, en, d, en', st', ok, er, dv, ev, q⟩ => ?_, rfl⟩
    simp only [asT] at ev
    obtain ⟨x, s1, e1, ev⟩ := bind_ok ev
    obtain ⟨y, s2, e2, ev⟩ := bind_ok ev
    obtain ⟨rfl, n, c, hb, rfl⟩ := sub_ev ev
    refine ⟨z, _, x, s1, ok, er, e1, fun H1 z1 v1 hs1 ok1 t1 dv1 _ => ?_⟩
    subst hs1
    refine ⟨z1, _, y, s2, ok1, ok.env t1 er, e2, fun H2 z2 v2 hs2 ok2 t2 dv2 _ => ?_⟩
    subst hs2
    refine ⟨z2, x, y, d, n, c, ok2, ok1.dv t2 dv1, dv2, ok1.dv t2 (ok.dv t1 dv), hb, fun H3 z3 hs3 ok3 t3 => ?_⟩
    exact q H3 z3 σ hs3 ok3 (t1.trans (t2.trans t3)) (ok.env (t1.trans (t2.trans t3)) er) fun _ _ => rfl
  · cases h
theorem assigns_map {env : Env} : ∀ {xs : List Expr}, xs.all plainE = true → assignEach xs env = xs.map fun e => (false, assign e env)
  | [], _ => rfl
  | e :: es, h => by
    simp only [List.all_cons, Bool.and_eq_true] at h
    rw [plain_assign h.1, assigns_map h.2]; rfl
theorem snd_ttup {ts : Ts} (hs : SndTs cf ts) : SndT cf (.tup ts) := fun Γ X e XO h => by
  simp only [chkT] at h
  split at h
  · rename_i es k pos
    obtain ⟨pg, pl, hlen⟩ := hs Γ X es XO h
    refine ⟨(pg_tup (n := es.length) XO.calm pg (by rw [assigns_map pl, List.length_map]) (by rw [assigns_map pl]; simp [List.findIdx?_map, Function.comp_def])).imp fun v σ H Q ⟨z, en, d, en', st', ok, er, dv, ev, q⟩ => ?_, rfl⟩
    simp only [asT] at ev
    split at ev
    · rename_i xs hx
      obtain ⟨a, vs, rfl, h1, h2⟩ := view_tup ok dv hx
      exact ⟨a, vs, rfl, ok.sqT h1, by rw [← h2.length]; exact hlen _ _ _ _ _ ev, z, en, xs, en', st', ok, er, h2, ev, q⟩
    · cases ev
  · cases h
theorem snd_tsnil : SndTs cf .nil := fun Γ X es XO h => by
  cases es with
  | cons _ _ => simp [chkTs] at h
  | nil =>
    refine ⟨pgs_nil.imp fun vs σ H Q ⟨z, en, ds, en', st', ok, er, dv, ev, q⟩ => ?_, rfl, fun ds en st en' st' ev => ?_⟩
    · simp only [asTs] at ev
      split at ev
      · cases ev
        cases dv
        exact ⟨rfl, q H z σ rfl ok .refl er fun _ _ => rfl⟩
      · cases ev
    · simp only [asTs] at ev
      split at ev
      · rfl
      · cases ev
theorem snd_tscons {t : T} {r : Ts} (ht : SndT cf t) (hr : SndTs cf r) : SndTs cf (.cons t r) := fun Γ X es XO h => by
  cases es with
  | nil => simp [chkTs] at h
  | cons e es =>
    simp only [chkTs, Bool.and_eq_true] at h
    obtain ⟨p1, l1⟩ := ht Γ X e XO h.1
    obtain ⟨p2, l2, n2⟩ := hr Γ X es XO h.2
    refine ⟨(pgs_cons p1 p2 (by rw [plain_assign l1]; rfl)).imp fun vs σ H Q ⟨z, en, ds, en', st', ok, er, dv, ev, q⟩ => ?_, by simp only [List.all_cons, Bool.and_eq_true]; exact ⟨l1, l2⟩, fun ds en st en' st' ev => ?_⟩
    · simp only [asTs] at ev
      split at ev
      · rename_i x xr
        obtain ⟨en1, s1, e1, ev⟩ := bind_ok ev
        cases dv with
        | cons d1 d2 =>
          refine ⟨_, _, rfl, z, en, x, en1, s1, ok, er, d1, e1, fun H1 z1 σ1 hs1 ok1 t1 er1 w1 => ?_⟩
          subst hs1
          refine ⟨z1, en1, xr, en', st', ok1, er1, ok.dvs t1 d2, ev, fun H2 z2 σ2 hs2 ok2 t2 er2 w2 => ?_⟩
          refine q H2 z2 σ2 hs2 ok2 (t1.trans t2) er2 fun vs hv => ?_
          rw [w2 vs fun i hi => hv i (by simp only [slotsTs, List.mem_append]; exact .inr hi), w1 vs fun i hi => hv i (by simp only [slotsTs, List.mem_append]; exact .inl hi)]
      · cases ev
    · simp only [asTs] at ev
      split at ev
      · obtain ⟨en1, s1, e1, ev⟩ := bind_ok ev
        rw [List.length_cons, List.length_cons, n2 _ _ _ _ _ ev]
      · cases ev
def SndI (cf : CallF) (i : I) : Prop := ∀ Γ X tg e, XOk Γ cf X → chkI Γ i tg e = true → PI X tg e (iT X.K cf i) ∧ plainE e = true
theorem snd_ival {c : C} (hc : SndC cf c) : SndI cf (.val c) := fun Γ X tg e XO h => by
  simp only [chkI] at h
  refine ⟨(pi_val (hc Γ X e XO h).pe0).imp fun σ H R ⟨z, en, p, st', ok, er, ev, q⟩ => ?_, chk_plain _ _ h⟩
  simp only [evI] at ev
  obtain ⟨x, s1, e1, ev⟩ := bind_ok ev
  obtain ⟨ev2, hst⟩ := opt_ok ev
  subst hst
  refine ⟨z, en, x, _, ok, er, e1, fun H1 z1 v1 hs1 ok1 t1 dv1 _ => ?_⟩
  subst hs1
  unfold iterOf at ev2
  split at ev2
  · rename_i xs hx
    cases ev2
    obtain ⟨a, rfl, w⟩ := tup_held ok1 dv1 hx
    obtain ⟨b, vs, hab, h1, h2⟩ := view_tup ok1 dv1 hx
    cases hab
    exact .inr (.inl ⟨a, vs, rfl, ok1.sqT h1, q H1 z1 _ rfl ok1 t1 (walk_tupD w)⟩)
  · rename_i xs hx
    cases ev2
    obtain ⟨a, rfl, w⟩ := lst_held ok1 dv1 hx
    obtain ⟨b, vs, hab, h1, h2⟩ := view_lst ok1 dv1 hx
    cases hab
    exact .inl ⟨a, vs, rfl, .inl (ok1.rd h1), q H1 z1 _ rfl ok1 t1 (walk_lstD w)⟩
  · rename_i s hx
    cases ev2
    obtain ⟨rfl, rfl⟩ := view_str ok1 dv1 hx
    exact .inr (.inr ⟨s, rfl, q H1 z1 _ rfl ok1 t1 walk_strD⟩)
  · cases ev2
theorem rgOk_iff {i : Int} (h : rgOk i = true) : -(2 ^ 62) ≤ i ∧ i < 2 ^ 62 := by
  simp only [rgOk, Bool.and_eq_true, decide_eq_true_eq] at h
  omega
theorem snd_irange1 {a : C} (ha : SndC cf a) : SndI cf (.range1 a) := fun Γ X tg e XO h => by
  simp only [chkI] at h
  split at h
  · simp only [Bool.and_eq_true] at h
    obtain ⟨⟨h1, h2⟩, h3⟩ := h
    have h2 := of_decide_eq_true h2
    subst h2
    have p1 := plain_star (chk_plain _ _ h3)
    refine ⟨(pi_range1 (gl_of XO h1) (XO.bi _ (by decide)) (pa_cons (ha Γ X _ XO h3).pe0 pa_nil (p1 _ _)) (p1 _ _)).imp fun σ H R ⟨z, en, p, st', ok, er, ev, q⟩ => ?_, rfl⟩
    simp only [evI] at ev
    obtain ⟨x, s1, e1, ev⟩ := bind_ok ev
    refine ⟨z, en, x, _, ok, er, e1, fun H1 z1 v1 hs1 ok1 t1 dv1 _ => ?_⟩
    subst hs1
    split at ev
    · obtain ⟨g, ev⟩ := guard_ok ev
      cases ev
      cases dv1
      exact ⟨_, rfl, (rgOk_iff g).1, (rgOk_iff g).2, q H1 z1 _ rfl ok1 t1 walk_rangeD⟩
    · cases ev
  · cases h
theorem snd_irange2 {a b : C} (ha : SndC cf a) (hb : SndC cf b) : SndI cf (.range2 a b) := fun Γ X tg e XO h => by
  simp only [chkI] at h
  split at h
  · simp only [Bool.and_eq_true] at h
    obtain ⟨⟨⟨h1, h2⟩, h3⟩, h4⟩ := h
    have h2 := of_decide_eq_true h2
    subst h2
    have p1 := plain_star (chk_plain _ _ h3)
    have p2 := plain_star (chk_plain _ _ h4)
    refine ⟨(pi_range2 (gl_of XO h1) (XO.bi _ (by decide)) (pa_cons (ha Γ X _ XO h3).pe0 (pa_cons (hb Γ X _ XO h4).pe0 pa_nil (p2 _ _)) (p1 _ _)) (by rw [p1, p2]; rfl) (p2 _ _)).imp fun σ H R ⟨z, en, p, st', ok, er, ev, q⟩ => ?_, rfl⟩
    simp only [evI] at ev
    obtain ⟨x, s1, e1, ev⟩ := bind_ok ev
    obtain ⟨y, s2, e2, ev⟩ := bind_ok ev
    refine ⟨z, en, x, _, ok, er, e1, fun H1 z1 v1 hs1 ok1 t1 dv1 _ => ?_⟩
    subst hs1
    refine ⟨z1, en, y, _, ok1, ok.env t1 er, e2, fun H2 z2 v2 hs2 ok2 t2 dv2 _ => ?_⟩
    subst hs2
    have dv1 := ok1.dv t2 dv1
    split at ev
    · obtain ⟨g, ev⟩ := guard_ok ev
      cases ev
      cases dv1
      cases dv2
      simp only [Bool.and_eq_true] at g
      exact ⟨_, _, rfl, ⟨(rgOk_iff g.1).1, (rgOk_iff g.1).2, (rgOk_iff g.2).1, (rgOk_iff g.2).2⟩, q H2 z2 _ rfl ok2 (t1.trans t2) walk_rangeD⟩
    · cases ev
  · cases h
theorem isTup_inv {e : Expr} (h : isTupE e = true) : ∃ es k p, e = .Tuple es k p := by
  cases e <;> first | (cases h; done) | exact ⟨_, _, _, rfl⟩
theorem snd_ienum {c : C} (hc : SndC cf c) : SndI cf (.enum c) := fun Γ X tg e XO h => by
  simp only [chkI, Bool.and_eq_true] at h
  obtain ⟨ht, h⟩ := h
  obtain ⟨es, k, tp, rfl⟩ := isTup_inv ht
  split at h
  · simp only [Bool.and_eq_true] at h
    obtain ⟨⟨h1, h2⟩, h3⟩ := h
    have h2 := of_decide_eq_true h2
    subst h2
    have p1 := plain_star (chk_plain _ _ h3)
    refine ⟨(pi_enumA (gl_of XO h1) (XO.bi _ (by decide)) (pa_cons (hc Γ X _ XO h3).pe0 pa_nil (p1 _ _)) (p1 _ _)).imp fun σ H R ⟨z, en, p, st', ok, er, ev, q⟩ => ?_, rfl⟩
    simp only [evI] at ev
    obtain ⟨x, s1, e1, ev⟩ := bind_ok ev
    refine ⟨z, en, x, _, ok, er, e1, fun H1 z1 v1 hs1 ok1 t1 dv1 _ => ?_⟩
    subst hs1
    split at ev
    · rename_i xs hx
      cases ev
      obtain ⟨a, rfl, w⟩ := lst_held ok1 dv1 hx
      obtain ⟨b, vs, hab, h1, h2⟩ := view_lst ok1 dv1 hx
      cases hab
      exact ⟨a, vs, rfl, .inl ⟨.inl (ok1.rd h1), q H1 z1 _ rfl ok1 t1 (walk_enumL w)⟩⟩
    · rename_i xs hx
      cases ev
      obtain ⟨a, rfl, w⟩ := tup_held ok1 dv1 hx
      obtain ⟨b, vs, hab, h1, h2⟩ := view_tup ok1 dv1 hx
      cases hab
      exact ⟨a, vs, rfl, .inr ⟨ok1.sqT h1, q H1 z1 _ rfl ok1 t1 (walk_enumT w)⟩⟩
    · cases ev
  · cases h
theorem snd_izip {c c2 : C} (hc : SndC cf c) (hc2 : SndC cf c2) : SndI cf (.zip c c2) := fun Γ X tg e XO h => by
  simp only [chkI, Bool.and_eq_true] at h
  obtain ⟨ht, h⟩ := h
  obtain ⟨es, k, tp, rfl⟩ := isTup_inv ht
  split at h
  · simp only [Bool.and_eq_true] at h
    obtain ⟨⟨⟨h1, h2⟩, h3⟩, h4⟩ := h
    have h2 := of_decide_eq_true h2
    subst h2
    have p1 := plain_star (chk_plain _ _ h3)
    have p2 := plain_star (chk_plain _ _ h4)
    refine ⟨(RZ.pi_zipA (gl_of XO h1) (XO.bi _ (by decide)) (pa_cons (hc Γ X _ XO h3).pe0 (pa_cons (hc2 Γ X _ XO h4).pe0 pa_nil (p2 _ _)) (p1 _ _)) (p1 _ _) (stars_any (by simpa using chk_plain _ _ h4))).imp fun σ H R ⟨z, en, p, st', ok, er, ev, q⟩ => ?_, rfl⟩
    simp only [evI] at ev
    obtain ⟨x, s1, e1, ev⟩ := bind_ok ev
    obtain ⟨y, s2, e2, ev⟩ := bind_ok ev
    refine ⟨z, en, x, _, ok, er, e1, fun H1 z1 v1 hs1 ok1 t1 dv1 _ => ?_⟩
    subst hs1
    refine ⟨z1, en, y, _, ok1, ok.env t1 er, e2, fun H2 z2 v2 hs2 ok2 t2 dv2 _ => ?_⟩
    subst hs2
    have dv1 := ok1.dv t2 dv1
    split at ev
    · rename_i xs ys hx hy
      cases ev
      obtain ⟨a, rfl, w⟩ := lst_held ok2 dv1 hx
      obtain ⟨b, vs, hab, g1, g2⟩ := view_lst ok2 dv1 hx
      cases hab
      obtain ⟨a', rfl, w'⟩ := lst_held ok2 dv2 hy
      obtain ⟨b', vs', hab', g1', g2'⟩ := view_lst ok2 dv2 hy
      cases hab'
      refine ⟨a, a', vs, vs', rfl, .inl ⟨.inl (ok2.rd g1), .inl (ok2.rd g1'), q H2 z2 _ rfl ok2 (t1.trans t2) (walk_zipL fun H3 z3 ok3 t3 hg => ?_)⟩⟩
      obtain ⟨k1, k2⟩ := held_app hg
      obtain ⟨us, u1, u2⟩ := w H3 z3 ok3 t3 k1
      obtain ⟨us', u1', u2'⟩ := w' H3 z3 ok3 t3 k2
      exact ⟨us, us', u1, u2, u1', u2'⟩
    · rename_i xs ys hx hy
      cases ev
      obtain ⟨a, rfl, w⟩ := tup_held ok2 dv1 hx
      obtain ⟨b, vs, hab, g1, g2⟩ := view_tup ok2 dv1 hx
      cases hab
      obtain ⟨a', rfl, w'⟩ := tup_held ok2 dv2 hy
      obtain ⟨b', vs', hab', g1', g2'⟩ := view_tup ok2 dv2 hy
      cases hab'
      refine ⟨a, a', vs, vs', rfl, .inr ⟨ok2.sqT g1, ok2.sqT g1', q H2 z2 _ rfl ok2 (t1.trans t2) (walk_zipT fun H3 z3 ok3 t3 => ?_)⟩⟩
      obtain ⟨us, u1, u2⟩ := w H3 z3 ok3 t3
      obtain ⟨us', u1', u2'⟩ := w' H3 z3 ok3 t3
      exact ⟨us, us', u1, u2, u1', u2'⟩
    · cases ev
  · cases h
end
end PyE

namespace PyE
open PySem PySem.Spec PyProof.Rows L2
section
variable {X : Cx} {cf : CallF} {Γ : Ct}
theorem insAt_ok {st : Store} {x : D} {n : Nat} {c : Str} {es : List D} (h : insAt st x = some (n, c, es)) : x = .ref n ∧ st[n]? = some (.fn c es) := by
  unfold insAt at h
  split at h
  · rename_i m
    split at h
    · rename_i c' es' hc
      cases h
      exact ⟨rfl, hc⟩
    · cases h
  · cases h
theorem DFs.get {H : Hp} {K : PySem.W.Frag} {μ : Nat → Addr} {n : Nat} {f : Str} : ∀ {es : List D} {fs : List (Str × V)} {d : D}, DFs H K μ n es fs → fget f es = some d → ∃ v, fs.lookup f = some v ∧ DV H K μ n d v
  | _, _, _, .nil, e => by cases e
  | _, _, _, .cons (f := g) (v := v) (fs := fs) h t, e => by
    unfold fget at e
    by_cases q : g = f
    · subst q
      rw [if_pos rfl] at e
      cases e
      exact ⟨v, by simp [List.lookup], h⟩
    · rw [if_neg q] at e
      obtain ⟨w, h1, h2⟩ := DFs.get t e
      refine ⟨w, ?_, h2⟩
      have : (f == g) = false := by simpa using fun z => q z.symm
      simp [List.lookup, this, h1]
theorem DFs.none {H : Hp} {K : PySem.W.Frag} {μ : Nat → Addr} {n : Nat} {f : Str} : ∀ {es : List D} {fs : List (Str × V)}, DFs H K μ n es fs → fget f es = Option.none → fs.lookup f = Option.none
  | _, _, .nil, _ => rfl
  | _, _, .cons (f := g) (v := v) (fs := fs) h t, e => by
    unfold fget at e
    by_cases q : g = f
    · subst q; rw [if_pos rfl] at e; cases e
    · rw [if_neg q] at e
      have : (f == g) = false := by simpa using fun z => q z.symm
      simp [List.lookup, this, DFs.none t e]
theorem DFs.put {H : Hp} {K : PySem.W.Frag} {μ : Nat → Addr} {n : Nat} {f : Str} {y : D} {v : V} (hy : DV H K μ n y v) : ∀ {es : List D} {fs : List (Str × V)}, DFs H K μ n es fs → DFs H K μ n (fput f y es) (putF f v fs)
  | _, _, .nil => .cons hy .nil
  | _, _, .cons (f := g) (v := w) (fs := fs) h t => by
    unfold fput putF
    by_cases q : g = f
    · rw [if_pos q, if_pos q]; exact .cons hy t
    · rw [if_neg q, if_neg q]; exact .cons h (DFs.put hy t)
/-- the instance that a cell is -/
theorem ins_of {K : PySem.W.Frag} {H : Hp} {z : Z} {n : Nat} {c : Str} {es : List D} (ok : Ok K H z) (h : z.st[n]? = some (.fn c es)) : n < z.n ∧ ∃ dx fs, z.he (z.mu n) = some (.ins (cAd K c) dx fs) ∧ H (z.mu n) = some (.ins (cAd K c) dx fs) ∧ DFs z.he K z.mu z.n es fs := by
  obtain ⟨dx, fs, h1, h2⟩ := ok.sim.cell n _ h
  exact ⟨(List.getElem?_eq_some_iff.mp h).1, dx, fs, h1, ok.sub _ _ h1, h2⟩
theorem fld_ev {c f : Str} {x d : D} {st st' : Store} (h : fldB c f x st = .ok d st') : ∃ n es, x = .ref n ∧ st[n]? = some (.fn c es) ∧ fget f es = some d ∧ st' = st := by
  unfold fldB at h
  split at h
  · rename_i n c' es hi
    obtain ⟨g, h⟩ := guard_ok h
    obtain ⟨h1, h2⟩ := opt_ok h
    obtain ⟨e1, e2⟩ := insAt_ok hi
    have := of_decide_eq_true g
    subst this
    exact ⟨n, es, e1, e2, h1, h2⟩
  · cases h
theorem set_ev {c f : Str} {x y : D} {u : Unit} {st st' : Store} (h : setB c f x y st = .ok u st') : ∃ n es, x = .ref n ∧ st[n]? = some (.fn c es) ∧ es.length < 1000 ∧ st' = st.set n (.fn c (fput f y es)) := by
  unfold setB at h
  split at h
  · rename_i n c' es hi
    obtain ⟨g, h⟩ := guard_ok h
    simp only [Bool.and_eq_true, decide_eq_true_eq] at g
    obtain ⟨g1, g2⟩ := g
    obtain ⟨e1, e2⟩ := insAt_ok hi
    injection h with e3 e4
    subst g1
    exact ⟨n, es, e1, e2, g2, e4.symm⟩
  · cases h
theorem clsB_ok {c f : Str} (XO : XOk Γ cf X) (h : clsB Γ.cls c f = true) : Cls X.K (cAd X.K c) ∧ NoAttr X.K (cAd X.K c) f := by
  unfold clsB at h
  rw [List.any_eq_true] at h
  obtain ⟨p, hp, h⟩ := h
  simp only [Bool.and_eq_true, decide_eq_true_eq] at h
  obtain ⟨rfl, h2⟩ := h
  obtain ⟨a, b⟩ := XO.cls p hp
  exact ⟨a, b f (by simpa using h2)⟩
theorem cls_ok {c : Str} (XO : XOk Γ cf X) (h : Γ.cls.any (fun p => decide (p.1 = c)) = true) : Cls X.K (cAd X.K c) := by
  rw [List.any_eq_true] at h
  obtain ⟨p, hp, h⟩ := h
  have := of_decide_eq_true h
  subst this
  exact (XO.cls p hp).1
theorem snd_fld {c f : Str} {o : C} (ho : SndC cf o) : SndC cf (.fld c o f) := fun Γ X e XO h => by
  simp only [chkE] at h
  split at h
  · rename_i x f' pos
    simp only [Bool.and_eq_true] at h
    obtain ⟨⟨⟨h1, h2⟩, h3⟩, h4⟩ := h
    have h1 := of_decide_eq_true h1
    subst h1
    obtain ⟨k1, k2⟩ := clsB_ok XO h2
    refine .plain rfl ((pe_fld (ho Γ X _ XO h4).pe0 (meth_base h3 _)).imp fun σ H Q ⟨z, en, d, st', ok, er, ev, q⟩ => ?_)
    simp only [evE] at ev
    obtain ⟨x0, s1, e1, ev⟩ := bind_ok ev
    obtain ⟨n, es, rfl, hn, hg, hs⟩ := fld_ev ev
    subst hs
    refine ⟨z, en, _, _, ok, er, e1, fun H1 z1 v1 hs1 ok1 t1 dv1 _ => ?_⟩
    subst hs1
    cases dv1
    obtain ⟨hl, dx, fs, i1, i2, i3⟩ := ins_of ok1 hn
    obtain ⟨v, l1, l2⟩ := i3.get hg
    exact ⟨_, _, dx, fs, v, rfl, i2, k1, k2, l1, q H1 z1 v rfl ok1 t1 l2 .no⟩
  · cases h
/-- a def that is called with all its values by place -/
theorem binds_of {K : PySem.W.Frag} {fd : FuncData} {ps : List Str} {n : Nat} {pats : List (Nat × List Str × List D)} (hl : ps.length = n) (h : pats.any (fun p => decide (p.1 = n) && p.2.1.isEmpty && p.2.2.isEmpty) = true)
    (b : ∀ p ∈ pats, ∀ dv, mapO litV p.2.2 = some dv → ∃ ds : List Value, Vals dv ds ∧ ∀ (s : Shared) (us ws : List Value), K.In s.heap → us.length = p.1 → ws.length = p.2.1.length → BindsTo s fd ⟨us, p.2.1.zip ws⟩ (ps.zip (us ++ ws ++ ds))) : Binds K fd ps [] := fun s us hk hlen => by
  rw [List.any_eq_true] at h
  obtain ⟨⟨m, ks, df⟩, hp, h⟩ := h
  simp only [Bool.and_eq_true, decide_eq_true_eq, List.isEmpty_iff] at h
  obtain ⟨⟨rfl, rfl⟩, rfl⟩ := h
  obtain ⟨ds, rd, bd⟩ := b _ hp [] rfl
  cases rd
  have := bd s us [] hk (by simpa [hl] using hlen) rfl
  simpa using this
theorem isM_ok {c m : Str} {x : D} {st : Store} (h : isM c m x st = true) : ∃ n es, x = .ref n ∧ st[n]? = some (.fn c es) ∧ fget m es = none := by
  unfold isM at h
  split at h
  · rename_i n c' es hi
    simp only [Bool.and_eq_true, decide_eq_true_eq, Option.isNone_iff_eq_none] at h
    obtain ⟨rfl, h2⟩ := h
    obtain ⟨e1, e2⟩ := insAt_ok hi
    exact ⟨n, es, e1, e2, h2⟩
  · cases h
theorem ofEs0 {K : PySem.W.Frag} {σ : L2.St} {H : Hp} {Q : List V → Hp → Prop} (h : tEs K cf .nil σ H Q) : tNil σ H Q := by
  obtain ⟨z, en, xs, st', ok, er, ev, q⟩ := h
  simp only [evEs] at ev
  cases ev
  exact q H z [] rfl ok .refl .nil
theorem snd_meth {c m : Str} {i : Nat} {o : C} {es : Cs} (ho : SndC cf o) (hs : AllC (SndC cf) es) : SndC cf (.meth c m i o es) := fun Γ X e XO h => by
  simp only [chkE] at h
  split at h
  · rename_i x m' apos args cpos
    simp only [Bool.and_eq_true] at h
    obtain ⟨⟨⟨⟨⟨⟨h1, h2⟩, h2l⟩, h30⟩, h3⟩, h4⟩, h5⟩ := h
    have h1 := of_decide_eq_true h1
    have h30 := of_decide_eq_true h30
    subst h1
    have k1 := cls_ok XO h3
    split at h5
    · rename_i ft hft
      simp only [Bool.and_eq_true] at h5
      obtain ⟨⟨⟨⟨g1, g2⟩, g3⟩, g4⟩, g5⟩ := h5
      have g1 := of_decide_eq_true g1
      have g2 := of_decide_eq_true g2
      obtain ⟨k, a, fd, hm, kp, F, rm, binds⟩ := (XO.fns i ft hft).ex
      unfold AtOk at hm
      rw [g1, g2] at hm
      have hb := binds_of (of_decide_eq_true g3) g4 binds
      have pl := chkEs_plain g5
      have ht := mcall_of (kws := []) (meth_base (X := X) h2 m') fun ov => mcall_line (ov := ov) (few_of (env := X.env) (pos := cpos) pl h30) h2l
      have imp : ∀ {t : TA} {σ : L2.St} {H : Hp} {Q : VK}, (∀ {σ : L2.St} {H : Hp} {Q : List V → Hp → Prop}, tEs X.K cf es σ H Q → t σ H Q) → tE X.K false cf (.meth c m' i o es) σ H Q → tMeth (cAd X.K c) m' (spF X.K cf i) [] E0 (tE X.K false cf o) t σ H Q := fun {t σ H Q} ht ⟨z, en, d, st', ok, er, ev, q⟩ => by
        simp only [evE] at ev
        obtain ⟨x0, s1, e1, ev⟩ := bind_ok ev
        obtain ⟨g, ev⟩ := guard_ok ev
        obtain ⟨xs, s2, e2, ev⟩ := bind_ok ev
        obtain ⟨n, fes, rfl, hn, hg⟩ := isM_ok g
        refine ⟨z, en, _, s1, ok, er, e1, fun H1 z1 v1 hs1 ok1 t1 dv1 _ => ?_⟩
        subst hs1
        have dv1' := dv1
        cases dv1
        obtain ⟨hl, dx, fs, i1, i2, i3⟩ := ins_of ok1 hn
        refine ⟨_, dx, fs, rfl, i2, i3.none hg, ht ⟨z1, en, xs, s2, ok1, ok.env t1 er, e2, fun H2 z2 vs hs2 ok2 t2 dv2 => ?_⟩⟩
        subst hs2
        refine ⟨z2, _, d, st', ok2, ?_, ev, q.trans (t1.trans t2)⟩
        rw [List.append_nil]
        exact .cons (ok1.dv t2 dv1') dv2
      cases args with
      | nil =>
        cases es with
        | cons _ _ => simp [chkEs] at g5
        | nil => exact .plain rfl ((pe_meth0 (ho Γ X _ XO h4).pe0 k1 hm.1 F (rm.mono (Nat.le_succ k)) hb .nil pass0 ht).imp fun σ H Q q => imp ofEs0 q)
      | cons e es' =>
        have pl' : plainE e = true ∧ es'.all plainE = true := by simpa using pl
        exact .plain rfl ((pe_meth (ho Γ X _ XO h4).pe0 k1 hm.1 F (rm.mono (Nat.le_succ k)) hb .nil pass0 (pa_of XO hs g5) (plain_star pl'.1 _ _) (stars_any pl'.2) ht).imp fun σ H Q q => imp (fun q => q) q)
    · cases h5
  · cases h
/-- a new instance, seen -/
def Z.made (z : Z) (K : PySem.W.Frag) (c : Str) (x dx : Addr) : Z := ⟨upd z.he x (.ins (cAd K c) dx []), muAt z.mu z.n x, z.st ++ [.fn c []]⟩
theorem Ok.made {K : PySem.W.Frag} {H : Hp} {z : Z} (ok : Ok K H z) {c : Str} {x dx : Addr} (hx : H x = Option.none) (hd : H dx = Option.none) : Ok K (upd (upd H dx (.own x)) x (.ins (cAd K c) dx [])) (z.made K c x dx) :=
  ⟨fun a u e => by
    have e : upd z.he x _ a = some u := e
    by_cases q : a = x
    · subst q; rw [upd_same] at e ⊢; exact e
    · rw [upd_ne q] at e ⊢
      have h := ok.sub a u e
      rw [upd_ne (ne_of_none h hd)]
      exact h, ok.sim.thaw (ok.none hx) ⟨dx, [], upd_same, .nil⟩⟩
theorem To.made {K : PySem.W.Frag} {H : Hp} {z : Z} (ok : Ok K H z) {c : Str} {x dx : Addr} (hx : H x = Option.none) (hd : H dx = Option.none) : To H z (upd (upd H dx (.own x)) x (.ins (cAd K c) dx [])) (z.made K c x dx) := by
  refine ⟨?_, fun a u e q => ?_, fun a e => ?_⟩
  · have := Ext.thaw (μ := z.mu) (n := z.n) (o := .ins (cAd K c) dx []) (ok.none hx)
    show Ext z.he z.mu z.n (upd z.he x _) (muAt z.mu z.n x) (z.st ++ [D.fn c []]).length
    rw [List.length_append]
    exact this
  · have h1 := ne_of_none e hx
    exact ⟨by rw [upd_ne h1, upd_ne (ne_of_none e hd)]; exact e, by show upd z.he x _ a = _; rw [upd_ne h1]; exact q⟩
  · by_cases q : a = x
    · subst q; exact hx
    · rw [upd_ne q] at e
      by_cases q2 : a = dx
      · subst q2; exact hd
      · rwa [upd_ne q2] at e
theorem none_ev {x d v : D} {st st' : Store} (h : noneD x st v = .ok d st') : v = .non ∧ d = x ∧ st' = st := by
  unfold noneD at h
  split at h
  · cases h; exact ⟨rfl, rfl, rfl⟩
  · cases h
theorem snd_new {c : Str} {i : Nat} {es : Cs} (hs : AllC (SndC cf) es) : SndC cf (.new c i es) := fun Γ X e XO h => by
  simp only [chkE] at h
  split at h
  · rename_i x p args pos
    simp only [Bool.and_eq_true] at h
    obtain ⟨⟨⟨⟨h1, h2⟩, h3⟩, h4⟩, h5⟩ := h
    have h3 := of_decide_eq_true h3
    subst h3
    have hdb : (x == ("__debug__" : Str)) = false := by
      unfold okN at h2
      simp only [Bool.and_eq_true, Bool.not_eq_true'] at h2
      exact h2.1
    split at h5
    · rename_i ft hft
      simp only [Bool.and_eq_true] at h5
      obtain ⟨⟨⟨⟨g1, g2⟩, g3⟩, g4⟩, g5⟩ := h5
      have g1 := of_decide_eq_true g1
      have g2 := of_decide_eq_true g2
      obtain ⟨k, a, fd, hm, kp, F, rm, binds⟩ := (XO.fns i ft hft).ex
      unfold AtOk at hm
      rw [g1, g2] at hm
      obtain ⟨hm, hm2⟩ := hm
      obtain ⟨M, mg⟩ := hm2 rfl
      have hb := binds_of (of_decide_eq_true g3) g4 binds
      have pl := chkEs_plain g5
      have imp : ∀ {t : TA} {σ : L2.St} {H : Hp} {Q : VK}, (∀ {σ : L2.St} {H : Hp} {Q : List V → Hp → Prop}, tEs X.K cf es σ H Q → t σ H Q) → tE X.K false cf (.new x i es) σ H Q → tMake (cAd X.K x) (spF X.K cf i) [] E0 t σ H Q := fun {t σ H Q} ht ⟨z, en, d, st', ok, er, ev, q⟩ => by
        simp only [evE] at ev
        obtain ⟨xs, s1, e1, ev⟩ := bind_ok ev
        obtain ⟨v, s2, e2, ev⟩ := bind_ok ev
        obtain ⟨rfl, rfl, rfl⟩ := none_ev ev
        refine ht ⟨z, en, xs, s1, ok, er, e1, fun H1 z1 vs hs1 ok1 t1 dv1 => fun p dx hp hd _ => ?_⟩
        subst hs1
        have ok2 := ok1.made (c := x) hp hd
        have t2 := To.made ok1 (c := x) hp hd
        have dvr : DVz X.K (z1.made X.K x p dx) (.ref z1.n) (.ref p) := by
          have h : z1.n < (z1.made X.K x p dx).n := by
            show z1.st.length < (z1.st ++ [D.fn x []]).length
            simp
          have := DV.ref (H := (z1.made X.K x p dx).he) (K := X.K) (μ := (z1.made X.K x p dx).mu) (n := (z1.made X.K x p dx).n) (k := z1.n) h
          have e : (z1.made X.K x p dx).mu z1.n = p := muAt_new
          rw [e] at this
          exact this
        refine ⟨z1.made X.K x p dx, _, .non, _, ok2, .cons dvr ?_, e2, fun H' z' v hs' ok' t' dv' _ => ?_⟩
        · rw [List.append_nil]
          exact ok1.dvs t2 dv1
        · cases dv'
          exact ⟨rfl, q H' z' _ hs' ok' (t1.trans (t2.trans t')) (ok2.dv t' dvr) .no⟩
      cases args with
      | nil =>
        cases es with
        | cons _ _ => simp [chkEs] at g5
        | nil => exact .plain rfl ((pe_make0 M F rm (gl_of XO h1) mg hb .nil pass0 hdb).imp fun σ H Q q => imp ofEs0 q)
      | cons e es' =>
        have pl' : plainE e = true ∧ es'.all plainE = true := by simpa using pl
        exact .plain rfl ((pe_make M F rm (gl_of XO h1) mg hb .nil pass0 (pa_of XO hs g5) hdb (plain_star pl'.1 _ _) (stars_any pl'.2)).imp fun σ H Q q => imp (fun q => q) q)
    · cases h5
  · cases h
theorem DVs.reverse {H : Hp} {K : PySem.W.Frag} {μ : Nat → Addr} {n : Nat} : ∀ {xs : List D} {vs : List V}, DVs H K μ n xs vs → DVs H K μ n xs.reverse vs.reverse
  | _, _, .nil => .nil
  | _, _, .cons h t => by
    rw [List.reverse_cons, List.reverse_cons]
    exact (DVs.reverse t).append (.cons h .nil)
theorem snd_rev {a : C} (ha : SndC cf a) : SndC cf (.rev a) := fun Γ X e XO h => by
  simp only [chkE] at h
  split at h
  · simp only [Bool.and_eq_true] at h
    obtain ⟨h1, h2⟩ := h
    have h1 := of_decide_eq_true h1
    subst h1
    refine .plain rfl ((pe_revL (ha Γ X _ XO h2).pe0).imp fun σ H Q ⟨z, en, d, st', ok, er, ev, q⟩ => ?_)
    simp only [evE] at ev
    obtain ⟨x0, s1, e1, ev⟩ := bind_ok ev
    unfold revB at ev
    split at ev
    · rename_i xs hv
      cases ev
      refine ⟨z, en, _, _, ok, er, e1, fun H1 z1 v1 hs1 ok1 t1 dv1 _ => ?_⟩
      subst hs1
      obtain ⟨p, vs, rfl, r1, r2⟩ := view_lst ok1 dv1 hv
      exact ⟨p, vs, rfl, .inl (ok1.rd r1), (q.trans t1).lst ok1 r2.reverse⟩
    · cases ev
  · cases h
end
end PyE

namespace PyE
open PySem PySem.Spec PyProof.Rows L2
section
variable {X : Cx} {cf : CallF} {Γ : Ct}
mutual
theorem beq_refl : ∀ d : D, D.beq d d = true
  | .non => rfl
  | .bl b => by simp [D.beq]
  | .int b => by simp [D.beq]
  | .str b => by simp [D.beq]
  | .tup xs => by simp only [D.beq]; exact beqL_refl xs
  | .lst xs => by simp only [D.beq]; exact beqL_refl xs
  | .dct xs => by simp only [D.beq]; exact beqL_refl xs
  | .ref b => by simp [D.beq]
  | .fn c xs => by simp only [D.beq, decide_true, Bool.true_and]; exact beqL_refl xs
theorem beqL_refl : ∀ d : List D, D.beqL d d = true
  | [] => rfl
  | x :: xs => by simp only [D.beqL, Bool.and_eq_true]; exact ⟨beq_refl x, beqL_refl xs⟩
end
theorem held_guard (st : Store) (d : D) : held (guardOf st d) st = true := by
  cases d <;> first | rfl | skip
  rename_i n
  unfold guardOf held
  cases e : st[n]? with
  | none => simp [e]
  | some c => simp [e, beq_refl]
theorem held_two {g g' : Guard} {st : Store} (h : held g st = true) (h' : held g' st = true) : held (g ++ g') st = true := by
  unfold held at h h' ⊢
  rw [List.all_append, h, h']; rfl
theorem evI_held {i : I} {en : En} {st st' : Store} {p : List D × Guard} (h : evI cf i en st = .ok p st') : held p.2 st' = true := by
  cases i with
  | val e =>
    simp only [evI] at h
    obtain ⟨x, s1, e1, h⟩ := bind_ok h
    obtain ⟨h2, hst⟩ := opt_ok h
    subst hst
    unfold iterOf at h2
    split at h2 <;> first | (cases h2; first | rfl | exact held_guard _ _) | cases h2
  | range1 a =>
    simp only [evI] at h
    obtain ⟨x, s1, e1, h⟩ := bind_ok h
    split at h
    · obtain ⟨g, h⟩ := guard_ok h
      cases h; rfl
    · cases h
  | range2 a b =>
    simp only [evI] at h
    obtain ⟨x, s1, e1, h⟩ := bind_ok h
    obtain ⟨y, s2, e2, h⟩ := bind_ok h
    split at h
    · obtain ⟨g, h⟩ := guard_ok h
      cases h; rfl
    · cases h
  | enum a =>
    simp only [evI] at h
    obtain ⟨x, s1, e1, h⟩ := bind_ok h
    split at h <;> first | (cases h; first | rfl | exact held_guard _ _) | cases h
  | zip a b =>
    simp only [evI] at h
    obtain ⟨x, s1, e1, h⟩ := bind_ok h
    obtain ⟨y, s2, e2, h⟩ := bind_ok h
    split at h <;> first | (cases h; first | rfl | exact held_two (held_guard _ _) (held_guard _ _)) | cases h
theorem wipe_get {σ : L2.St} {i : Nat} : ∀ vs : List Nat, (L2.wipe σ vs)[i]? = if i ∈ vs then (σ[i]?).map fun _ => none else σ[i]?
  | [] => by simp [L2.wipe]
  | v :: vs => by
    unfold L2.wipe
    rw [List.getElem?_set, L2.wipe_length, wipe_get vs]
    by_cases h : v = i
    · subst h
      simp only [if_true, List.mem_cons, true_or]
      by_cases hl : v < σ.length
      · rw [if_pos hl, List.getElem?_eq_getElem hl]; rfl
      · rw [if_neg hl, List.getElem?_eq_none (by omega)]; rfl
    · rw [if_neg h]
      have : i ≠ v := fun e => h e.symm
      simp [this]
theorem wipe_wipe {σ : L2.St} {vs : List Nat} : L2.wipe (L2.wipe σ vs) vs = L2.wipe σ vs := by
  apply List.ext_getElem?
  intro i
  rw [wipe_get, wipe_get]
  split
  · cases σ[i]? <;> rfl
  · rfl
abbrev Ct.blk (Γ : Ct) (scope : Scope) : Ct := { Γ with sc := relS scope Γ.sc, own := scope }
theorem XOk.blk (XO : XOk Γ cf X) (s : Shared) (H : Hp) (scope : Scope) (C : Addr) (cl : List (Str × Addr)) (fp : List Addr) : XOk (Γ.blk scope) cf (X.blk s H scope (compEnvC scope cl C X.env) fp) where
  calm := XO.calm
  nd := XO.nd
  N := XO.N
  sc := by
    show relS scope X.env.scope = relS scope Γ.sc
    rw [XO.sc]
  un := XO.un
  loc := fun x h => by
    have h : locB scope x = true := h
    have l := loc_of h
    show L2.Loc (relS scope X.env.scope) x ∧ ((scope.names.lookup x == some .cell) = true ∨ (relS scope X.env.scope).names.lookup x = some .local)
    rcases l with l | l
    · have k : (relS scope X.env.scope).names.lookup x = some .local := lookup_relS_keep (by decide) l
      exact ⟨.inl k, .inr k⟩
    · have k : (relS scope X.env.scope).names.lookup x = some .cell := lookup_relS_keep (by decide) l
      exact ⟨.inr k, .inl (by rw [l]; rfl)⟩
  glb := XO.glb
  bi := XO.bi
  fns := fun f ft h => ⟨(XO.fns f ft h).ex⟩
  cls := XO.cls
theorem pts_of (XO : XOk Γ cf X) {c : Co} {ifs : List Expr} (hc : OptC cf c) (h : chkCo Γ c ifs = true) : PTs X ifs (tCo X.K cf c) := by
  cases c with
  | none =>
    cases ifs with
    | cons _ _ => simp [chkCo] at h
    | nil =>
      refine pts_nil.imp fun σ H Q ⟨z, en, st', b, ok, er, ev, q⟩ => ?_
      simp only [evCo] at ev
      cases ev
      exact q H z rfl ok .refl
  | some c =>
    cases ifs with
    | nil => simp [chkCo] at h
    | cons e r =>
      cases r with
      | cons _ _ => simp [chkCo] at h
      | nil =>
        simp only [chkCo] at h
        refine (pts_one (hc Γ X e XO h).pt).imp fun σ H Q ⟨z, en, st', b, ok, er, ev, q⟩ => ?_
        simp only [evCo] at ev
        obtain ⟨x, s1, e1, ev⟩ := bind_ok ev
        obtain ⟨ev2, hst⟩ := opt_ok ev
        subst hst
        exact ⟨z, en, x, _, b, ok, er, e1, ev2, q⟩
theorem lc_imp {K : PySem.W.Frag} {own : List Nat} {t : T} {it : I} {cond : Co} {elt : C} (hown : ∀ i ∈ slotsT t, i ∈ own) {σ : L2.St} {H : Hp} {Q : VK} (h : tE K true cf (.lc own t it cond elt) σ H Q) :
    tLc (iT K cf it) (gT K cf t) (tCo K cf cond) (tE K false cf elt) own σ H Q := by
  obtain ⟨z, en, d, st', ok, er, ev, q⟩ := h
  simp only [evE] at ev
  obtain ⟨p, s1, e1, ev⟩ := bind_ok ev
  have hg0 := evI_held e1
  obtain ⟨accF, s6, e2, ev⟩ := bind_ok ev
  cases ev
  refine ⟨z, en, p, s1, ok, er, e1, fun H1 z1 J hs1 ok1 t1 walk Dn hD => ?_⟩
  subst hs1
  have hz1 := ok1.none hD
  have hH : H Dn = none := t1.there _ hD
  generalize hF : (fun x (acc : List D) s2 => (asT cf t x (wipe en own) s2).bind fun en2 s3 => (evCo cf cond en2 s3).bind fun b s4 =>
      if b = true then (evE cf elt en2 s4).bind fun y s5 => guardB (decide (acc.length < line) && held p.2 s5) (R.ok (acc ++ [y]) s5) else guardB (held p.2 s4) (R.ok acc s4)) = F at e2
  let P : Nat → Hp → Prop := fun i Hn => ∃ zn acc vs, Ok K Hn zn ∧ To H1 z1 Hn zn ∧ zn.he Dn = none ∧ Hn Dn = some (.lst vs) ∧ DVsz K zn acc vs ∧ held p.2 zn.st = true ∧ foldR F (p.1.drop i) acc zn.st = .ok accF st'
  refine ⟨fun i m Hn => m = p.1.length - i ∧ i ≤ p.1.length ∧ P i Hn, ⟨_, rfl, Nat.zero_le _, z1, [], [], ok1.at hz1, To.refl.at hD, hz1, upd_same, .nil, hg0, e2⟩, ?_⟩
  rintro i m Hn ⟨rfl, hi, zn, acc, vs, okn, tn, hzn, hHn, dvs, hgn, fl⟩
  by_cases hlt : i < p.1.length
  · refine .inr ⟨walk.go i Hn zn hlt okn tn hgn, P (i + 1), fun H' p' => ⟨p.1.length - (i + 1), by omega, rfl, hlt, p'⟩, fun x H' y => ?_⟩
    obtain ⟨z2, d, hz2, ok2, t2, hd, dv⟩ := walk.yld i Hn zn x H' hlt okn tn hgn y
    have hcons : p.1.drop i = d :: p.1.drop (i + 1) := by
      obtain ⟨hl, he⟩ := List.getElem?_eq_some_iff.mp hd
      rw [List.drop_eq_getElem_cons hl, he]
    rw [hcons] at fl
    unfold foldR at fl
    obtain ⟨acc2, s7, e3, fl⟩ := bind_ok fl
    rw [← hF] at e3
    obtain ⟨en2, s3, e4, e3⟩ := bind_ok e3
    obtain ⟨b, s4, e5, e3⟩ := bind_ok e3
    rw [← hz2] at e4
    refine ⟨z2, wipe en own, d, en2, s3, ok2, wipe_env (ok.env (t1.trans (tn.trans t2)) er) own, dv, e4, fun H3 z3 σ3 hs3 ok3 t3 er3 w3 => ⟨(w3 own hown).trans wipe_wipe, z3, en2, s4, b, ok3, er3, by rw [hs3]; exact e5, fun H4 z4 hs4 ok4 t4 => ?_⟩⟩
    have t24 : To Hn zn H4 z4 := t2.trans (t3.trans t4)
    cases b with
    | true =>
      dsimp only
      rw [if_pos rfl] at e3 ⊢
      obtain ⟨y, s5, e6, e3⟩ := bind_ok e3
      obtain ⟨g, e3⟩ := guard_ok e3
      cases e3
      simp only [Bool.and_eq_true] at g
      refine ⟨z4, en2, y, s7, ok4, ok3.env t4 er3, by rw [hs4]; exact e6, fun H5 z5 v hs5 ok5 t5 dv5 _ => ?_⟩
      have t25 : To Hn zn H5 z5 := t24.trans t5
      obtain ⟨k1, k2⟩ := t25.hid Dn _ hHn hzn
      refine ⟨vs, k1, by rw [← dvs.length, ← line_eq]; exact of_decide_eq_true g.1, z5, acc ++ [y], vs ++ [v], ok5.at k2, (tn.trans t25).at hD, k2, upd_same, (okn.dvs t25 dvs).append (.cons dv5 .nil), by rw [hs5]; exact g.2, by rw [hs5]; exact fl⟩
    | false =>
      dsimp only
      rw [if_neg (by decide)] at e3 ⊢
      obtain ⟨g, e3⟩ := guard_ok e3
      cases e3
      obtain ⟨k1, k2⟩ := t24.hid Dn _ hHn hzn
      exact ⟨z4, acc, vs, ok4, tn.trans t24, k2, k1, okn.dvs t24 dvs, by rw [hs4]; exact g, by rw [hs4]; exact fl⟩
  · have ei : i = p.1.length := by omega
    subst ei
    refine .inl ⟨walk.stop Hn zn okn tn hgn, ?_⟩
    rw [List.drop_length] at fl
    unfold foldR at fl
    cases fl
    exact q.lstAt rfl okn (t1.trans tn) hH hzn hHn dvs
/-- {k: v for t in it if cond} -/
theorem dc_imp {K : PySem.W.Frag} {own : List Nat} {t : T} {it : I} {cond : Co} {ck cv : C} (hown : ∀ i ∈ slotsT t, i ∈ own) {σ : L2.St} {H : Hp} {Q : VK} (h : tE K true cf (.dc own t it cond ck cv) σ H Q) :
    tDc (iT K cf it) (gT K cf t) (tCo K cf cond) (tE K false cf ck) (tE K false cf cv) own σ H Q := by
  obtain ⟨z, en, d, st', ok, er, ev, q⟩ := h
  simp only [evE] at ev
  obtain ⟨p, s1, e1, ev⟩ := bind_ok ev
  have hg0 := evI_held e1
  obtain ⟨accF, s6, e2, ev⟩ := bind_ok ev
  cases ev
  refine ⟨z, en, p, s1, ok, er, e1, fun H1 z1 J hs1 ok1 t1 walk Dn hD => ?_⟩
  subst hs1
  have hz1 := ok1.none hD
  have hH : H Dn = none := t1.there _ hD
  generalize hF : (fun x (acc : List D) s2 => (asT cf t x (wipe en own) s2).bind fun en2 s3 => (evCo cf cond en2 s3).bind fun b s4 =>
      if b = true then (evE cf ck en2 s4).bind fun y s5 => (evE cf cv en2 s5).bind fun z s6 => guardB (isKey y && decide (acc.length < line) && held p.2 s6) (R.ok (dput acc y z) s6) else guardB (held p.2 s4) (R.ok acc s4)) = F at e2
  let P : Nat → Hp → Prop := fun i Hn => ∃ zn acc vs, Ok K Hn zn ∧ To H1 z1 Hn zn ∧ zn.he Dn = none ∧ Hn Dn = some (.dK vs) ∧ DKsz K zn acc vs ∧ held p.2 zn.st = true ∧ foldR F (p.1.drop i) acc zn.st = .ok accF st'
  refine ⟨fun i m Hn => m = p.1.length - i ∧ i ≤ p.1.length ∧ P i Hn, ⟨_, rfl, Nat.zero_le _, z1, [], [], ok1.at hz1, To.refl.at hD, hz1, upd_same, .nil, hg0, e2⟩, ?_⟩
  rintro i m Hn ⟨rfl, hi, zn, acc, vs, okn, tn, hzn, hHn, dvs, hgn, fl⟩
  by_cases hlt : i < p.1.length
  · refine .inr ⟨walk.go i Hn zn hlt okn tn hgn, P (i + 1), fun H' p' => ⟨p.1.length - (i + 1), by omega, rfl, hlt, p'⟩, fun x H' y => ?_⟩
    obtain ⟨z2, d, hz2, ok2, t2, hd, dv⟩ := walk.yld i Hn zn x H' hlt okn tn hgn y
    have hcons : p.1.drop i = d :: p.1.drop (i + 1) := by
      obtain ⟨hl, he⟩ := List.getElem?_eq_some_iff.mp hd
      rw [List.drop_eq_getElem_cons hl, he]
    rw [hcons] at fl
    unfold foldR at fl
    obtain ⟨acc2, s7, e3, fl⟩ := bind_ok fl
    rw [← hF] at e3
    obtain ⟨en2, s3, e4, e3⟩ := bind_ok e3
    obtain ⟨b, s4, e5, e3⟩ := bind_ok e3
    rw [← hz2] at e4
    refine ⟨z2, wipe en own, d, en2, s3, ok2, wipe_env (ok.env (t1.trans (tn.trans t2)) er) own, dv, e4, fun H3 z3 σ3 hs3 ok3 t3 er3 w3 => ⟨(w3 own hown).trans wipe_wipe, z3, en2, s4, b, ok3, er3, by rw [hs3]; exact e5, fun H4 z4 hs4 ok4 t4 => ?_⟩⟩
    have t24 : To Hn zn H4 z4 := t2.trans (t3.trans t4)
    cases b with
    | true =>
      dsimp only
      rw [if_pos rfl] at e3 ⊢
      obtain ⟨y, s5, e6, e3⟩ := bind_ok e3
      obtain ⟨w, s6, e7, e3⟩ := bind_ok e3
      obtain ⟨g, e3⟩ := guard_ok e3
      cases e3
      simp only [Bool.and_eq_true] at g
      refine ⟨z4, en2, y, s5, ok4, ok3.env t4 er3, by rw [hs4]; exact e6, fun H5 z5 v hs5 ok5 t5 dv5 _ => ?_⟩
      refine ⟨z5, en2, w, s7, ok5, ok4.env t5 (ok3.env t4 er3), by rw [hs5]; exact e7, fun H6 z6 v6 hs6 ok6 t6 dv6 _ => ?_⟩
      have t26 : To Hn zn H6 z6 := t24.trans (t5.trans t6)
      obtain ⟨k1, k2⟩ := t26.hid Dn _ hHn hzn
      obtain ⟨kk, rfl, rfl⟩ := key_of dv5 g.1.1
      refine ⟨vs, kk, rfl, k1, by rw [← dvs.length, ← line_eq]; exact of_decide_eq_true g.1.2, z6, dput acc (kD kk) w, putK vs kk v6, ok6.at k2, (tn.trans t26).at hD, k2, upd_same, dput_ok kk dv6 (dvs.mono t26.ext okn.sim), by rw [hs6]; exact g.2, by rw [hs6]; exact fl⟩
    | false =>
      dsimp only
      rw [if_neg (by decide)] at e3 ⊢
      obtain ⟨g, e3⟩ := guard_ok e3
      cases e3
      obtain ⟨k1, k2⟩ := t24.hid Dn _ hHn hzn
      exact ⟨z4, acc, vs, ok4, tn.trans t24, k2, k1, dvs.mono t24.ext okn.sim, by rw [hs4]; exact g, by rw [hs4]; exact fl⟩
  · have ei : i = p.1.length := by omega
    subst ei
    refine .inl ⟨walk.stop Hn zn okn tn hgn, ?_⟩
    rw [List.drop_length] at fl
    unfold foldR at fl
    cases fl
    exact q.dctAt rfl okn (t1.trans tn) hH hzn hHn dvs
/-- what a list comprehension's rule asks -/
structure LcP (X : Cx) (cf : CallF) (own : List Nat) (t : T) (it : I) (cond : Co) (elt : C) (tg iter el : Expr) (ifs : List Expr) (scope : Scope) (o : List (Str × Nat)) : Prop where
  eo : o.map (·.2) = own
  sub : ∀ i ∈ slotsT t, i ∈ own
  pi : PI X tg iter (iT X.K cf it)
  blk : BlkOk X.N X.env.scope scope o
  pg : ∀ (s : Shared) (H : Hp) (C : Addr) (cl : List (Str × Addr)) (fp : List Addr), PG (X.blk s H scope (compEnvC scope cl C X.env) fp) tg (gT X.K cf t)
  pt : ∀ (s : Shared) (H : Hp) (C : Addr) (cl : List (Str × Addr)) (fp : List Addr), PTs (X.blk s H scope (compEnvC scope cl C X.env) fp) ifs (tCo X.K cf cond)
  pe : ∀ (s : Shared) (H : Hp) (C : Addr) (cl : List (Str × Addr)) (fp : List Addr), PE (X.blk s H scope (compEnvC scope cl C X.env) fp) el (tE X.K false cf elt)
  fold : ∀ x, foldedSetIterable iter X.env x = pure x
theorem lc_parts {own : List Nat} {t : T} {it : I} {cond : Co} {elt : C} {tg iter el : Expr} {ifs : List Expr} {scope : Scope} (XO : XOk Γ cf X) (ht : SndT cf t) (hi : SndI cf it) (hc : OptC cf cond) (he : SndC cf elt) (h1 : blkC Γ.N Γ.sc scope (ownOf Γ.N own) = true) (h2 : decide ((ownOf Γ.N own).map (·.2) = own) = true)
    (h3 : chkI Γ it tg iter = true) (h4 : chkT (Γ.blk scope) t tg = true) (h5 : (slotsT t).all (own.contains ·) = true) (h6 : chkCo (Γ.blk scope) cond ifs = true) (h7 : chkE (Γ.blk scope) elt el = true) : LcP X cf own t it cond elt tg iter el ifs scope (ownOf Γ.N own) where
  eo := of_decide_eq_true h2
  sub := fun i hi => by
    have := List.all_eq_true.mp h5 i hi
    simpa using this
  pi := (hi Γ X tg iter XO h3).1
  blk := blkOk_by (by rw [XO.N, XO.sc]; exact h1)
  pg := fun s H C cl fp => (ht _ _ tg (XO.blk s H scope C cl fp) h4).1
  pt := fun s H C cl fp => pts_of (XO.blk s H scope C cl fp) hc h6
  pe := fun s H C cl fp => (he _ _ el (XO.blk s H scope C cl fp) h7).pe0
  fold := plain_fold (hi Γ X tg iter XO h3).2
theorem LcP.run {own : List Nat} {t : T} {it : I} {cond : Co} {elt : C} {tg iter el : Expr} {ifs : List Expr} {scope : Scope} {o : List (Str × Nat)} {pos : Pos} (XO : XOk Γ cf X) (p : LcP X cf own t it cond elt tg iter el ifs scope o) : PE X (.ListComp el [⟨tg, iter, ifs, 0⟩] scope pos) (tE X.K true cf (.lc own t it cond elt)) := by
  have := pe_lc (pos := pos) XO.calm XO.nd p.pi p.blk p.pg p.pt p.pe p.fold
  rw [p.eo] at this
  exact this.imp fun σ H Q q => lc_imp p.sub q
theorem snd_lc {own : List Nat} {t : T} {it : I} {cond : Co} {elt : C} (ht : SndT cf t) (hi : SndI cf it) (hc : OptC cf cond) (he : SndC cf elt) : SndC cf (.lc own t it cond elt) := fun Γ X e XO h => by
  simp only [chkE] at h
  split at h
  · rename_i el tg iter ifs ia scope pos
    simp only [Bool.and_eq_true] at h
    obtain ⟨⟨⟨⟨⟨⟨⟨h0, h1⟩, h2⟩, h3⟩, h4⟩, h5⟩, h6⟩, h7⟩ := h
    have h0 := of_decide_eq_true h0
    subst h0
    exact .plain rfl ((lc_parts XO ht hi hc he h1 h2 h3 h4 h5 h6 h7).run XO)
  · cases h
theorem snd_dc {own : List Nat} {t : T} {it : I} {cond : Co} {ck cv : C} (ht : SndT cf t) (hi : SndI cf it) (hc : OptC cf cond) (hk : SndC cf ck) (he : SndC cf cv) : SndC cf (.dc own t it cond ck cv) := fun Γ X e XO h => by
  simp only [chkE] at h
  split at h
  · rename_i kl vl tg iter ifs ia scope pos
    simp only [Bool.and_eq_true] at h
    obtain ⟨⟨⟨⟨⟨⟨⟨⟨h0, h1⟩, h2⟩, h3⟩, h4⟩, h5⟩, h6⟩, h7⟩, h8⟩ := h
    have h0 := of_decide_eq_true h0
    subst h0
    have p := lc_parts XO ht hi hc he h1 h2 h3 h4 h5 h6 h8
    have := pe_dc (pos := pos) (tk := tE X.K false cf ck) XO.calm XO.nd p.pi p.blk p.pg p.pt (fun s H C cl fp => (hk _ _ kl (XO.blk s H scope C cl fp) h7).pe0) p.pe p.fold
    rw [p.eo] at this
    exact .plain rfl (this.imp fun σ H Q q => dc_imp p.sub q)
  · cases h
end
mutual
theorem sndC (cf : CallF) : ∀ c : C, SndC cf c
  | .lit d => snd_lit d
  | .var i => snd_var i
  | .tup es => snd_tup (sndCs cf es)
  | .list es => snd_list (sndCs cf es)
  | .dict ks vs => snd_dict (sndCs cf vs)
  | .mut e => snd_mut (sndC cf e)
  | .bin op a b => snd_bin (sndC cf a) (sndC cf b)
  | .neg a => snd_neg (sndC cf a)
  | .cmp op a b => snd_cmp (sndC cf a) (sndC cf b)
  | .and a b => snd_and (sndC cf a) (sndC cf b) (sub1 cf a) (sub1 cf b)
  | .or a b => snd_or (sndC cf a) (sndC cf b)
  | .not a => snd_not (sndC cf a)
  | .ife c a b => snd_ife (sndC cf c) (sndC cf a) (sndC cf b)
  | .ix a b => snd_ix (sndC cf a) (sndC cf b)
  | .sl a lo hi => snd_sl (sndC cf a) (sndCo cf lo) (sndCo cf hi)
  | .call f es io fresh => snd_call (sndCs cf es)
  | .callS f es => snd_callS (sndCs cf es)
  | .bi f es => snd_bi (sortedSet_ok cf) (sndCs cf es)
  | .mt m o es => snd_mt (sndC cf o) (sndCs cf es)
  | .fld c o f => snd_fld (sndC cf o)
  | .new c i es => snd_new (sndCs cf es)
  | .meth c m i o es => snd_meth (sndC cf o) (sndCs cf es)
  | .rev e => snd_rev (sndC cf e)
  | .isi a ts => snd_isi (sndC cf a)
  | .lc own t it cond elt => snd_lc (sndT cf t) (sndI cf it) (sndCo cf cond) (sndC cf elt)
  | .dc own t it cond k v => snd_dc (sndT cf t) (sndI cf it) (sndCo cf cond) (sndC cf k) (sndC cf v)
theorem sub1 (cf : CallF) : ∀ c : C, Sub1 cf c
  | .cmp _ a b => ⟨sndC cf a, sndC cf b⟩
  | .lit _ | .var _ | .tup _ | .list _ | .dict _ _ | .mut _ | .bin _ _ _ | .neg _ | .and _ _ | .or _ _ | .not _ | .ife _ _ _ | .ix _ _ | .sl _ _ _ | .call _ _ _ _ | .callS _ _ | .bi _ _ | .mt _ _ _ | .fld _ _ _ | .new _ _ _ | .meth _ _ _ _ _ | .rev _ | .isi _ _ | .lc _ _ _ _ _ | .dc _ _ _ _ _ _ => trivial
theorem sndCs (cf : CallF) : ∀ es : Cs, AllC (SndC cf) es
  | .nil => trivial
  | .cons c r => ⟨sndC cf c, sndCs cf r⟩
theorem sndCo (cf : CallF) : ∀ c : Co, OptC cf c
  | .none => trivial
  | .some c => sndC cf c
theorem sndT (cf : CallF) : ∀ t : T, SndT cf t
  | .name i => snd_tname i
  | .tup ts => snd_ttup (sndTs cf ts)
  | .sub o i => snd_tsub (sndC cf o) (sndC cf i)
theorem sndTs (cf : CallF) : ∀ t : Ts, SndTs cf t
  | .nil => snd_tsnil
  | .cons t r => snd_tscons (sndT cf t) (sndTs cf r)
theorem sndI (cf : CallF) : ∀ i : I, SndI cf i
  | .val c => snd_ival (sndC cf c)
  | .range1 a => snd_irange1 (sndC cf a)
  | .range2 a b => snd_irange2 (sndC cf a) (sndC cf b)
  | .enum c => snd_ienum (sndC cf c)
  | .zip a b => snd_izip (sndC cf a) (sndC cf b)
end
end PyE

namespace PyE
open PySem PySem.Spec PyProof.Rows L2
def isComp : Expr → Bool
  | .ListComp _ _ _ _ => true
  | .SetComp _ _ _ _ => true
  | .DictComp _ _ _ _ _ => true
  | _ => false
def isNameE : Expr → Bool
  | .Name _ _ => true
  | _ => false
def swapOff (sc : Scope) (tg v : Expr) : Bool := !isComp v || (match tg with
  | .Name t _ => !(sc.names.lookup t == some .local)
  | _ => true)
def nmsOf (sc : Scope) (line : Nat) (ts : List Expr) : List Str := ts.filterMap fun
    | .Name id pos => if sc.names.lookup id == some .local && pos.line == line then some id else none
    | _ => none
def lineOf (ts : List Expr) : Nat := (ts.head?.map (·.pos.line)).getD 0
def storesOff (sc : Scope) (tg v : Expr) : Bool := match tg, v with
  | .Tuple ts _ _, .Tuple vs _ _ => !(ts.length == 2 || ts.length == 3) || (vs.length != ts.length || ((nmsOf sc (lineOf ts) ts).length != ts.length || (nmsOf sc (lineOf ts) ts).eraseDups.length != (nmsOf sc (lineOf ts) ts).length))
  | .List _ _, _ => false
  | _, _ => true
def parB (Γ : Ct) (t : T) (e : C) (tg v : Expr) : Bool := match t, e, tg, v with
  | .tup (.cons (.name i) (.cons (.name j) .nil)), .tup es, .Tuple [.Name x px, .Name y py] _ _, .Tuple [a, b] _ _ =>
    decide (i ≠ j) && (Γ.sc.names.lookup x == some .local && (Γ.sc.names.lookup y == some .local && (py.line == px.line && (([x, y] : List Str).eraseDups.length == 2 && (!([a, b].all (foldedForSure 8)) && !([a, b].all (constantsAlone 8)))))))
  | _, _, _, _ => false
def parB3 (Γ : Ct) (t : T) (e : C) (tg v : Expr) : Bool := match t, e, tg, v with
  | .tup (.cons (.name i) (.cons (.name j) (.cons (.name l) .nil))), .tup es, .Tuple [.Name x px, .Name y py, .Name z pz] _ _, .Tuple [a, b, c] _ _ =>
    decide (i ≠ j) && decide (i ≠ l) && decide (j ≠ l) && (Γ.sc.names.lookup x == some .local && (Γ.sc.names.lookup y == some .local && (Γ.sc.names.lookup z == some .local && (py.line == px.line && (pz.line == px.line && (([x, y, z] : List Str).eraseDups.length == 3 && (!([a, b, c].all (foldedForSure 8)) && !([a, b, c].all (constantsAlone 8)))))))))
  | _, _, _, _ => false
def unMut : C → C
  | .mut c => c
  | c => c
def lcB (Γ : Ct) (t : T) (e : C) (tg v : Expr) : Bool := match t, unMut e, tg, v with
  | .name _, .lc _ _ _ _ _, .Name y py, .ListComp _ _ scope p => (Γ.sc.names.lookup y == some .local) && (py.line == p.line && !(scope.names.any fun (n, k) => n == y && (k == .local || k == .cell)))
  | _, _, _, _ => false
mutual
def chkS (Γ : Ct) : S → Stmt → Bool
  | .asg t e, st => (match st with
    | .Assign [tg] v _ => chkT Γ t tg && chkE Γ e v && ((swapOff Γ.sc tg v && (storesOff Γ.sc tg v || (parB Γ t e tg v || parB3 Γ t e tg v))) || lcB Γ t e tg v)
    | _ => false)
  | .aug i op e, st => (match st with
    | .AugAssign (.Name x _) o v _ => decide (Γ.N[i]? = some x) && locB Γ.own x && decide (o = bopOf op) && chkE Γ e v
    | _ => false)
  | .expr e, st => (match st with
    | .Expr v _ => chkE Γ e v && !isComp v
    | _ => false)
  | .ret e, st => (match st with
    | .Return (some v) _ => chkE Γ e v
    | _ => false)
  | .retN, st => (match st with
    | .Return none _ => true
    | _ => false)
  | .ife c a b, st => (match st with
    | .If t x y _ => chkE Γ c t && chkSs Γ a x && chkSs Γ b y
    | _ => false)
  | .for_ t it _ body, st => (match st with
    | .For tg iter b [] _ => chkI Γ it tg iter && chkT Γ t tg && chkSs Γ body b
    | _ => false)
  | .fld c o f e, st => (match st with
    | .Assign [.Attribute x f' _] v _ => decide (f' = f) && clsB Γ.cls c f && chkE Γ o x && chkE Γ e v && !isComp v
    | _ => false)
  | .fldaug c o f op e, st => (match st with
    | .AugAssign (.Attribute x f' _) bo v _ => decide (f' = f) && clsB Γ.cls c f && decide (bo = bopOf op) && chkE Γ o x && chkE Γ e v
    | _ => false)
  | .subaug o i op e, st => (match st with
    | .AugAssign (.Subscript x y _) bo v _ => decide (bo = bopOf op) && chkE Γ o x && chkE Γ i y && chkE Γ e v
    | _ => false)
  | .while_ c _ body, st => (match st with
    | .While t b [] _ => chkE Γ c t && chkSs Γ body b
    | _ => false)
  | .try_ body, st => (match st with
    | .Try b (_ :: _) [] [] _ => chkSs Γ body b
    | _ => false)
  | .nope, _ => true
  | .pass, st => (match st with
    | .Pass _ => true
    | .Expr (.Constant (.str _) _ _) _ => true
    | _ => false)
  | .brk, st => (match st with
    | .Break _ => true
    | _ => false)
  | .cont, st => (match st with
    | .Continue _ => true
    | _ => false)
def chkSs (Γ : Ct) : Ss → List Stmt → Bool
  | .nil, [] => true
  | .cons s r, st :: sts => chkS Γ s st && chkSs Γ r sts
  | _, _ => false
end
def EndS (K : PySem.W.Frag) (H : Hp) (z : Z) (f : Fl) (en' : En) (st' : Store) (D : Ends) : Prop := match f with
  | .nx => ∀ H' z' σ', z'.st = st' → Ok K H' z' → To H z H' z' → EnvR K z' en' σ' → D.nx σ' H'
  | .brk => ∀ H' z' σ', z'.st = st' → Ok K H' z' → To H z H' z' → EnvR K z' en' σ' → D.bk σ' H'
  | .ct => ∀ H' z' σ', z'.st = st' → Ok K H' z' → To H z H' z' → EnvR K z' en' σ' → D.ct σ' H'
  | .rt d => ∀ H' z' v, z'.st = st' → Ok K H' z' → To H z H' z' → DVz K z' d v → D.rt v H'
theorem EndS.trans {K : PySem.W.Frag} {H H1 : Hp} {z z1 : Z} {f : Fl} {en' : En} {st' : Store} {D : Ends} (a : To H z H1 z1) (q : EndS K H z f en' st' D) : EndS K H1 z1 f en' st' D := by
  cases f <;> exact fun H' z' w e ok t => q H' z' w e ok (a.trans t)
def tS (K : PySem.W.Frag) (cf : CallF) (s : S) : TS := fun D σ H => ∃ z en f en' st', Ok K H z ∧ EnvR K z en σ ∧ evS cf s en z.st = .ok (f, en') st' ∧ EndS K H z f en' st' D
def tSs (K : PySem.W.Frag) (cf : CallF) (s : Ss) : TS := fun D σ H => ∃ z en f en' st', Ok K H z ∧ EnvR K z en σ ∧ evSs cf s en z.st = .ok (f, en') st' ∧ EndS K H z f en' st' D
section
variable {X : Cx} {cf : CallF} {Γ : Ct}
theorem swap_off {tg v : Expr} {l : Nat} {env : Env} (h : swapOff env.scope tg v = true) : swapsWithSole [tg] v l env = pure false := by
  have nm : ∀ (t : Str) (pos : Pos) (a b c : Bool), (!(env.scope.names.lookup t == some .local)) = true → (pure (a && env.kindOf t == some .local && b && c) : Sem Bool) = pure false := fun t pos a b c h => by
    have hk : (env.kindOf t == some .local) = false := by
      rw [Bool.not_eq_true'] at h
      exact h
    rw [hk]; simp
  cases v with
  | ListComp el gs s p =>
    cases tg <;> first | rfl | (simp [swapOff, isComp] at h; done) | skip
    rename_i t pos
    exact nm t pos _ _ _ (by simpa [swapOff, isComp] using h)
  | SetComp el gs s p =>
    cases tg <;> first | rfl | (simp [swapOff, isComp] at h; done) | skip
    rename_i t pos
    exact nm t pos _ _ _ (by simpa [swapOff, isComp] using h)
  | DictComp k el gs s p =>
    cases tg <;> first | rfl | (simp [swapOff, isComp] at h; done) | skip
    rename_i t pos
    exact nm t pos _ _ _ (by simpa [swapOff, isComp] using h)
  | _ => rfl
theorem swap_none {v : Expr} {l : Nat} {env : Env} (h : isComp v = false) : swapsWith v none l env = pure false := by
  cases v <;> first | rfl | (simp [isComp] at h; done)
theorem stores_off {tg v : Expr} {env : Env} (hk : env.scope.kind = .function) (pl : plainE tg = true) (hv : ∀ vs k p, v = .Tuple vs k p → vs.all plainE = true) (h : storesOff env.scope tg v = true) : swappedStores [tg] v env = pure none := by
  have hb : env.blockKind = .function := by unfold Env.blockKind; rw [hk]; rfl
  cases tg <;> first | (cases pl; done) | skip
  case Tuple ts k p =>
    cases v <;> first | rfl | skip
    rename_i vs k2 p2
    simp only [storesOff] at h
    unfold swappedStores
    dsimp only
    by_cases c1 : (!(ts.length == 2 || ts.length == 3) || vs.length != ts.length || env.blockKind != .function) = true
    · rw [if_pos c1]
    · rw [if_neg c1, if_neg (by
        rw [Bool.not_eq_true, List.any_eq_false]
        intro e he
        have := List.all_eq_true.mp (hv vs k2 p2 rfl) e he
        cases e <;> first | (cases this; done) | simp)]
      rw [if_pos]
      simp only [Bool.or_eq_true] at h c1
      rcases h with h | h | h | h
      · exact absurd (.inl (.inl h)) c1
      · exact absurd (.inl (.inr h)) c1
      · exact (Bool.or_eq_true _ _).mpr (.inl h)
      · exact (Bool.or_eq_true _ _).mpr (.inr h)
  all_goals first | (simp [storesOff] at h; done) | rfl | (cases v <;> rfl)
theorem stores_par {x y : Str} {px py pt pt2 : Pos} {a b : Expr} {kt k2 : Nat} {env : Env} (hk : env.scope.kind = .function) (pl : [a, b].all plainE = true) (hx : env.scope.names.lookup x = some .local) (hy : env.scope.names.lookup y = some .local) (hl : (py.line == px.line) = true)
    (hd : (([x, y] : List Str).eraseDups.length == 2) = true) (h1 : [a, b].all (foldedForSure 8) = false) (h2 : [a, b].all (constantsAlone 8) = false) :
    swappedStores [.Tuple [.Name x px, .Name y py] kt pt] (.Tuple [a, b] k2 pt2) env = pure (some [x, y]) := by
  have hb : env.blockKind = .function := by unfold Env.blockKind; rw [hk]; rfl
  have kx : env.kindOf x = some .local := hx
  have ky : env.kindOf y = some .local := hy
  have hl : py.line = px.line := eq_of_beq hl
  unfold swappedStores
  dsimp only
  rw [if_neg (by rw [hb]; simp), if_neg (by
    rw [Bool.not_eq_true, List.any_eq_false]
    intro e he
    have := List.all_eq_true.mp pl e he
    cases e <;> first | (cases this; done) | simp)]
  have e1 : ([Expr.Name x px, Expr.Name y py].filterMap fun
    | .Name id pos => if env.kindOf id == some .local && pos.line == (([Expr.Name x px, Expr.Name y py].head?).map (·.pos.line)).getD 0 then some id else none
    | _ => none) = [x, y] := by
    simp [List.filterMap, kx, ky, hl, Expr.pos]
  have hd := eq_of_beq hd
  rw [if_neg (by erw [e1]; simp [hd]), h1, h2]
  simp only [Bool.false_eq_true, if_false]
  erw [e1]
theorem stores_par3 {x y w : Str} {px py pw pt pt2 : Pos} {a b c : Expr} {kt k2 : Nat} {env : Env} (hk : env.scope.kind = .function) (pl : [a, b, c].all plainE = true) (hx : env.scope.names.lookup x = some .local) (hy : env.scope.names.lookup y = some .local) (hw : env.scope.names.lookup w = some .local) (hl : (py.line == px.line) = true) (hl2 : (pw.line == px.line) = true)
    (hd : (([x, y, w] : List Str).eraseDups.length == 3) = true) (h1 : [a, b, c].all (foldedForSure 8) = false) (h2 : [a, b, c].all (constantsAlone 8) = false) :
    swappedStores [.Tuple [.Name x px, .Name y py, .Name w pw] kt pt] (.Tuple [a, b, c] k2 pt2) env = pure (some [x, y, w]) := by
  have hb : env.blockKind = .function := by unfold Env.blockKind; rw [hk]; rfl
  have kx : env.kindOf x = some .local := hx
  have ky : env.kindOf y = some .local := hy
  have kw : env.kindOf w = some .local := hw
  have hl : py.line = px.line := eq_of_beq hl
  have hl2 : pw.line = px.line := eq_of_beq hl2
  unfold swappedStores
  dsimp only
  rw [if_neg (by rw [hb]; simp), if_neg (by
    rw [Bool.not_eq_true, List.any_eq_false]
    intro e he
    have := List.all_eq_true.mp pl e he
    cases e <;> first | (cases this; done) | simp)]
  have e1 : ([Expr.Name x px, Expr.Name y py, Expr.Name w pw].filterMap fun
    | .Name id pos => if env.kindOf id == some .local && pos.line == (([Expr.Name x px, Expr.Name y py, Expr.Name w pw].head?).map (·.pos.line)).getD 0 then some id else none
    | _ => none) = [x, y, w] := by
    simp [List.filterMap, kx, ky, kw, hl, hl2, Expr.pos]
  have hd := eq_of_beq hd
  rw [if_neg (by erw [e1]; simp [hd]), h1, h2]
  simp only [Bool.false_eq_true, if_false]
  erw [e1]
theorem EnvR.wipeE {K : PySem.W.Frag} {z : Z} {en : En} {σ : L2.St} (h : EnvR K z en σ) : ∀ vs : List Nat, EnvR K z (wipe en vs) σ
  | [] => h
  | v :: vs => by
    have ih := EnvR.wipeE h vs
    unfold wipe
    refine ⟨by rw [List.length_set]; exact ih.1, fun j d e => ?_⟩
    by_cases hj : v = j
    · subst hj
      by_cases hl : v < (wipe en vs).length
      · rw [List.getElem?_set_self hl] at e; cases e
      · rw [List.getElem?_eq_none (by rw [List.length_set]; omega)] at e; cases e
    · rw [List.getElem?_set_ne hj] at e
      exact ih.2 j d e
theorem asg_imp {K : PySem.W.Frag} {t : T} {e : C} {D : Ends} {σ : L2.St} {H : Hp} (h : tS K cf (.asg t e) D σ H) : tE K false cf e σ H (fun x H1 => gT K cf t x σ H1 D.nx) := by
  obtain ⟨z, en, f, en', st', ok, er, ev, q⟩ := h
  simp only [evS] at ev
  obtain ⟨x, s1, e1, ev⟩ := bind_ok ev
  obtain ⟨en1, s2, e2, ev⟩ := bind_ok ev
  cases ev
  refine ⟨z, en, x, s1, ok, er, e1, fun H1 z1 v hs1 ok1 t1 dv _ => ?_⟩
  subst hs1
  exact ⟨z1, en, x, en', st', ok1, ok.env t1 er, dv, e2, fun H2 z2 σ2 hs2 ok2 t2 er2 _ => q H2 z2 σ2 hs2 ok2 (t1.trans t2) er2⟩
theorem gT_name {K : PySem.W.Frag} {i : Nat} {v : V} {σ : L2.St} {H : Hp} {Q : L2.St → Hp → Prop} (h : gT K cf (.name i) v σ H Q) : gName i v σ H Q := by
  obtain ⟨z, en, d, en', st', ok, er, dv, ev, q⟩ := h
  simp only [asT] at ev
  cases ev
  exact q H z _ rfl ok .refl (er.set dv i) fun vs hv => wipe_set (hv i (by simp [slotsT]))
theorem par_imp {K : PySem.W.Frag} {i j : Nat} {es : Cs} {D : Ends} {σ : L2.St} {H : Hp} (h : tS K cf (.asg (.tup (.cons (.name i) (.cons (.name j) .nil))) (.tup es)) D σ H) : tPar i j (tEs K cf es) D σ H := by
  obtain ⟨z, en, f, en', st', ok, er, ev, q⟩ := h
  simp only [evS, evE] at ev
  obtain ⟨x, s1, e1, ev⟩ := bind_ok ev
  obtain ⟨xs, s0, e0, e1⟩ := bind_ok e1
  obtain ⟨g, e1⟩ := guard_ok e1
  cases e1
  obtain ⟨en1, s2, e2, ev⟩ := bind_ok ev
  cases ev
  simp only [asT] at e2
  have e2 : asTs cf (.cons (.name i) (.cons (.name j) .nil)) xs en s1 = .ok en' st' := e2
  refine ⟨z, en, xs, s1, ok, er, e0, fun H1 z1 vs hs1 ok1 t1 dv => ?_⟩
  subst hs1
  cases dv with
  | nil => simp only [asTs] at e2; cases e2
  | cons d1 dv =>
    cases dv with
    | nil => simp only [asTs, asT] at e2; cases e2
    | cons d2 dv =>
      cases dv with
      | cons _ _ => simp only [asTs, asT] at e2; cases e2
      | nil =>
        simp only [asTs, asT] at e2
        cases e2
        exact ⟨_, _, rfl, q H1 z1 _ rfl ok1 t1 (((ok.env t1 er).set d1 i).set d2 j)⟩
theorem par3_imp {K : PySem.W.Frag} {i j l : Nat} {es : Cs} {D : Ends} {σ : L2.St} {H : Hp} (h : tS K cf (.asg (.tup (.cons (.name i) (.cons (.name j) (.cons (.name l) .nil)))) (.tup es)) D σ H) : tPar3 i j l (tEs K cf es) D σ H := by
  obtain ⟨z, en, f, en', st', ok, er, ev, q⟩ := h
  simp only [evS, evE] at ev
  obtain ⟨x, s1, e1, ev⟩ := bind_ok ev
  obtain ⟨xs, s0, e0, e1⟩ := bind_ok e1
  obtain ⟨g, e1⟩ := guard_ok e1
  cases e1
  obtain ⟨en1, s2, e2, ev⟩ := bind_ok ev
  cases ev
  simp only [asT] at e2
  have e2 : asTs cf (.cons (.name i) (.cons (.name j) (.cons (.name l) .nil))) xs en s1 = .ok en' st' := e2
  refine ⟨z, en, xs, s1, ok, er, e0, fun H1 z1 vs hs1 ok1 t1 dv => ?_⟩
  subst hs1
  cases dv with
  | nil => simp only [asTs] at e2; cases e2
  | cons d1 dv =>
    cases dv with
    | nil => simp only [asTs, asT] at e2; cases e2
    | cons d2 dv =>
      cases dv with
      | nil => simp only [asTs, asT] at e2; cases e2
      | cons d3 dv =>
        cases dv with
        | cons _ _ => simp only [asTs, asT] at e2; cases e2
        | nil =>
          simp only [asTs, asT] at e2
          cases e2
          exact ⟨_, _, _, rfl, q H1 z1 _ rfl ok1 t1 ((((ok.env t1 er).set d1 i).set d2 j).set d3 l)⟩
def SndS (cf : CallF) (s : S) : Prop := ∀ Γ X st, XOk Γ cf X → X.env.scope.kind = .function → PassesOwn (model X.prog X.w) X.A X.env X.xe → chkS Γ s st = true → PS X st (tS X.K cf s)
def SndSs (cf : CallF) (s : Ss) : Prop := ∀ Γ X st, XOk Γ cf X → X.env.scope.kind = .function → PassesOwn (model X.prog X.w) X.A X.env X.xe → chkSs Γ s st = true → PSs X st (tSs X.K cf s)
theorem chk_tup_plain {es : C} {vs : List Expr} {k : Nat} {p : Pos} (h : chkE Γ es (.Tuple vs k p) = true) : vs.all plainE = true := by
  have : ∀ c : C, chkE Γ c (.Tuple vs k p) = true → vs.all plainE = true := by
    intro c
    cases c <;> intro h <;> first | (simp only [chkE] at h; exact chkEs_plain h) | (simp [chkE] at h; done) | skip
    all_goals (simp only [chkE, Bool.and_eq_true] at h)
    rename_i c
    obtain ⟨h0, h⟩ := h
    cases c <;> first | (simp [chkE] at h; done) | (simp [freC] at h0; done)
  exact this es h
theorem snd_asg {t : T} {e : C} : SndS cf (.asg t e) := fun Γ X st XO hk hp h => by
  simp only [chkS] at h
  split at h
  · rename_i tg v pos
    simp only [Bool.and_eq_true] at h
    obtain ⟨⟨h1, h2⟩, h3⟩ := h
    obtain ⟨pg, ptg⟩ := sndT cf t Γ X tg XO h1
    have pe := (sndC cf e Γ X v XO h2).pe0
    rw [Bool.or_eq_true] at h3
    rcases h3 with h3 | h3
    · rw [Bool.and_eq_true] at h3
      obtain ⟨h4, h5⟩ := h3
      rw [Bool.or_eq_true] at h5
      rcases h5 with h5 | h5
      · exact (ps_asg pe pg (swap_off (by rw [XO.sc]; exact h4)) (stores_off hk ptg (fun vs k p e => by subst e; exact chk_tup_plain h2) (by rw [XO.sc]; exact h5)) (by rw [plain_assign ptg]; rfl)).imp fun D σ H q => asg_imp q
      · rw [Bool.or_eq_true] at h5
        rcases h5 with h5 | h5
        · unfold parB at h5
          split at h5
          · rename_i i j es x px y py kt pt a b k2 pt2
            simp only [Bool.and_eq_true, Bool.not_eq_true'] at h5
            obtain ⟨a1, a2, a3, a4, a5, a6, a7⟩ := h5
            simp only [chkT, chkTs, Bool.and_eq_true] at h1
            simp only [chkE] at h2
            have hx : X.env.scope.names.lookup x = some .local := by rw [XO.sc]; exact eq_of_beq a2
            have hy : X.env.scope.names.lookup y = some .local := by rw [XO.sc]; exact eq_of_beq a3
            exact (ps_par XO.calm XO.nd (by rw [XO.N]; exact of_decide_eq_true h1.1.1) (by rw [XO.N]; exact of_decide_eq_true h1.2.1.1) (of_decide_eq_true a1) hx hy (pa_of XO (sndCs cf es) h2) (stores_par hk (chkEs_plain h2) hx hy a4 a5 a6 a7) (swap_off (by rw [XO.sc]; exact h4))).imp fun D σ H q => par_imp q
          · cases h5
        · unfold parB3 at h5
          split at h5
          · rename_i i j l es x px y py w pw kt pt a b c k2 pt2
            simp only [Bool.and_eq_true, Bool.not_eq_true'] at h5
            obtain ⟨⟨⟨a1, b1⟩, b2⟩, a2, a3, b3, a4, b4, a5, a6, a7⟩ := h5
            simp only [chkT, chkTs, Bool.and_eq_true] at h1
            simp only [chkE] at h2
            have hx : X.env.scope.names.lookup x = some .local := by rw [XO.sc]; exact eq_of_beq a2
            have hy : X.env.scope.names.lookup y = some .local := by rw [XO.sc]; exact eq_of_beq a3
            have hw : X.env.scope.names.lookup w = some .local := by rw [XO.sc]; exact eq_of_beq b3
            exact (ps_par3 XO.calm XO.nd (by rw [XO.N]; exact of_decide_eq_true h1.1.1) (by rw [XO.N]; exact of_decide_eq_true h1.2.1.1) (by rw [XO.N]; exact of_decide_eq_true h1.2.2.1.1) (of_decide_eq_true a1) (of_decide_eq_true b1) (of_decide_eq_true b2) hx hy hw (pa_of XO (sndCs cf es) h2) (stores_par3 hk (chkEs_plain h2) hx hy hw a4 b4 a5 a6 a7) (swap_off (by rw [XO.sc]; exact h4))).imp fun D σ H q => par3_imp q
          · cases h5
    · unfold lcB at h3
      split at h3
      · rename_i i own t2 it cond elt y py el gs scope p hu
        simp only [Bool.and_eq_true, Bool.not_eq_true'] at h3
        obtain ⟨a1, a2, a3⟩ := h3
        have hy : X.env.scope.names.lookup y = some .local := by rw [XO.sc]; exact eq_of_beq a1
        simp only [chkT, Bool.and_eq_true] at h1
        have fin : chkE Γ (.lc own t2 it cond elt) (.ListComp el gs scope p) = true ∧ ∀ D σ H, tS X.K cf (.asg (.name i) e) D σ H → tE X.K true cf (.lc own t2 it cond elt) σ H (fun x H1 => gName i x σ H1 D.nx) := by
          have go : ∀ {c : C} {D : Ends} {σ : L2.St} {H : Hp} {fr : Bool}, tE X.K fr cf c σ H (fun x H1 => gT X.K cf (.name i) x σ H1 D.nx) → tE X.K fr cf c σ H (fun x H1 => gName i x σ H1 D.nx) := fun {c D σ H fr} ⟨z, en, d, st', ok, er, ev, q⟩ => ⟨z, en, d, st', ok, er, ev, fun H' z' v hs ok' t' dv f => gT_name (q H' z' v hs ok' t' dv f)⟩
          cases e with
          | lc o t3 i3 c3 e3 =>
            cases hu
            exact ⟨h2, fun D σ H q => go (tE_weak (asg_imp q))⟩
          | «mut» c =>
            have hu : c = .lc own t2 it cond elt := hu
            subst hu
            have h2 : (freC (.lc own t2 it cond elt) && chkE Γ (.lc own t2 it cond elt) (.ListComp el gs scope p)) = true := by
              rw [chkE] at h2; exact h2
            rw [Bool.and_eq_true] at h2
            exact ⟨h2.2, fun D σ H q => go (mut_imp (asg_imp q))⟩
          | _ => cases hu
        obtain ⟨h2, fin⟩ := fin
        simp only [chkE] at h2
        split at h2
        · rename_i el' tg2 iter ifs ia scope' pos' heq
          cases heq
          simp only [Bool.and_eq_true] at h2
          obtain ⟨⟨⟨⟨⟨⟨⟨g0, g1⟩, g2⟩, g3⟩, g4⟩, g5⟩, g6⟩, g7⟩ := h2
          have g0 := of_decide_eq_true g0
          subst g0
          have lp := lc_parts XO (sndT cf t2) (sndI cf it) (sndCo cf cond) (sndC cf elt) g1 g2 g3 g4 g5 g6 g7
          have := ps_setLc (spos := pos) (py := py) (pos := p) XO.calm XO.nd (by rw [XO.N]; exact of_decide_eq_true h1.1) hy (sw_true hk hy a2 a3) lp.pi lp.blk lp.pg lp.pt lp.pe lp.fold
          rw [lp.eo] at this
          exact this.imp fun D σ H q => lc_imp lp.sub (fin D σ H q)
        · cases h2
      · cases h3
  · cases h
end
end PyE

namespace PyE
open PySem PySem.Spec PyProof.Rows L2
section
variable {X : Cx} {cf : CallF} {Γ : Ct}
theorem aug_ok (op : BOp) : PIp X (bopOf op) (rD2 X.K false (augD op)) := by
  intro pins s σ H x y v u Q I rx ry h
  obtain ⟨z, dx, dy, d, st', ok, vx, vy, he, q⟩ := h
  unfold augD at he
  split at he
  · rename_i i j
    cases vx
    cases vy
    split at he
    · cases he
    · rename_i hop
      have v0 : ∀ k : Int, view z.st (.int k) = .int k := fun _ => rfl
      cases op <;> first | exact absurd rfl hop | skip
      · cases he; exact iop_add pins s σ H _ _ v u Q I rx ry ⟨i, j, rfl, rfl, q.same ok (.int _)⟩
      · cases he; exact iop_sub pins s σ H _ _ v u Q I rx ry ⟨i, j, rfl, rfl, q.same ok (.int _)⟩
      · have he : guardB (mulOk i j) (.ok (.int (i * j)) z.st) = .ok d st' := he
        obtain ⟨g, he⟩ := guard_ok he
        cases he; exact iop_mul pins s σ H _ _ v u Q I rx ry ⟨i, j, rfl, rfl, mulOk_C g, q.same ok (.int _)⟩
      · have he : guardB (decide (0 < j) && decide (j < 1073741824)) (.ok (.int (i / j)) z.st) = .ok d st' := he
        obtain ⟨g, he⟩ := guard_ok he
        simp only [Bool.and_eq_true, decide_eq_true_eq] at g
        cases he; exact iop_fdiv pins s σ H _ _ v u Q I rx ry ⟨i, j, rfl, rfl, g, q.same ok (.int _)⟩
      · have he : guardB (decide (0 < j)) (.ok (.int (i % j)) z.st) = .ok d st' := he
        obtain ⟨g, he⟩ := guard_ok he
        cases he; exact iop_mod pins s σ H _ _ v u Q I rx ry ⟨i, j, rfl, rfl, of_decide_eq_true g, q.same ok (.int _)⟩
      · cases he; exact iop_xor pins s σ H _ _ v u Q I rx ry ⟨i, j, rfl, rfl, q.same ok (.int _)⟩
  · rename_i i j
    cases vx
    cases vy
    cases op <;> first | (cases he; done) | skip
    have he : guardB (decide (i.length + j.length ≤ line)) (.ok (.str (i ++ j)) z.st) = .ok d st' := he
    obtain ⟨g, he⟩ := guard_ok he
    cases he
    exact iop_add_str pins s σ H _ _ v u Q I rx ry ⟨i, j, rfl, rfl, by rw [← line_eq]; exact of_decide_eq_true g, q.same ok (.str _)⟩
  · cases he
theorem snd_aug {i : Nat} {op : BOp} {e : C} : SndS cf (.aug i op e) := fun Γ X st XO hk hp h => by
  simp only [chkS] at h
  split at h
  · rename_i x px o v pos
    simp only [Bool.and_eq_true] at h
    obtain ⟨⟨⟨h1, h2⟩, h3⟩, h4⟩ := h
    have h3 := of_decide_eq_true h3
    subst h3
    obtain ⟨l1, l2⟩ := XO.loc _ h2
    refine (ps_aug XO.nd (by rw [XO.N]; exact of_decide_eq_true h1) l1 (sndC cf e Γ X v XO h4).pe0 (aug_ok op) l2).imp fun D σ H ⟨z, en, f, en', st', ok, er, ev, q⟩ => ?_
    simp only [evS] at ev
    split at ev
    · rename_i d hd
      obtain ⟨y, s1, e1, ev⟩ := bind_ok ev
      obtain ⟨w, s2, e2, ev⟩ := bind_ok ev
      cases ev
      obtain ⟨vx, g1, g2⟩ := er.2 i _ hd
      refine ⟨vx, g1, z, en, y, s1, ok, er, e1, fun H1 z1 v1 hs1 ok1 t1 dv1 _ => ?_⟩
      subst hs1
      refine ⟨z1, d, y, w, st', ok1, ok.dv t1 g2, dv1, e2, fun H2 z2 v2 hs2 ok2 t2 dv2 _ => ?_⟩
      exact q H2 z2 _ hs2 ok2 (t1.trans t2) ((ok.env (t1.trans t2) er).set dv2 i)
    · cases ev
  · cases h
theorem snd_expr {e : C} : SndS cf (.expr e) := fun Γ X st XO hk hp h => by
  simp only [chkS] at h
  split at h
  · rename_i v pos
    simp only [Bool.and_eq_true, Bool.not_eq_true'] at h
    refine (ps_expr (sndC cf e Γ X v XO h.1).pe0 (swap_none h.2)).imp fun D σ H ⟨z, en, f, en', st', ok, er, ev, q⟩ => ?_
    simp only [evS] at ev
    obtain ⟨x, s1, e1, ev⟩ := bind_ok ev
    cases ev
    exact ⟨z, en, x, st', ok, er, e1, fun H' z' v hs ok' t _ _ => q H' z' σ hs ok' t (ok.env t er)⟩
  · cases h
theorem snd_ret {e : C} : SndS cf (.ret e) := fun Γ X st XO hk hp h => by
  simp only [chkS] at h
  split at h
  · rename_i v pos
    refine (ps_ret (sndC cf e Γ X v XO h).pe0).imp fun D σ H ⟨z, en, f, en', st', ok, er, ev, q⟩ => ?_
    simp only [evS] at ev
    obtain ⟨x, s1, e1, ev⟩ := bind_ok ev
    cases ev
    exact ⟨z, en, x, st', ok, er, e1, fun H' z' v hs ok' t dv _ => q H' z' v hs ok' t dv⟩
  · cases h
theorem snd_retN : SndS cf .retN := fun Γ X st XO hk hp h => by
  simp only [chkS] at h
  split at h
  · refine ps_retN.imp fun D σ H ⟨z, en, f, en', st', ok, er, ev, q⟩ => ?_
    simp only [evS] at ev
    cases ev
    exact q H z .non rfl ok .refl .non
  · cases h
theorem snd_pass : SndS cf .pass := fun Γ X st XO hk hp h => by
  have fin : ∀ D σ H, tS X.K cf .pass D σ H → tNext D σ H := fun D σ H ⟨z, en, f, en', st', ok, er, ev, q⟩ => by
    simp only [evS] at ev
    cases ev
    exact q H z σ rfl ok .refl er
  simp only [chkS] at h
  split at h
  · exact ps_pass.imp fin
  · exact ps_doc.imp fin
  · cases h
theorem snd_brk : SndS cf .brk := fun Γ X st XO hk hp h => by
  simp only [chkS] at h
  split at h
  · refine ps_break.imp fun D σ H ⟨z, en, f, en', st', ok, er, ev, q⟩ => ?_
    simp only [evS] at ev
    cases ev
    exact q H z σ rfl ok .refl er
  · cases h
theorem snd_cont : SndS cf .cont := fun Γ X st XO hk hp h => by
  simp only [chkS] at h
  split at h
  · refine ps_continue.imp fun D σ H ⟨z, en, f, en', st', ok, er, ev, q⟩ => ?_
    simp only [evS] at ev
    cases ev
    exact q H z σ rfl ok .refl er
  · cases h
theorem snd_if {c : C} {a b : Ss} (ha : SndSs cf a) (hb : SndSs cf b) : SndS cf (.ife c a b) := fun Γ X st XO hk hp h => by
  simp only [chkS] at h
  split at h
  · simp only [Bool.and_eq_true] at h
    obtain ⟨⟨h1, h2⟩, h3⟩ := h
    refine (ps_if (sndC cf c Γ X _ XO h1).pt (ha Γ X _ XO hk hp h2) (hb Γ X _ XO hk hp h3)).imp fun D σ H ⟨z, en, f, en', st', ok, er, ev, q⟩ => ?_
    simp only [evS] at ev
    obtain ⟨x, s1, e1, ev⟩ := bind_ok ev
    split at ev
    · rename_i ht
      refine ⟨z, en, x, s1, true, ok, er, e1, ht, fun H1 z1 hs1 ok1 t1 => ?_⟩
      subst hs1
      rw [if_pos rfl]
      exact ⟨z1, en, f, en', st', ok1, ok.env t1 er, ev, q.trans t1⟩
    · rename_i ht
      refine ⟨z, en, x, s1, false, ok, er, e1, ht, fun H1 z1 hs1 ok1 t1 => ?_⟩
      subst hs1
      rw [if_neg (by decide)]
      exact ⟨z1, en, f, en', st', ok1, ok.env t1 er, ev, q.trans t1⟩
    · cases ev
  · cases h
mutual
theorem DV.trim {H : Hp} {K : PySem.W.Frag} {μ : Nat → Addr} {n m : Nat} (hm : n ≤ m) : ∀ {d : D} {v : V}, DV H K μ m d v → d.bel n = true → DV H K μ n d v
  | _, _, .non, _ => .non
  | _, _, .bl b, _ => .bl b
  | _, _, .int b, _ => .int b
  | _, _, .str b, _ => .str b
  | _, _, .tup h1 h2, h => .tup h1 (DVs.trim hm h2 (by simpa only [D.bel] using h))
  | _, _, .lst h1 h2 h3, h => .lst h1 (fun i hi => h2 i (Nat.lt_of_lt_of_le hi hm)) (DVs.trim hm h3 (by simpa only [D.bel] using h))
  | _, _, .dct h1 h2 h3, h => .dct h1 (fun i hi => h2 i (Nat.lt_of_lt_of_le hi hm)) (DKs.trim hm h3 (by simpa only [D.bel] using h))
  | _, _, .ref (k := k) _, h => .ref (by simpa only [D.bel, decide_eq_true_eq] using h)
theorem DVs.trim {H : Hp} {K : PySem.W.Frag} {μ : Nat → Addr} {n m : Nat} (hm : n ≤ m) : ∀ {d : List D} {v : List V}, DVs H K μ m d v → D.belL n d = true → DVs H K μ n d v
  | _, _, .nil, _ => .nil
  | _, _, .cons h t, g => by
    simp only [D.belL, Bool.and_eq_true] at g
    exact .cons (DV.trim hm h g.1) (DVs.trim hm t g.2)
theorem DKs.trim {H : Hp} {K : PySem.W.Frag} {μ : Nat → Addr} {n m : Nat} (hm : n ≤ m) : ∀ {d : List D} {v : List (Key × V)}, DKs H K μ m d v → D.belL n d = true → DKs H K μ n d v
  | _, _, .nil, _ => .nil
  | _, _, .cons h t, g => by
    simp only [D.belL, D.bel, Bool.and_eq_true] at g
    exact .cons (DV.trim hm h g.1.2.1) (DKs.trim hm t g.2)
end
theorem DFs.trim {H : Hp} {K : PySem.W.Frag} {μ : Nat → Addr} {n m : Nat} (hm : n ≤ m) : ∀ {d : List D} {v : List (Str × V)}, DFs H K μ m d v → D.belL n d = true → DFs H K μ n d v
  | _, _, .nil, _ => .nil
  | _, _, .cons h t, g => by
    simp only [D.belL, D.bel, Bool.and_eq_true] at g
    exact .cons (DV.trim hm h g.1.2.1) (DFs.trim hm t g.2)
theorem CellOk.trim {H : Hp} {K : PySem.W.Frag} {μ : Nat → Addr} {n m : Nat} (hm : n ≤ m) {c : D} {a : Addr} (h : CellOk H K μ m c a) (g : c.bel n = true) : CellOk H K μ n c a := by
  cases c with
  | lst xs => obtain ⟨vs, h1, h2⟩ := h; exact ⟨vs, h1, h2.trim hm (by simpa only [D.bel] using g)⟩
  | dct xs => obtain ⟨vs, h1, h2⟩ := h; exact ⟨vs, h1, h2.trim hm (by simpa only [D.bel] using g)⟩
  | fn c xs => obtain ⟨dx, vs, h1, h2⟩ := h; exact ⟨dx, vs, h1, h2.trim hm (by simpa only [D.bel] using g)⟩
  | _ => exact h.elim
/-- cells that nobody names are forgotten -/
theorem trim_ok {K : PySem.W.Frag} {H H' : Hp} {z z' : Z} {en : En} {σ : L2.St} (ok : Ok K H' z') (t : To H z H' z') (er : EnvR K z' en σ) : ∃ z2 : Z, z2.st = trim z.n en z'.st ∧ Ok K H' z2 ∧ To H z H' z2 ∧ EnvR K z2 en σ := by
  unfold trim
  split
  · rename_i hg
    simp only [Bool.and_eq_true] at hg
    obtain ⟨g1, g2⟩ := hg
    have hle : z.n ≤ z'.n := t.ext.le
    have hl : (z'.st.take z.n).length = z.n := by rw [List.length_take]; exact Nat.min_eq_left hle
    refine ⟨⟨z'.he, z'.mu, z'.st.take z.n⟩, rfl, ⟨ok.sub, ⟨fun i j hi hj => ?_, fun i c e => ?_⟩⟩, ⟨?_, t.hid, t.there⟩, er.1, fun i d e => ?_⟩
    · rw [hl] at hi hj
      exact ok.sim.inj i j (Nat.lt_of_lt_of_le hi hle) (Nat.lt_of_lt_of_le hj hle)
    · have e : (z'.st.take z.n)[i]? = some c := e
      have hi := (List.getElem?_eq_some_iff.mp e).1
      have gc := List.all_eq_true.mp g2 c (List.mem_of_getElem? e)
      rw [hl] at hi
      rw [List.getElem?_take_of_lt hi] at e
      show CellOk z'.he K z'.mu (z'.st.take z.n).length c (z'.mu i)
      rw [hl]
      exact (ok.sim.cell i c e).trim hle gc
    · show Ext z.he z.mu z.n z'.he z'.mu (z'.st.take z.n).length
      rw [hl]
      exact ⟨Nat.le_refl _, t.ext.mu, fun i h1 h2 => absurd h2 (Nat.not_lt.mpr h1), t.ext.keep, t.ext.there⟩
    · obtain ⟨v, h1, h2⟩ := er.2 i d e
      have gd := List.all_eq_true.mp g1 (some d) (List.mem_of_getElem? e)
      refine ⟨v, h1, ?_⟩
      show DV z'.he K z'.mu (z'.st.take z.n).length d v
      rw [hl]
      exact h2.trim hle gd
  · exact ⟨z', rfl, ok, t, er⟩
theorem held_trim {g : Guard} {st0 st : Store} {en : En} (h0 : held g st0 = true) (h : held g st = true) : held g (trim st0.length en st) = true := by
  unfold trim
  split
  · unfold held at h0 h ⊢
    rw [List.all_eq_true] at h0 h ⊢
    intro q hq
    have a := h0 q hq
    have b := h q hq
    split at a
    · rename_i c hc
      have hlt := (List.getElem?_eq_some_iff.mp hc).1
      rw [List.getElem?_take_of_lt hlt]
      exact b
    · cases a
  · exact h
theorem for_imp {K : PySem.W.Frag} {t : T} {it : I} {ws : List Nat} {body : Ss} {D : Ends} {σ : L2.St} {H : Hp} (h : tS K cf (.for_ t it ws body) D σ H) : tFor (iT K cf it) (gT K cf t) (tSs K cf body) D σ H := by
  obtain ⟨z, en, f, en', st', ok, er, ev, q⟩ := h
  simp only [evS] at ev
  obtain ⟨p, s1, e1, ev⟩ := bind_ok ev
  have hg0 := evI_held e1
  refine ⟨z, en, p, s1, ok, er, e1, fun H1 z1 J hs1 ok1 t1 walk => ?_⟩
  subst hs1
  let P : Nat → L2.St → Hp → Prop := fun i σn Hn => ∃ zn enn, Ok K Hn zn ∧ To H1 z1 Hn zn ∧ EnvR K zn enn σn ∧ held p.2 zn.st = true ∧ forR (asT cf t) (evSs cf body) ws z1.n p.2 (p.1.drop i) enn zn.st = .ok (f, en') st'
  refine ⟨fun i m σn Hn => m = p.1.length - i ∧ i ≤ p.1.length ∧ P i σn Hn, ⟨_, rfl, Nat.zero_le _, z1, en, ok1, .refl, ok.env t1 er, hg0, ev⟩, ?_⟩
  rintro i m σn Hn ⟨rfl, hi, zn, enn, okn, tn, ern, hgn, fl⟩
  by_cases hlt : i < p.1.length
  · refine .inr ⟨walk.go i Hn zn hlt okn tn hgn, P (i + 1), fun σ' H' p' => ⟨p.1.length - (i + 1), by omega, rfl, hlt, p'⟩, fun x H' y => ?_⟩
    obtain ⟨z2, d, hz2, ok2, t2, hd, dv⟩ := walk.yld i Hn zn x H' hlt okn tn hgn y
    have hcons : p.1.drop i = d :: p.1.drop (i + 1) := by
      obtain ⟨hl, he⟩ := List.getElem?_eq_some_iff.mp hd
      rw [List.drop_eq_getElem_cons hl, he]
    rw [hcons] at fl
    unfold forR at fl
    obtain ⟨en1, s2, e2, fl⟩ := bind_ok fl
    obtain ⟨pr, s3, e3, fl⟩ := bind_ok fl
    rw [← hz2] at e2
    refine ⟨z2, enn, d, en1, s2, ok2, okn.env t2 ern, dv, e2, fun H3 z3 σ3 hs3 ok3 t3 er3 _ => ?_⟩
    obtain ⟨f', en2⟩ := pr
    refine ⟨z3, en1, f', en2, s3, ok3, er3, by rw [hs3]; exact e3, ?_⟩
    have next : (∀ H4 z4 σ4, z4.st = s3 → Ok K H4 z4 → To H3 z3 H4 z4 → EnvR K z4 en2 σ4 → guardB (held p.2 s3) (forR (asT cf t) (evSs cf body) ws z1.n p.2 (p.1.drop (i + 1)) (wipe en2 ws) (trim z1.n (wipe en2 ws) s3)) = .ok (f, en') st' → P (i + 1) σ4 H4) := fun H4 z4 σ4 hs4 ok4 t4 er4 hg => by
      obtain ⟨g, fl⟩ := guard_ok hg
      subst hs4
      obtain ⟨z5, h1, h2, h3, h4⟩ := trim_ok ok4 (tn.trans (t2.trans (t3.trans t4))) (er4.wipeE ws)
      exact ⟨z5, wipe en2 ws, h2, h3, h4, by rw [h1]; exact held_trim hg0 g, by rw [h1]; exact fl⟩
    cases f' with
    | nx => exact fun H4 z4 σ4 hs4 ok4 t4 er4 => next H4 z4 σ4 hs4 ok4 t4 er4 fl
    | ct => exact fun H4 z4 σ4 hs4 ok4 t4 er4 => next H4 z4 σ4 hs4 ok4 t4 er4 fl
    | brk =>
      cases fl
      exact fun H4 z4 σ4 hs4 ok4 t4 er4 => q H4 z4 σ4 hs4 ok4 (t1.trans (tn.trans (t2.trans (t3.trans t4)))) (er4.wipeE ws)
    | rt w =>
      cases fl
      exact fun H4 z4 v hs4 ok4 t4 dv4 => q H4 z4 v hs4 ok4 (t1.trans (tn.trans (t2.trans (t3.trans t4)))) dv4
  · have ei : i = p.1.length := by omega
    subst ei
    refine .inl ⟨walk.stop Hn zn okn tn hgn, ?_⟩
    rw [List.drop_length] at fl
    unfold forR at fl
    cases fl
    exact q Hn zn σn rfl okn (t1.trans tn) ern
theorem snd_for {t : T} {it : I} {ws : List Nat} {body : Ss} (hb : SndSs cf body) : SndS cf (.for_ t it ws body) := fun Γ X st XO hk hp h => by
  simp only [chkS] at h
  split at h
  · rename_i tg iter b pos
    simp only [Bool.and_eq_true] at h
    obtain ⟨⟨h1, h2⟩, h3⟩ := h
    obtain ⟨pi, pl⟩ := sndI cf it Γ X tg iter XO h1
    exact (ps_for hp XO.calm pi (sndT cf t Γ X tg XO h2).1 (hb Γ X b XO hk hp h3) (plain_fold pl)).imp fun D σ H q => for_imp q
  · cases h
theorem while_imp {K : PySem.W.Frag} {c : C} {ws : List Nat} {body : Ss} {D : Ends} {σ : L2.St} {H : Hp} (h : tS K cf (.while_ c ws body) D σ H) : tWhile (tT K cf c) (tSs K cf body) D σ H := by
  obtain ⟨z, en, f, en', st', ok, er, ev, q⟩ := h
  simp only [evS] at ev
  refine ⟨fun m σn Hn => ∃ zn enn, Ok K Hn zn ∧ To H z Hn zn ∧ EnvR K zn enn σn ∧ whR (fun en s => (evE cf c en s).bind fun x s1 => opt (truth s1 x) s1) (evSs cf body) ws z.n m enn zn.st = .ok (f, en') st', ⟨turns, z, en, ok, .refl, er, ev⟩, ?_⟩
  rintro m σn Hn ⟨zn, enn, okn, tn, ern, fl⟩
  cases m with
  | zero => unfold whR at fl; cases fl
  | succ m =>
    unfold whR at fl
    obtain ⟨b, s1, e1, fl⟩ := bind_ok fl
    obtain ⟨x, s0, e0, e1⟩ := bind_ok e1
    obtain ⟨ht, hst⟩ := opt_ok e1
    subst hst
    refine ⟨zn, enn, x, s1, b, okn, ern, e0, ht, fun H1 z1 hs1 ok1 t1 => ?_⟩
    subst hs1
    cases b with
    | false =>
      rw [if_neg (by decide)]
      rw [if_neg (by decide)] at fl
      cases fl
      exact q H1 z1 σn rfl ok1 (tn.trans t1) (okn.env t1 ern)
    | true =>
      rw [if_pos rfl]
      rw [if_pos rfl] at fl
      obtain ⟨⟨f', en2⟩, s3, e3, fl⟩ := bind_ok fl
      refine ⟨_, fun σ' H' n' => ⟨m, Nat.lt_succ_self m, n'⟩, z1, enn, f', en2, s3, ok1, okn.env t1 ern, e3, ?_⟩
      have next : ∀ H4 z4 σ4, z4.st = s3 → Ok K H4 z4 → To H1 z1 H4 z4 → EnvR K z4 en2 σ4 → whR (fun en s => (evE cf c en s).bind fun x s1 => opt (truth s1 x) s1) (evSs cf body) ws z.n m (wipe en2 ws) (trim z.n (wipe en2 ws) s3) = .ok (f, en') st' →
          ∃ zn enn, Ok K H4 zn ∧ To H z H4 zn ∧ EnvR K zn enn σ4 ∧ whR (fun en s => (evE cf c en s).bind fun x s1 => opt (truth s1 x) s1) (evSs cf body) ws z.n m enn zn.st = .ok (f, en') st' := fun H4 z4 σ4 hs4 ok4 t4 er4 fl => by
        subst hs4
        obtain ⟨z5, h1, h2, h3, h4⟩ := trim_ok ok4 (tn.trans (t1.trans t4)) (er4.wipeE ws)
        exact ⟨z5, wipe en2 ws, h2, h3, h4, by rw [h1]; exact fl⟩
      cases f' with
      | nx => exact fun H4 z4 σ4 hs4 ok4 t4 er4 => next H4 z4 σ4 hs4 ok4 t4 er4 fl
      | ct => exact fun H4 z4 σ4 hs4 ok4 t4 er4 => next H4 z4 σ4 hs4 ok4 t4 er4 fl
      | brk =>
        cases fl
        exact fun H4 z4 σ4 hs4 ok4 t4 er4 => q H4 z4 σ4 hs4 ok4 (tn.trans (t1.trans t4)) (er4.wipeE ws)
      | rt w =>
        cases fl
        exact fun H4 z4 v hs4 ok4 t4 dv4 => q H4 z4 v hs4 ok4 (tn.trans (t1.trans t4)) dv4
theorem snd_while {c : C} {ws : List Nat} {body : Ss} (hb : SndSs cf body) : SndS cf (.while_ c ws body) := fun Γ X st XO hk hp h => by
  simp only [chkS] at h
  split at h
  · simp only [Bool.and_eq_true] at h
    obtain ⟨h1, h2⟩ := h
    exact (ps_while hp (sndC cf c Γ X _ XO h1).pt (hb Γ X _ XO hk hp h2)).imp fun D σ H q => while_imp q
  · cases h
theorem XOk.nox (XO : XOk Γ cf X) : XOk Γ cf X.nox := ⟨XO.calm, XO.nd, XO.N, XO.sc, XO.un, XO.loc, XO.glb, XO.bi, fun f ft h => ⟨(XO.fns f ft h).ex⟩, XO.cls⟩
theorem snd_try {body : Ss} (hb : SndSs cf body) : SndS cf (.try_ body) := fun Γ X st XO hk hp h => by
  simp only [chkS] at h
  split at h
  · exact (ps_try_thru0 (hb Γ X.nox _ XO.nox hk PassesOwn.never h)).imp fun D σ H ⟨z, en, f, en', st', ok, er, ev, q⟩ => by
      simp only [evS] at ev
      exact ⟨z, en, f, en', st', ok, er, ev, q⟩
  · cases h
theorem snd_nope : SndS cf .nope := fun Γ X st XO hk hp h => ⟨fun pins s σ H D I ⟨z, en, f, en', st', ok, er, ev, q⟩ => by
  simp only [evS] at ev
  cases ev⟩
theorem fld_set {K : PySem.W.Frag} {H : Hp} {z : Z} (ok : Ok K H z) {n : Nat} {c f : Str} {dx : Addr} {fs : List (Str × V)} {es : List D} {w : D} {v : V} (hl : n < z.n) (j : DFs z.he K z.mu z.n es fs) (dv : DVz K z w v) :
    Ok K (upd H (z.mu n) (.ins (cAd K c) dx (putF f v fs))) (z.cell n (.ins (cAd K c) dx (putF f v fs)) (.fn c (fput f w es))) :=
  ok.cell hl ⟨dx, _, upd_same, (j.put dv).mono (Ext.cell hl (ok.sim.there hl)) ok.sim⟩
theorem snd_fldS {c f : Str} {o e : C} : SndS cf (.fld c o f e) := fun Γ X st XO hk hp h => by
  simp only [chkS] at h
  split at h
  · rename_i x f' p v pos
    simp only [Bool.and_eq_true, Bool.not_eq_true'] at h
    obtain ⟨⟨⟨⟨h1, h2⟩, h3⟩, h4⟩, h5⟩ := h
    have h1 := of_decide_eq_true h1
    subst h1
    obtain ⟨k1, k2⟩ := clsB_ok XO h2
    refine (ps_fld (sndC cf o Γ X x XO h3).pe0 (sndC cf e Γ X v XO h4).pe0 (by cases v <;> first | rfl | (simp [isComp] at h5; done))).imp fun D σ H ⟨z, en, f, en', st', ok, er, ev, q⟩ => ?_
    simp only [evS] at ev
    obtain ⟨y, s1, e1, ev⟩ := bind_ok ev
    obtain ⟨x0, s2, e2, ev⟩ := bind_ok ev
    obtain ⟨_, s3, e3, ev⟩ := bind_ok ev
    cases ev
    obtain ⟨n, es, rfl, hn, hlen, hst⟩ := set_ev e3
    refine ⟨z, en, y, s1, ok, er, e1, fun H1 z1 v1 hs1 ok1 t1 dv1 _ => ?_⟩
    subst hs1
    refine ⟨z1, en, _, s2, ok1, ok.env t1 er, e2, fun H2 z2 v2 hs2 ok2 t2 dv2 _ => ?_⟩
    subst hs2
    cases dv2
    obtain ⟨hl, dx, fs, i1, i2, i3⟩ := ins_of ok2 hn
    exact ⟨_, _, dx, fs, rfl, i2, k1, k2, by rw [← i3.length]; exact hlen, q _ _ σ hst.symm (fld_set ok2 hl i3 (ok1.dv t2 dv1)) (t1.trans (t2.trans (To.cell ok2 hl))) (ok2.env (To.cell ok2 hl) (ok1.env t2 (ok.env t1 er)))⟩
  · cases h
theorem snd_fldaug {c f : Str} {o e : C} {op : BOp} : SndS cf (.fldaug c o f op e) := fun Γ X st XO hk hp h => by
  simp only [chkS] at h
  split at h
  · rename_i x f' p bo v pos
    simp only [Bool.and_eq_true] at h
    obtain ⟨⟨⟨⟨h1, h2⟩, h3⟩, h4⟩, h5⟩ := h
    have h1 := of_decide_eq_true h1
    subst h1
    have h3 := of_decide_eq_true h3
    subst h3
    obtain ⟨k1, k2⟩ := clsB_ok XO h2
    refine (ps_fldaug (sndC cf o Γ X x XO h4).pe0 (sndC cf e Γ X v XO h5).pe0 (rd := rD2 X.K false (augD op)) fun pins s σ H x y v u Q I rx ry h => aug_ok op pins s σ H x y v u Q I rx ry h).imp fun D σ H ⟨z, en, f, en', st', ok, er, ev, q⟩ => ?_
    simp only [evS] at ev
    obtain ⟨x0, s1, e1, ev⟩ := bind_ok ev
    obtain ⟨d, s2, e2, ev⟩ := bind_ok ev
    obtain ⟨y, s3, e3, ev⟩ := bind_ok ev
    obtain ⟨w, s4, e4, ev⟩ := bind_ok ev
    obtain ⟨_, s5, e5, ev⟩ := bind_ok ev
    cases ev
    obtain ⟨n, es, rfl, hn, hg, hst2⟩ := fld_ev e2
    subst hst2
    refine ⟨z, en, _, _, ok, er, e1, fun H1 z1 v1 hs1 ok1 t1 dv1 _ => ?_⟩
    subst hs1
    cases dv1
    obtain ⟨hl, dx, fs, i1, i2, i3⟩ := ins_of ok1 hn
    obtain ⟨v', l1, l2⟩ := i3.get hg
    refine ⟨_, _, dx, fs, v', rfl, i2, k1, k2, l1, z1, en, y, s3, ok1, ok.env t1 er, e3, fun H2 z2 v2 hs2 ok2 t2 dv2 _ => ?_⟩
    subst hs2
    refine ⟨z2, d, y, w, s4, ok2, ok1.dv t2 l2, dv2, e4, fun H3 z3 v3 hs3 ok3 t3 dv3 _ => ?_⟩
    subst hs3
    obtain ⟨n', es', he, hn', hlen, hst⟩ := set_ev e5
    cases he
    obtain ⟨hl', dx', fs', j1, j2, j3⟩ := ins_of ok3 hn'
    have hmu : z3.mu n = z1.mu n := (t2.trans t3).ext.mu n hl
    refine ⟨dx', fs', by rw [← hmu]; exact j2, by rw [← j3.length]; exact hlen, ?_⟩
    rw [← hmu]
    have t4 := t1.trans (t2.trans t3)
    exact q _ _ σ hst.symm (fld_set ok3 hl' j3 dv3) (t4.trans (To.cell ok3 hl')) (ok3.env (To.cell ok3 hl') (ok.env t4 er))
  · cases h
theorem aug_store {y : Expr} (h : plainE y = true) : ∀ ov iv new, augStore y ov iv new = (do holding [new, ov, iv] (setItem ov iv new); release [new, ov, iv] []; pure .next) := by
  cases y <;> first | (intros; rfl) | (cases h; done)
theorem snd_subaug {o i e : C} {op : BOp} : SndS cf (.subaug o i op e) := fun Γ X st XO hk hp h => by
  simp only [chkS] at h
  split at h
  · rename_i x y p bo v pos
    simp only [Bool.and_eq_true] at h
    obtain ⟨⟨⟨h1, h2⟩, h3⟩, h4⟩ := h
    have h1 := of_decide_eq_true h1
    subst h1
    refine (ps_augS (sndC cf o Γ X x XO h2).pe0 (sndC cf i Γ X y XO h3).pe0 get_cell (sndC cf e Γ X v XO h4).pe0 (aug_ok op) (put_cell XO.un) (aug_store (chk_plain _ _ h3))).imp fun D σ H ⟨z, en, f, en', st', ok, er, ev, q⟩ => ?_
    simp only [evS] at ev
    obtain ⟨x0, s1, e1, ev⟩ := bind_ok ev
    obtain ⟨y0, s2, e2, ev⟩ := bind_ok ev
    obtain ⟨d, s3, e3, ev⟩ := bind_ok ev
    obtain ⟨u, s4, e4, ev⟩ := bind_ok ev
    obtain ⟨w, s5, e5, ev⟩ := bind_ok ev
    obtain ⟨⟨⟩, s6, e6, ev⟩ := bind_ok ev
    cases ev
    refine ⟨z, en, x0, s1, ok, er, e1, fun H1 z1 v1 hs1 ok1 t1 dv1 _ => ?_⟩
    subst hs1
    refine ⟨z1, en, y0, s2, ok1, ok.env t1 er, e2, fun H2 z2 v2 hs2 ok2 t2 dv2 _ => ?_⟩
    subst hs2
    refine ⟨z2, x0, y0, d, s3, ok2, ok1.dv t2 dv1, dv2, e3, fun H3 z3 v3 hs3 ok3 t3 dv3 _ => ?_⟩
    subst hs3
    refine ⟨z3, en, u, s4, ok3, ok2.env t3 (ok1.env t2 (ok.env t1 er)), e4, fun H4 z4 v4 hs4 ok4 t4 dv4 _ => ?_⟩
    subst hs4
    refine ⟨z4, d, u, w, s5, ok4, ok3.dv t4 dv3, dv4, e5, fun H5 z5 v5 hs5 ok5 t5 dv5 _ => ?_⟩
    subst hs5
    have t34 := t3.trans (t4.trans t5)
    refine ⟨z5, x0, y0, w, _, ok5, ok2.dv t34 (ok1.dv t2 dv1), ok2.dv t34 dv2, dv5, e6, fun H6 z6 hs6 ok6 t6 => ?_⟩
    have t16 := t1.trans (t2.trans (t34.trans t6))
    exact q H6 z6 σ hs6 ok6 t16 (ok.env t16 er)
  · cases h
theorem snd_nil : SndSs cf .nil := fun Γ X sts XO hk hp h => by
  cases sts with
  | cons _ _ => simp [chkSs] at h
  | nil =>
    refine pss_nil.imp fun D σ H ⟨z, en, f, en', st', ok, er, ev, q⟩ => ?_
    simp only [evSs] at ev
    cases ev
    exact q H z σ rfl ok .refl er
theorem snd_cons {s : S} {r : Ss} (hs : SndS cf s) (hr : SndSs cf r) : SndSs cf (.cons s r) := fun Γ X sts XO hk hp h => by
  cases sts with
  | nil => simp [chkSs] at h
  | cons st sts =>
    simp only [chkSs, Bool.and_eq_true] at h
    refine (pss_cons (hs Γ X st XO hk hp h.1) (hr Γ X sts XO hk hp h.2)).imp fun D σ H ⟨z, en, f, en', st', ok, er, ev, q⟩ => ?_
    simp only [evSs] at ev
    obtain ⟨⟨f1, en1⟩, s1, e1, ev⟩ := bind_ok ev
    refine ⟨z, en, f1, en1, s1, ok, er, e1, ?_⟩
    cases f1 with
    | nx => exact fun H1 z1 σ1 hs1 ok1 t1 er1 => ⟨z1, en1, f, en', st', ok1, er1, by rw [hs1]; exact ev, q.trans t1⟩
    | brk => cases ev; exact q
    | ct => cases ev; exact q
    | rt d => cases ev; exact q
end
mutual
theorem sndS (cf : CallF) : ∀ s : S, SndS cf s
  | .asg t e => snd_asg
  | .aug i op e => snd_aug
  | .expr e => snd_expr
  | .ret e => snd_ret
  | .retN => snd_retN
  | .ife c a b => snd_if (sndSs cf a) (sndSs cf b)
  | .for_ t it ws body => snd_for (sndSs cf body)
  | .fld c o f e => snd_fldS
  | .fldaug c o f op e => snd_fldaug
  | .subaug o i op e => snd_subaug
  | .while_ c ws body => snd_while (sndSs cf body)
  | .try_ body => snd_try (sndSs cf body)
  | .nope => snd_nope
  | .pass => snd_pass
  | .brk => snd_brk
  | .cont => snd_cont
theorem sndSs (cf : CallF) : ∀ s : Ss, SndSs cf s
  | .nil => snd_nil
  | .cons s r => snd_cons (sndS cf s) (sndSs cf r)
end
end PyE

namespace PyE
open PySem PySem.Spec PyProof.Rows L2
def PatOk (K : PySem.W.Frag) (fd : FuncData) (ps : List Str) (p : Nat × List Str × List D) : Prop :=
  ∀ dv, mapO litV p.2.2 = some dv → ∃ ds : List Value, Vals dv ds ∧ ∀ (s : Shared) (us ws : List Value), K.In s.heap → us.length = p.1 → ws.length = p.2.1.length → BindsTo s fd ⟨us, p.2.1.zip ws⟩ (ps.zip (us ++ ws ++ ds))
/-- what is seen of a def's text -/
def fnB (N ps : List Str) (sc : Scope) : Bool := (match sc.kind with | .function => true | _ => false) && (!sc.isCoroutine && (!sc.isGenerator && (decide N.Nodup && (decide (N.take ps.length = ps) && (ps.all (locB sc) && sc.names.all fun y => match y.2 with | .free => false | _ => true)))))
theorem fnB_ok {N ps : List Str} {sc : Scope} (h : fnB N ps sc = true) : FnScope N ps sc := by
  unfold fnB at h
  simp only [Bool.and_eq_true, Bool.not_eq_true', decide_eq_true_eq] at h
  obtain ⟨h1, h2, h3, h4, h5, h6, h7⟩ := h
  refine ⟨?_, h2, h3, h4, h5, fun x hx => loc_of (List.all_eq_true.mp h6 x hx), fun y hy e => ?_⟩
  · split at h1
    · assumption
    · cases h1
  · have := List.all_eq_true.mp h7 y hy
    rw [e] at this
    cases this
structure DefOk (K : PySem.W.Frag) (mg : Str → Option Value) (prog : Nat → Option Fd) (glb : List (Str × D)) (fns : List FT) (cls : List (Str × List Str)) (f : Nat) (ft : FT) (a : Addr) (fd : FuncData) : Prop where
  mg : AtOk K mg ft a
  ex : ∃ (c : Fd) (N : List Str) (qual : Str) (params : Arguments) (body : List Stmt) (scope : Scope) (dvs : List V) (kws : List (Str × V)) (x : Str), prog f = some c ∧ FunD K x qual params body scope dvs kws a fd ∧ fnB N ft.ps scope = true ∧ c.np = ft.ps.length ∧ c.nn = N.length ∧ chkSs ⟨scope, scope, N, glb, fns, cls⟩ c.body body = true
  pats : ∀ p ∈ ft.pats, PatOk K fd ft.ps p
section
variable {P : Program} {w : World} {K : PySem.W.Frag} {mg : Str → Option Value} {base : Heap} {prog : Nat → Option Fd} {glb : List (Str × D)} {fns : List FT} {cls : List (Str × List Str)}
theorem runFd_ok {cf : CallF} {c : Fd} {ds : List D} {st st' : Store} {d : D} (h : runFd cf c ds st = .ok d st') : ds.length = c.np ∧ ∃ f en', evSs cf c.body (ds.map some ++ List.replicate (c.nn - c.np) none) st = .ok (f, en') st' ∧ (f = .rt d ∨ (f = .nx ∧ d = .non)) := by
  unfold runFd at h
  split at h
  · rename_i hl
    obtain ⟨⟨f, en'⟩, s1, e1, h⟩ := bind_ok h
    refine ⟨hl, ?_⟩
    cases f with
    | rt v => cases h; exact ⟨_, en', e1, .inl rfl⟩
    | nx => cases h; exact ⟨_, en', e1, .inr ⟨rfl, rfl⟩⟩
    | brk => cases h
    | ct => cases h
  · cases h
theorem env_start {z : Z} {ds : List D} {vs : List V} {N : List Str} {n : Nat} (dv : DVsz K z ds vs) (hn : n = N.length) (hl : ds.length ≤ n) : EnvR K z (ds.map some ++ List.replicate (n - ds.length) none) (L2.start N vs) := by
  unfold L2.start
  have e := dv.length
  refine ⟨by simp [e, hn], fun i d h => ?_⟩
  by_cases hi : i < ds.length
  · rw [List.getElem?_append_left (by simpa using hi), List.getElem?_map] at h
    cases q : ds[i]? with
    | none => rw [q] at h; cases h
    | some d' =>
      rw [q] at h
      cases h
      obtain ⟨v, h1, h2⟩ := dv.get q
      exact ⟨v, by rw [List.getElem?_append_left (by simpa [← e] using hi), List.getElem?_map, h1]; rfl, h2⟩
  · rw [List.getElem?_append_right (by simpa using hi), List.getElem?_replicate] at h
    split at h <;> cases h
/-- EVERY DEF -/
theorem fn_all (glbok : ∀ p ∈ glb, ∃ u v, mg p.1 = some u ∧ RelV v u ∧ TupC K p.2 v ∧ ∀ (H : Hp) (z : Z), Ok K H z → DVz K z p.2 v) (clsok : ∀ p ∈ cls, Cls K (cAd K p.1) ∧ ∀ f ∈ p.2, NoAttr K (cAd K p.1) f) (bi : ∀ x ∈ bltNames, mg x = none) (ok : ∀ f ft, fns[f]? = some ft → ∃ a fd, DefOk K mg prog glb fns cls f ft a fd) :
    ∀ (k f : Nat) (ft : FT) (a : Addr) (fd : FuncData), DefOk K mg prog glb fns cls f ft a fd → FnOk P w K mg base CX0 (2 * k) a fd ft.ps (spF K (callF prog k) f) := by
  intro k
  induction k with
  | zero =>
    intro f ft a fd d
    exact ⟨fun vs H Q E ⟨z, ds, r, st', _, _, e, _⟩ => (by cases e), fun A outer s H args us vs Q E _ _ _ _ ⟨z, ds, r, st', _, _, e, _⟩ => (by cases e)⟩
  | succ k ih =>
    intro f ft a fd d
    obtain ⟨c, N, qual, params, body, scope, dvs, kws, x, hc, F, hs, hnp, hnn, chk⟩ := d.ex
    have S := fnB_ok hs
    rw [show 2 * (k + 1) = (2 * k + 1) + 1 from by omega]
    have ev : ∀ {ds : List D} {r : D} {st st' : Store}, callF prog (k + 1) f ds st = .ok r st' → runFd (callF prog k) c ds st = .ok r st' := fun {ds r st st'} e => by
      unfold callF at e
      rw [hc] at e
      exact e
    refine F.ok S (fun vs H Q E ⟨z, ds, r, st', _, dv, e, _⟩ => ?_) fun cdv A outer s H vs Q E hr hsp => ?_
    · obtain ⟨h1, _⟩ := runFd_ok (ev e)
      rw [← dv.length, h1, hnp]
    · refine ⟨tSs K (callF prog k) c.body, PSs.nox ?_, ?_⟩
      · refine sndSs (callF prog k) c.body ⟨scope, scope, N, glb, fns, cls⟩ _ body ?_ S.kind PassesOwn.never chk
        exact {
          calm := rfl
          nd := S.nd
          N := rfl
          sc := rfl
          un := hr.units
          loc := fun x h => ⟨loc_of h, .inl rfl⟩
          glb := glbok
          bi := bi
          fns := fun g gt hg => by
            obtain ⟨a', fd', d'⟩ := ok g gt hg
            obtain ⟨_, _, _, _, _, _, _, _, _, _, F', _⟩ := d'.ex
            exact ⟨2 * k, a', fd', d'.mg, F'.kp, ih g gt a' fd' d', hr, d'.pats⟩
          cls := clsok }
      · obtain ⟨z, ds, r, st', ok', dv, e, q⟩ := hsp
        obtain ⟨h1, f', en', e1, h2⟩ := runFd_ok (ev e)
        have hN : ft.ps.length ≤ N.length := by
          have := congrArg List.length S.pre
          rw [List.length_take] at this
          omega
        refine ⟨z, _, f', en', st', ok', ?_, e1, ?_⟩
        · have := env_start (n := c.nn) dv hnn (by omega)
          rw [h1] at this
          exact this
        · rcases h2 with rfl | ⟨rfl, rfl⟩
          · exact fun H' z' v hs ok2 t dv2 => q H' z' v hs ok2 t dv2 .no
          · exact fun H' z' σ' hs ok2 t _ => q H' z' .non hs ok2 t .non .no
end
def isLst (o : Obj) : Bool := match o.cls with
  | .type c => c == "list"
  | _ => false
def noLst (g : Addr → Option Obj) (as : List Addr) : List Addr := as.filter fun a => match g a with
  | some o => !isLst o
  | none => true
def NoL (K : PySem.W.Frag) : Prop := ∀ a o, K.lookup a = some o → o.cls ≠ .type "list"
theorem frG_mem {g : Addr → Option Obj} {a : Addr} {o : Obj} : ∀ as : List Addr, (He.frG g as).lookup a = some o → a ∈ as
  | [], e => nomatch (show (none : Option Obj) = some o from e)
  | b :: r, e => by
    unfold He.frG at e
    cases hb : g b with
    | none =>
      have e2 : (He.frG g r).lookup a = some o := by
        unfold He.frG
        rw [List.filterMap_cons, hb] at e
        exact e
      exact List.mem_cons_of_mem _ (frG_mem r e2)
    | some ob =>
      rw [List.filterMap_cons, hb] at e
      have e2 : (match a == b with | true => some ob | false => (He.frG g r).lookup a) = some o := e
      cases q : (a == b) with
      | true => rw [beq_iff_eq.mp q]; exact List.mem_cons_self
      | false =>
        rw [q] at e2
        exact List.mem_cons_of_mem _ (frG_mem r e2)
theorem noL_of {g : Addr → Option Obj} {as : List Addr} : NoL (He.frG g (noLst g as)) := fun a o e c => by
  have h1 := He.frG_at _ e
  have h2 := frG_mem _ e
  unfold noLst at h2
  rw [List.mem_filter, h1] at h2
  have h3 := h2.2
  simp only [isLst, c] at h3
  cases h3
def obsL (n : Nat) (fa : List He.Fa) (fn : List He.DefD) (g : Addr → Option Obj) : He.AlD := He.obsD fa fn (He.frG g (noLst g (He.asD g n)))
def hookL (n : Nat) (fa : List He.Fa) (fn : List He.DefD) : PySem.W.Hook where
  α := He.AlD
  obs := fun s => obsL n fa fn s.heap.get?
  val := fun _ => He.valD fn
  says := fun _ h => ∃ K : PySem.W.Frag, K.In h ∧ He.SaysD fa fn K ∧ NoL K
  of := fun _ _ e => ⟨_, He.frG_in, e, noL_of⟩
  keeps := fun _ _ _ ⟨K, hK, c⟩ k => ⟨K, PySem.W.Frag.In.keeps hK k, c⟩
theorem obsL_eq {n : Nat} {fa : List He.Fa} {fn : List He.DefD} {g : Addr → Option Obj} {s : Shared} (h : ∀ a, g a = s.heap.get? a) : obsL n fa fn g = (hookL n fa fn).obs s := by
  have e : g = s.heap.get? := funext h
  rw [e] <;> rfl
theorem spF_law {K : PySem.W.Frag} {cf : CallF} {f : Nat} (nl : NoL K) {H : Hp} {a : Addr} {ns : List Int} (hS : SqL K H a (ns.map V.int)) (h : ∃ st', cf f [.lst (ns.map .int)] [] = .ok (.bl true) st') : spF K cf f [.ref a] H (fun v _ => v = .bl true) fun _ _ _ => False := by
  have hR : Rd H a (.lst (ns.map V.int)) := by
    rcases hS with h | ⟨o, its, n, hk, hc, _⟩
    · exact h
    · exact absurd hc (nl a o hk)
  obtain ⟨st', h⟩ := h
  refine ⟨⟨H, fun _ => 0, []⟩, [.lst (ns.map .int)], .bl true, st', ⟨fun _ _ e => e, fun i j hi => absurd hi (Nat.not_lt_zero _), fun i c e => by simp at e⟩, .cons (.lst hR (fun i hi => absurd hi (Nat.not_lt_zero _)) (of_ints ns)) .nil, h, fun H' z' v _ _ _ dv _ => ?_⟩
  cases dv
  rfl
/-- no defaults are wanted -/
theorem pat_kw {K : PySem.W.Frag} {x qual : Str} {params : Arguments} {body : List Stmt} {scope : Scope} {kws : List (Str × V)} {f : Addr} {fd : FuncData} {ps : List Str} (F : FunD K x qual params body scope [] kws f fd) (n : Nat) (ks : List Str)
    (h : ∀ (kV doc pm : Value) (an : Option Addr) (cdv ct : Value) (us ws : List Value), us.length = n → ws.length = ks.length → bindArgs (PySem.W.fnOf x qual params body scope .none kV doc pm an cdv ct) ⟨us, ks.zip ws⟩ = pure (ps.zip (us ++ ws))) : PatOk K fd ps (n, ks, []) := fun dv hdv => by
  cases hdv
  refine ⟨[], .nil, fun s us ws _ h1 h2 => ?_⟩
  obtain ⟨oc, od, dV, kV, doc, pm, an, cdv, ct, osl, rfl, lk, hcd, hD, hK⟩ := F.ex
  rcases hD with ⟨_, rfl⟩ | ⟨e, _⟩
  · rw [List.append_nil]
    exact .of_eq (h kV doc pm an cdv ct us ws h1 h2)
  · exact absurd rfl e
end PyE

namespace PyE
open PySem PySem.Spec PyProof.Rows L2
mutual
/-- whether a value that stands at the top is this datum -/
def valB (K : PySem.W.Frag) : D → Value → Bool
  | .non, v => decide (v = .none)
  | .bl a, v => decide (v = .bool a)
  | .int a, v => (match v with
    | .int b _ => decide (b = a)
    | _ => false)
  | .str a, v => (match v with
    | .str b _ => decide (b = a)
    | _ => false)
  | .tup xs, v => (match v with
    | .ref a => (match K.lookup a with
      | some ⟨cl, dd, .seq its _, _⟩ => decide (cl = .type "tuple") && dd.isNone && decide (its.size ≤ sizeLine) && valsB K xs its.toList
      | _ => false)
    | _ => false)
  | _, _ => false
def valsB (K : PySem.W.Frag) : List D → List Value → Bool
  | [], [] => true
  | d :: ds, v :: vs => valB K d v && valsB K ds vs
  | _, _ => false
end
mutual
theorem valB_ok {K : PySem.W.Frag} : ∀ (d : D) (v : Value), valB K d v = true → ∃ x : V, RelV x v ∧ TupC K d x ∧ ∀ z : Z, DVz K z d x
  | .non, v, h => by
    simp only [valB, decide_eq_true_eq] at h
    exact ⟨.non, h, trivial, fun _ => .non⟩
  | .bl b, v, h => by
    simp only [valB, decide_eq_true_eq] at h
    exact ⟨.bl b, h, trivial, fun _ => .bl b⟩
  | .int i, v, h => by
    simp only [valB] at h
    split at h
    · rename_i b t
      have := of_decide_eq_true h
      subst this
      exact ⟨.int b, ⟨t, rfl⟩, trivial, fun _ => .int b⟩
    · cases h
  | .str s, v, h => by
    simp only [valB] at h
    split at h
    · rename_i b t
      have := of_decide_eq_true h
      subst this
      exact ⟨.str b, ⟨t, rfl⟩, trivial, fun _ => .str b⟩
    · cases h
  | .tup xs, v, h => by
    simp only [valB] at h
    split at h
    · rename_i a
      split at h
      · rename_i cl od its n sl hk
        simp only [Bool.and_eq_true, decide_eq_true_eq] at h
        obtain ⟨⟨⟨h1, h1d⟩, h2⟩, h3⟩ := h
        obtain ⟨vs, r, dv⟩ := valsB_ok xs its.toList h3
        exact ⟨.ref a, rfl, ⟨a, _, rfl, hk, h1, by simpa using h1d⟩, fun z => .tup (.inr ⟨_, its, n, hk, h1, rfl, h2, r⟩) (dv z)⟩
      · cases h
    · cases h
  | .lst _, _, h => by cases h
  | .dct _, _, h => by cases h
  | .ref _, _, h => by cases h
  | .fn _ _, _, h => by cases h
theorem valsB_ok {K : PySem.W.Frag} : ∀ (ds : List D) (vs : List Value), valsB K ds vs = true → ∃ xs : List V, Vals xs vs ∧ ∀ z : Z, DVsz K z ds xs
  | [], [], _ => ⟨[], .nil, fun _ => .nil⟩
  | d :: ds, v :: vs, h => by
    simp only [valsB, Bool.and_eq_true] at h
    obtain ⟨x, r1, _, d1⟩ := valB_ok d v h.1
    obtain ⟨xs, r2, d2⟩ := valsB_ok ds vs h.2
    exact ⟨x :: xs, .cons r1 r2, fun z => .cons (d1 z) (d2 z)⟩
  | [], _ :: _, h => by cases h
  | _ :: _, [], h => by cases h
end
def globB (K : PySem.W.Frag) (p : Str × D) : Bool := match PySem.W.nsIn K mainGlobals p.1 with
  | some (some v) => valB K p.2 v
  | _ => false
def globsB (K : PySem.W.Frag) (gt : List (Str × D)) : Bool := gt.all (globB K)
theorem globs_ok {K : PySem.W.Frag} {h : Heap} {mg : Str → Option Value} (X : K.In h) (G : h.Ns mainGlobals mg) {gt : List (Str × D)} (b : globsB K gt = true) :
    ∀ p ∈ gt, ∃ u v, mg p.1 = some u ∧ RelV v u ∧ TupC K p.2 v ∧ ∀ (H : Hp) (z : Z), PyE.Ok K H z → DVz K z p.2 v := fun p hp => by
  have h1 := List.all_eq_true.mp b p hp
  unfold globB at h1
  split at h1
  · rename_i u hu
    obtain ⟨v, r, tc, d⟩ := valB_ok p.2 u h1
    exact ⟨u, v, PySem.W.mg_of X G hu, r, tc, fun _ z _ => d z⟩
  · cases h1
def obsM (n : Nat) (fa : List He.Fa) (fn : List He.DefD) (gt : List (Str × D)) (g : Addr → Option Obj) : He.AlD × Bool := (He.obsD fa fn (He.frG g (noLst g (He.asD g n))), globsB (He.frG g (noLst g (He.asD g n))) gt)
def hookM (n : Nat) (fa : List He.Fa) (fn : List He.DefD) (gt : List (Str × D)) : PySem.W.Hook where
  α := He.AlD × Bool
  obs := fun s => obsM n fa fn gt s.heap.get?
  val := fun _ => (He.valD fn, true)
  says := fun _ h => ∃ K : PySem.W.Frag, K.In h ∧ He.SaysD fa fn K ∧ NoL K ∧ globsB K gt = true
  of := fun _ _ e => ⟨_, He.frG_in, congrArg (fun x : He.AlD × Bool => x.1) e, noL_of, congrArg (fun x : He.AlD × Bool => x.2) e⟩
  keeps := fun _ _ _ ⟨K, hK, c⟩ k => ⟨K, PySem.W.Frag.In.keeps hK k, c⟩
theorem obsM_eq {n : Nat} {fa : List He.Fa} {fn : List He.DefD} {gt : List (Str × D)} {g : Addr → Option Obj} {s : Shared} (h : ∀ a, g a = s.heap.get? a) : obsM n fa fn gt g = (hookM n fa fn gt).obs s := by
  have e : g = s.heap.get? := funext h
  rw [e] <;> rfl
/-- a def that has defaults: those behind the first j fill up -/
theorem pat_df {K : PySem.W.Frag} {x qual : Str} {params : Arguments} {body : List Stmt} {scope : Scope} {dvs : List V} {kws : List (Str × V)} {f : Addr} {fd : FuncData} {ps : List Str} (F : FunD K x qual params body scope dvs kws f fd) (hd : dvs ≠ []) (n : Nat) (ks : List Str) (df : List D) (j : Nat)
    (hj : mapO litV df = some (dvs.drop j))
    (h : ∀ (T : Addr) (kV doc pm : Value) (an : Option Addr) (cdv ct : Value) (us ws its : List Value), us.length = n → ws.length = ks.length → its.length = dvs.length →
      ∃ k, bindArgs (PySem.W.fnOf x qual params body scope (.ref T) kV doc pm an cdv ct) ⟨us, ks.zip ws⟩ = seqItems? (.ref T) >>= k ∧ k (some its.toArray) = pure (ps.zip (us ++ ws ++ its.drop j))) : PatOk K fd ps (n, ks, df) := fun dv hdv => by
  obtain ⟨oc, od, dV, kV, doc, pm, an, cdv, ct, osl, rfl, lk, hcd, hD, hK⟩ := F.ex
  rcases hD with ⟨e, _⟩ | ⟨_, T, o, its, m, rfl, lT, oT, rT⟩
  · exact absurd e hd
  · have hdv : mapO litV df = some dv := hdv
    rw [hj] at hdv
    cases hdv
    refine ⟨its.drop j, rT.drop j, fun s us ws X h1 h2 => ?_⟩
    obtain ⟨k, e1, e2⟩ := h T kV doc pm an cdv ct us ws its h1 h2 rT.length.symm
    refine BindsTo.of_looks fun M => ?_
    rw [e1]
    exact looks_items X lT oT (.of_pure e2)
end PyE

namespace PyE
open PySem
@[simp] theorem rb_ok {α β : Type} (a : α) (st : Store) (f : α → Store → R β) [Laz f] : (R.ok a st).bind f = f a st := (rfl)
@[simp] theorem opt_some {α : Type} (a : α) (st : Store) : opt (some a) st = .ok a st := rfl
@[simp] theorem guard_true {α : Type} (r : R α) : guardB true r = r := rfl
theorem mkTup_ok {xs : List D} {st : Store} (h : xs.length ≤ line) : mkTup xs st = .ok (.tup xs) st := by
  unfold mkTup guardB
  rw [decide_eq_true h]; rfl
theorem mkLst_ok {xs : List D} {st : Store} (h : xs.length ≤ line) : mkLst xs st = .ok (.lst xs) st := by
  unfold mkLst guardB
  rw [decide_eq_true h]; rfl
@[simp] theorem vw_int (st : Store) (i : Int) : view st (.int i) = .int i := rfl
@[simp] theorem vw_non (st : Store) : view st .non = .non := rfl
@[simp] theorem vw_bl (st : Store) (b : Bool) : view st (.bl b) = .bl b := rfl
@[simp] theorem vw_str (st : Store) (s : Str) : view st (.str s) = .str s := rfl
@[simp] theorem vw_tup (st : Store) (xs : List D) : view st (.tup xs) = .tup xs := rfl
@[simp] theorem vw_lst (st : Store) (xs : List D) : view st (.lst xs) = .lst xs := rfl
@[simp] theorem vw_dct (st : Store) (xs : List D) : view st (.dct xs) = .dct xs := rfl
theorem vw_ref {st : Store} {n : Nat} {c : D} (h : st[n]? = some c) : view st (.ref n) = c := by
  show (st[n]?).getD (.ref n) = c
  rw [h]; rfl
@[simp] theorem tr_bl (st : Store) (b : Bool) : truth st (.bl b) = some b := rfl
@[simp] theorem tr_int (st : Store) (i : Int) : truth st (.int i) = some (i != 0) := rfl
@[simp] theorem tr_tup (st : Store) (xs : List D) : truth st (.tup xs) = some (!xs.isEmpty) := rfl
@[simp] theorem tr_lst (st : Store) (xs : List D) : truth st (.lst xs) = some (!xs.isEmpty) := rfl
@[simp] theorem tr_non (st : Store) : truth st .non = some false := rfl
theorem eqD_int (st : Store) (i j : Int) : eqD st (.int i) (.int j) = some (i == j) := rfl
theorem eqD_str (st : Store) (i j : Str) : eqD st (.str i) (.str j) = some (decide (i = j)) := rfl
@[simp] theorem cmp_eq_int (i j : Int) (st : Store) : cmpD .eq (.int i) (.int j) st = .ok (.bl (decide (i = j))) st := rfl
@[simp] theorem cmp_ne_int (i j : Int) (st : Store) : cmpD .ne (.int i) (.int j) st = .ok (.bl (!decide (i = j))) st := rfl
@[simp] theorem cmp_eq_str (i j : Str) (st : Store) : cmpD .eq (.str i) (.str j) st = .ok (.bl (decide (i = j))) st := rfl
@[simp] theorem cmp_ne_str (i j : Str) (st : Store) : cmpD .ne (.str i) (.str j) st = .ok (.bl (!decide (i = j))) st := rfl
@[simp] theorem cmp_eq_bl (i j : Bool) (st : Store) : cmpD .eq (.bl i) (.bl j) st = .ok (.bl (i == j)) st := rfl
@[simp] theorem cmp_ne_non_int (j : Int) (st : Store) : cmpD .ne .non (.int j) st = .ok (.bl true) st := rfl
@[simp] theorem cmp_is_non (x : D) (st : Store) : cmpD .is x .non st = .ok (.bl (isNon x)) st := rfl
@[simp] theorem cmp_isnot_non (x : D) (st : Store) : cmpD .isnot x .non st = .ok (.bl (!isNon x)) st := rfl
@[simp] theorem cmp_is_bl (x : D) (b : Bool) (st : Store) : cmpD .is x (.bl b) st = .ok (.bl (isBl x b)) st := rfl
@[simp] theorem cmp_lt (i j : Int) (st : Store) : cmpD .lt (.int i) (.int j) st = .ok (.bl (decide (i < j))) st := rfl
@[simp] theorem cmp_le (i j : Int) (st : Store) : cmpD .le (.int i) (.int j) st = .ok (.bl (decide (i ≤ j))) st := rfl
@[simp] theorem cmp_gt (i j : Int) (st : Store) : cmpD .gt (.int i) (.int j) st = .ok (.bl (decide (j < i))) st := rfl
@[simp] theorem cmp_ge (i j : Int) (st : Store) : cmpD .ge (.int i) (.int j) st = .ok (.bl (decide (j ≤ i))) st := rfl
@[simp] theorem isNon_non : isNon .non = true := rfl
@[simp] theorem isNon_int (i : Int) : isNon (.int i) = false := rfl
@[simp] theorem isNon_tup (i : List D) : isNon (.tup i) = false := rfl
@[simp] theorem isNon_str (i : Str) : isNon (.str i) = false := rfl
@[simp] theorem isNon_bl (i : Bool) : isNon (.bl i) = false := rfl
@[simp] theorem isNon_lst (i : List D) : isNon (.lst i) = false := rfl
@[simp] theorem bin_add_int (i j : Int) (st : Store) : binD .add (.int i) (.int j) st = .ok (.int (i + j)) st := rfl
@[simp] theorem bin_sub_int (i j : Int) (st : Store) : binD .sub (.int i) (.int j) st = .ok (.int (i - j)) st := rfl
theorem bin_mul_int {i j : Int} {st : Store} (h : (-18446744073709551616 < i ∧ i < 18446744073709551616) ∨ (-18446744073709551616 < j ∧ j < 18446744073709551616)) : binD .mul (.int i) (.int j) st = .ok (.int (i * j)) st := by
  show guardB (mulOk i j) _ = _
  have : mulOk i j = true := by
    simp only [mulOk, Bool.or_eq_true, Bool.and_eq_true, decide_eq_true_eq]; exact h
  rw [this]; rfl
theorem bin_mod_int {i j : Int} {st : Store} (h : 0 < j) : binD .mod (.int i) (.int j) st = .ok (.int (i % j)) st := by
  show guardB (decide (0 < j)) _ = _
  rw [decide_eq_true h]; rfl
theorem bin_fdiv_int {i j : Int} {st : Store} (h : 0 < j) (h2 : j < 1073741824) : binD .fdiv (.int i) (.int j) st = .ok (.int (i / j)) st := by
  show guardB (decide (0 < j) && decide (j < 1073741824)) _ = _
  rw [decide_eq_true h, decide_eq_true h2]; rfl
theorem bin_add_tup {xs ys : List D} {st : Store} (h : xs.length + ys.length ≤ line) : binD .add (.tup xs) (.tup ys) st = .ok (.tup (xs ++ ys)) st := by
  show guardB (decide (xs.length + ys.length ≤ line)) _ = _
  rw [decide_eq_true h]; rfl
theorem bin_add_lst {xs ys : List D} {st : Store} (h : xs.length + ys.length ≤ line) : binD .add (.lst xs) (.lst ys) st = .ok (.lst (xs ++ ys)) st := by
  show guardB (decide (xs.length + ys.length ≤ line)) _ = _
  rw [decide_eq_true h]; rfl
theorem atI_nn {α : Type} (xs : List α) (n : Nat) : L2.atI xs (n : Int) = xs[n]? := by
  unfold L2.atI L2.ixN
  rw [if_pos (Int.natCast_nonneg n)]
  by_cases h : (n : Int) < (xs.length : Int)
  · rw [if_pos h]; simp
  · rw [if_neg h]
    rw [List.getElem?_eq_none (by omega)]; rfl
@[simp] theorem atI_0 {α : Type} (xs : List α) : L2.atI xs 0 = xs[0]? := atI_nn xs 0
@[simp] theorem atI_1 {α : Type} (xs : List α) : L2.atI xs 1 = xs[1]? := atI_nn xs 1
@[simp] theorem atI_2 {α : Type} (xs : List α) : L2.atI xs 2 = xs[2]? := atI_nn xs 2
@[simp] theorem atI_3 {α : Type} (xs : List α) : L2.atI xs 3 = xs[3]? := atI_nn xs 3
@[simp] theorem atI_4 {α : Type} (xs : List α) : L2.atI xs 4 = xs[4]? := atI_nn xs 4
@[simp] theorem atI_5 {α : Type} (xs : List α) : L2.atI xs 5 = xs[5]? := atI_nn xs 5
@[simp] theorem ix_tup (xs : List D) (i : Int) (st : Store) : ixD (.tup xs) (.int i) st = opt (L2.atI xs i) st := rfl
@[simp] theorem ix_lst (xs : List D) (i : Int) (st : Store) : ixD (.lst xs) (.int i) st = opt (L2.atI xs i) st := rfl
theorem callF_at {P : Nat → Option Fd} {n f : Nat} {d : Fd} {xs : List D} {st : Store} (h : P f = some d) (hn : 1 ≤ n) : callF P n f xs st = runFd (callF P (n - 1)) d xs st := by
  cases n with
  | zero => omega
  | succ n =>
    show (match P f with | some d => runFd (callF P n) d xs st | none => .bad) = _
    rw [h]; rfl
theorem run_at {cf : CallF} {d : Fd} {xs : List D} {st : Store} (h : xs.length = d.np) : runFd cf d xs st = (evSs cf d.body (xs.map some ++ List.replicate (d.nn - d.np) none) st).bind fun p s1 => match p.1 with
    | .rt v => .ok v s1
    | .nx => .ok .non s1
    | _ => .bad := by
  unfold runFd
  exact if_pos h
theorem prep_pure : ∀ (xs : List D) (st : Store) (i j : Nat), xs.all D.pure = true → prep [] st i j xs = some (xs, [], [])
  | [], _, _, _, _ => rfl
  | x :: r, st, i, j, h => by
    simp only [List.all_cons, Bool.and_eq_true] at h
    unfold prep
    rw [if_neg (by simp), if_pos h.1, prep_pure r st (i + 1) j h.2]; rfl
/-- a call without cells -/
theorem call_pure {cf : CallF} {f : Nat} {xs : List D} {st cs' : Store} {d : D} (hx : xs.all D.pure = true) (h : cf f xs [] = .ok d cs') (hd : d.pure = true) : callIn cf f xs [] false st = .ok d st := by
  have hb : back [] cs' d = some d := if_pos hd
  have hc : cellsAt st [] = some [] := rfl
  have hp : putBack [] cs' 0 [] st = some st := rfl
  simp only [callIn, prep_pure xs st 0 0 hx, hc, h, callBack, hp, hb]
  rfl
/-- a call whose first argument is a cell (a list of plain data) that it changes, the others pure -/
theorem call_box {cf : CallF} {f n : Nat} {xs : List D} {st : Store} {c c' d : D} {cs' : Store} (hn : st[n]? = some c) (hc : c.pure = true) (hx : xs.all D.pure = true) (h : cf f (.ref 0 :: xs) [c] = .ok d cs') (h0 : cs'[0]? = some c') (hc' : c'.pure = true) (hd : d.pure = true) :
    callIn cf f (.ref n :: xs) [0] false st = .ok d (st.set n c') := by
  have hp : ∀ (ys : List D) (i j : Nat), 0 < i → ys.all D.pure = true → prep [0] st i j ys = some (ys, [], []) := by
    intro ys
    induction ys with
    | nil => intro i j _ _; rfl
    | cons y r ih =>
      intro i j hi h
      simp only [List.all_cons, Bool.and_eq_true] at h
      unfold prep
      rw [if_neg (by simp; omega), if_pos h.1, ih (i + 1) j (by omega) h.2]; rfl
  have e1 : prep [0] st 0 0 (.ref n :: xs) = some (.ref 0 :: xs, [n], []) := by
    unfold prep
    rw [if_pos (by rfl)]
    show (prep [0] st 1 1 xs).map _ = _
    rw [hp xs 1 1 (by omega) hx]; rfl
  have e2 : cellsAt st [n] = some [c] := by
    simp [cellsAt, hn, hc]
  have hb : back [n] cs' d = some d := if_pos hd
  have hb' : back [n] cs' c' = some c' := if_pos hc'
  have e3 : putBack [n] cs' 0 [n] st = some (st.set n c') := by
    simp [putBack, h0, hb']
  simp only [callIn, e1, e2, h, callBack, e3, hb]
  rfl
theorem pureL_map {α : Type} (f : α → D) (h : ∀ a, (f a).pure = true) : ∀ xs : List α, D.pureL (xs.map f) = true
  | [] => rfl
  | x :: xs => by
    simp only [List.map_cons, D.pureL, Bool.and_eq_true]
    exact ⟨h x, pureL_map f h xs⟩
theorem pure_tup {α : Type} (f : α → D) (h : ∀ a, (f a).pure = true) (xs : List α) : (D.tup (xs.map f)).pure = true := by simp only [D.pure]; exact pureL_map f h xs
theorem pure_lst {α : Type} (f : α → D) (h : ∀ a, (f a).pure = true) (xs : List α) : (D.lst (xs.map f)).pure = true := by simp only [D.pure]; exact pureL_map f h xs
@[simp] theorem trim_same {n : Nat} {en : En} {st : Store} (h : st.length ≤ n) : trim n en st = st := by
  unfold trim
  split
  · exact List.take_of_length_le h
  · rfl
theorem pairs_map {α : Type} (f : α → D) : ∀ (xs : List α) (i : Nat), pairs i (xs.map f) = (xs.zipIdx i).map fun p => .tup [.int (p.2 : Int), f p.1]
  | [], _ => rfl
  | x :: r, i => by
    simp only [List.map_cons, pairs, List.zipIdx_cons]
    rw [pairs_map f r (i + 1)]
/-- a loop that goes through: the typed state s -/
theorem for_fold {α S : Type} {asg : D → En → Store → R En} {body : En → Store → R (Fl × En)} {ws : List Nat} {n : Nat} {g : Guard} (enc : α → D) (E : S → En) (T : S → Store) (step : S → α → S) (I : S → Prop) (mem : α → Prop)
    (h : ∀ x s, mem x → I s → I (step s x) ∧ ∃ en1 st1 fl en2 st2, asg (enc x) (E s) (T s) = .ok en1 st1 ∧ body en1 st1 = .ok (fl, en2) st2 ∧ (fl = .nx ∨ fl = .ct) ∧ held g st2 = true ∧ wipe en2 ws = E (step s x) ∧ trim n (E (step s x)) st2 = T (step s x)) :
    ∀ (xs : List α) (s : S), (∀ x ∈ xs, mem x) → I s → forR asg body ws n g (xs.map enc) (E s) (T s) = .ok (.nx, E (xs.foldl step s)) (T (xs.foldl step s))
  | [], s, _, _ => rfl
  | x :: xs, s, hm, hi => by
    obtain ⟨hi', en1, st1, fl, en2, st2, e1, e2, hf, hg, hw, ht⟩ := h x s (hm x List.mem_cons_self) hi
    show (asg (enc x) (E s) (T s)).bind _ = _
    rw [e1]
    show (body en1 st1).bind _ = _
    rw [e2]
    have fin : guardB (held g st2) (forR asg body ws n g (xs.map enc) (wipe en2 ws) (trim n (wipe en2 ws) st2)) = .ok (.nx, E ((x :: xs).foldl step s)) (T ((x :: xs).foldl step s)) := by
      rw [hg, guard_true, hw, ht]
      exact for_fold enc E T step I mem h xs (step s x) (fun y hy => hm y (List.mem_cons_of_mem _ hy)) hi'
    rcases hf with rfl | rfl
    · exact fin
    · exact fin
/-- what a comprehension adds -/
def addO {β : Type} (out : β → D) (acc : List D) : Option β → List D
  | some y => acc ++ [out y]
  | none => acc
@[simp] theorem addO_some {β : Type} (out : β → D) (acc : List D) (y : β) : addO out acc (some y) = acc ++ [out y] := rfl
@[simp] theorem addO_none {β : Type} (out : β → D) (acc : List D) : addO out acc none = acc := rfl
/-- a comprehension's fold -/
theorem fold_map {α β : Type} {F : D → List D → Store → R (List D)} {st : Store} (enc : α → D) (out : β → D) (f : α → Option β) (mem : α → Prop)
    (h : ∀ x acc, mem x → acc.length < line → F (enc x) acc st = .ok (addO out acc (f x)) st) :
    ∀ (xs : List α) (acc : List D), (∀ x ∈ xs, mem x) → acc.length + xs.length ≤ line → foldR F (xs.map enc) acc st = .ok (acc ++ (xs.filterMap f).map out) st
  | [], acc, _, _ => by simp [foldR]
  | x :: xs, acc, hm, hl => by
    rw [List.length_cons] at hl
    show (F (enc x) acc st).bind _ = _
    rw [h x acc (hm x List.mem_cons_self) (by omega)]
    have hm' : ∀ y ∈ xs, mem y := fun y hy => hm y (List.mem_cons_of_mem _ hy)
    cases e : f x with
    | none =>
      show foldR F (xs.map enc) acc st = _
      rw [fold_map enc out f mem h xs acc hm' (by omega), List.filterMap_cons_none e]
    | some y =>
      show foldR F (xs.map enc) (acc ++ [out y]) st = _
      rw [fold_map enc out f mem h xs (acc ++ [out y]) hm' (by simp; omega), List.filterMap_cons_some e]
      simp
@[simp] theorem e_evE_lit (cf : CallF) {d st u11} : evE cf (.lit d) u11 st = .ok d st := by first | (simp only [evE]; done) | (simp only [evE]; rfl) | rfl
@[simp] theorem e_evE_var (cf : CallF) {en i st} : evE cf (.var i) en st = (match en[i]? with
    | some (some d) => .ok d st
    | _ => .bad) := by first | (simp only [evE]; done) | (simp only [evE]; rfl) | rfl
@[simp] theorem e_evE_tup (cf : CallF) {en es st} : evE cf (.tup es) en st = (evEs cf es en st).bind fun xs s1 => mkTup xs s1 := by first | (simp only [evE]; done) | (simp only [evE]; rfl) | rfl
@[simp] theorem e_evE_list (cf : CallF) {en es st} : evE cf (.list es) en st = (evEs cf es en st).bind fun xs s1 => mkLst xs s1 := by first | (simp only [evE]; done) | (simp only [evE]; rfl) | rfl
@[simp] theorem e_evE_dict (cf : CallF) {en ks st vs} : evE cf (.dict ks vs) en st = (evEs cf vs en st).bind fun xs s1 => opt ((dictD ks xs []).map .dct) s1 := by first | (simp only [evE]; done) | (simp only [evE]; rfl) | rfl
@[simp] theorem e_evE_mut (cf : CallF) {e en st} : evE cf (.mut e) en st = (evE cf e en st).bind fun x s1 => match x with
    | .lst _ => .ok (.ref s1.length) (s1 ++ [x])
    | .dct _ => .ok (.ref s1.length) (s1 ++ [x])
    | _ => .bad := by first | (simp only [evE]; done) | (simp only [evE]; rfl) | rfl
@[simp] theorem e_evE_bin (cf : CallF) {a b en op st} : evE cf (.bin op a b) en st = (evE cf a en st).bind fun x s1 => (evE cf b en s1).bind fun y s2 => binD op x y s2 := by first | (simp only [evE]; done) | (simp only [evE]; rfl) | rfl
@[simp] theorem e_evE_neg (cf : CallF) {a en st} : evE cf (.neg a) en st = (evE cf a en st).bind fun x s1 => (match x with
    | .int i => .ok (.int (-i)) s1
    | _ => .bad) := by first | (simp only [evE]; done) | (simp only [evE]; rfl) | rfl
@[simp] theorem e_evE_cmp (cf : CallF) {a b en op st} : evE cf (.cmp op a b) en st = (evE cf a en st).bind fun x s1 => (evE cf b en s1).bind fun y s2 => cmpD op x y s2 := by first | (simp only [evE]; done) | (simp only [evE]; rfl) | rfl
@[simp] theorem e_evE_and (cf : CallF) {a b en st} : evE cf (.and a b) en st = (evE cf a en st).bind fun x s1 => (match truth s1 x with
    | some true => evE cf b en s1
    | some false => .ok x s1
    | none => .bad) := by first | (simp only [evE]; done) | (simp only [evE]; rfl) | rfl
@[simp] theorem e_evE_or (cf : CallF) {a b en st} : evE cf (.or a b) en st = (evE cf a en st).bind fun x s1 => (match truth s1 x with
    | some true => .ok x s1
    | some false => evE cf b en s1
    | none => .bad) := by first | (simp only [evE]; done) | (simp only [evE]; rfl) | rfl
@[simp] theorem e_evE_not (cf : CallF) {a en st} : evE cf (.not a) en st = (evE cf a en st).bind fun x s1 => opt ((truth s1 x).map fun b => .bl (!b)) s1 := by first | (simp only [evE]; done) | (simp only [evE]; rfl) | rfl
@[simp] theorem e_evE_ife (cf : CallF) {a b c en st} : evE cf (.ife c a b) en st = (evE cf c en st).bind fun x s1 => (match truth s1 x with
    | some true => evE cf a en s1
    | some false => evE cf b en s1
    | none => .bad) := by first | (simp only [evE]; done) | (simp only [evE]; rfl) | rfl
@[simp] theorem e_evE_ix (cf : CallF) {a b en st} : evE cf (.ix a b) en st = (evE cf a en st).bind fun x s1 => (evE cf b en s1).bind fun y s2 => ixD x y s2 := by first | (simp only [evE]; done) | (simp only [evE]; rfl) | rfl
@[simp] theorem e_evE_sl (cf : CallF) {a en hi lo st} : evE cf (.sl a lo hi) en st = (evE cf a en st).bind fun x s1 => (evO cf lo en s1).bind fun l s2 => (evO cf hi en s2).bind fun h s3 => opt (slB x l h s3) s3 := by first | (simp only [evE]; done) | (simp only [evE]; rfl) | rfl
@[simp] theorem e_evE_call (cf : CallF) {en es f fresh io st} : evE cf (.call f es io fresh) en st = (evEs cf es en st).bind fun xs s1 => callIn cf f xs io fresh s1 := by first | (simp only [evE]; done) | (simp only [evE]; rfl) | rfl
@[simp] theorem e_evE_callS (cf : CallF) {en es f st} : evE cf (.callS f es) en st = (evEs cf es en st).bind fun xs s1 => cf f xs s1 := by first | (simp only [evE]; done) | (simp only [evE]; rfl) | rfl
@[simp] theorem e_evE_bi (cf : CallF) {en es f st} : evE cf (.bi f es) en st = (evEs cf es en st).bind fun xs s1 => biD f xs s1 := by first | (simp only [evE]; done) | (simp only [evE]; rfl) | rfl
@[simp] theorem e_evE_mt (cf : CallF) {en es m o st} : evE cf (.mt m o es) en st = (evE cf o en st).bind fun x s1 => guardB (mtTy m (view s1 x)) ((evEs cf es en s1).bind fun xs s2 => mtD m x xs s2) := by first | (simp only [evE]; done) | (simp only [evE]; rfl) | rfl
@[simp] theorem e_evE_isi (cf : CallF) {a en st ts} : evE cf (.isi a ts) en st = (evE cf a en st).bind fun x s1 => guardB (isPl (view s1 x)) (.ok (.bl (ts.any (isTy (view s1 x)))) s1) := by first | (simp only [evE]; done) | (simp only [evE]; rfl) | rfl
@[simp] theorem e_evE_lc (cf : CallF) {cond elt en it own st t} : evE cf (.lc own t it cond elt) en st = (evI cf it en st).bind fun p s1 =>
    (foldR (fun x acc s2 => (asT cf t x (wipe en own) s2).bind fun en2 s3 => (evCo cf cond en2 s3).bind fun b s4 =>
      if b = true then (evE cf elt en2 s4).bind fun y s5 => guardB (decide (acc.length < line) && held p.2 s5) (.ok (acc ++ [y]) s5) else guardB (held p.2 s4) (.ok acc s4)) p.1 [] s1).bind fun acc s6 => .ok (.lst acc) s6 := by first | (simp only [evE]; done) | (simp only [evE]; rfl) | rfl
@[simp] theorem e_evE_dc (cf : CallF) {cond en it k own st t v} : evE cf (.dc own t it cond k v) en st = (evI cf it en st).bind fun p s1 =>
    (foldR (fun x acc s2 => (asT cf t x (wipe en own) s2).bind fun en2 s3 => (evCo cf cond en2 s3).bind fun b s4 =>
      if b = true then (evE cf k en2 s4).bind fun y s5 => (evE cf v en2 s5).bind fun z s6 => guardB (isKey y && decide (acc.length < line) && held p.2 s6) (.ok (dput acc y z) s6) else guardB (held p.2 s4) (.ok acc s4)) p.1 [] s1).bind fun acc s6 => .ok (.dct acc) s6 := by first | (simp only [evE]; done) | (simp only [evE]; rfl) | rfl
@[simp] theorem e_evEs_nil (cf : CallF) {st u11} : evEs cf .nil u11 st = .ok [] st := by first | (simp only [evEs]; done) | (simp only [evEs]; rfl) | rfl
@[simp] theorem e_evEs_cons (cf : CallF) {e en es st} : evEs cf (.cons e es) en st = (evE cf e en st).bind fun x s1 => (evEs cf es en s1).bind fun xs s2 => .ok (x :: xs) s2 := by first | (simp only [evEs]; done) | (simp only [evEs]; rfl) | rfl
@[simp] theorem e_evO_none (cf : CallF) {st u11} : evO cf .none u11 st = .ok none st := by first | (simp only [evO]; done) | (simp only [evO]; rfl) | rfl
@[simp] theorem e_evO_some (cf : CallF) {e en st} : evO cf (.some e) en st = (evE cf e en st).bind fun x s1 => (match x with
    | .int i => .ok (some i) s1
    | _ => .bad) := by first | (simp only [evO]; done) | (simp only [evO]; rfl) | rfl
@[simp] theorem e_evCo_none (cf : CallF) {st u11} : evCo cf .none u11 st = .ok true st := by first | (simp only [evCo]; done) | (simp only [evCo]; rfl) | rfl
@[simp] theorem e_evCo_some (cf : CallF) {e en st} : evCo cf (.some e) en st = (evE cf e en st).bind fun x s1 => opt (truth s1 x) s1 := by first | (simp only [evCo]; done) | (simp only [evCo]; rfl) | rfl
@[simp] theorem e_asT_name (cf : CallF) {d en i st} : asT cf (.name i) d en st = .ok (en.set i (some d)) st := by first | (simp only [asT]; done) | (simp only [asT]; rfl) | rfl
@[simp] theorem e_asT_tup (cf : CallF) {d en st ts} : asT cf (.tup ts) d en st = (match view st d with
    | .tup xs => asTs cf ts xs en st
    | _ => .bad) := by first | (simp only [asT]; done) | (simp only [asT]; rfl) | rfl
@[simp] theorem e_asT_sub (cf : CallF) {d en i o st} : asT cf (.sub o i) d en st = (evE cf o en st).bind fun x s1 => (evE cf i en s1).bind fun y s2 => (match x with
    | .ref n => (match s2[n]? with
      | some (.lst xs) => (match y with
        | .int k => (match L2.ixN xs.length k with
          | some j => .ok en (s2.set n (.lst (xs.set j d)))
          | none => .bad)
        | _ => .bad)
      | some (.dct es) => guardB (isKey y && decide (es.length < line)) (.ok en (s2.set n (.dct (dput es y d))))
      | _ => .bad)
    | _ => .bad) := by first | (simp only [asT]; done) | (simp only [asT]; rfl) | rfl
@[simp] theorem e_asTs_nil (cf : CallF) {en st xs} : asTs cf .nil xs en st = (match xs with
    | [] => .ok en st
    | _ => .bad) := by first | (simp only [asTs]; done) | (simp only [asTs]; rfl) | rfl
@[simp] theorem e_asTs_cons (cf : CallF) {en st t ts xs} : asTs cf (.cons t ts) xs en st = (match xs with
    | x :: r => (asT cf t x en st).bind fun en1 s1 => asTs cf ts r en1 s1
    | [] => .bad) := by first | (simp only [asTs]; done) | (simp only [asTs]; rfl) | rfl
@[simp] theorem e_evI_val (cf : CallF) {e en st} : evI cf (.val e) en st = (evE cf e en st).bind fun x s1 => opt (iterOf s1 x) s1 := by first | (simp only [evI]; done) | (simp only [evI]; rfl) | rfl
@[simp] theorem e_evI_range1 (cf : CallF) {a en st} : evI cf (.range1 a) en st = (evE cf a en st).bind fun x s1 => (match x with
    | .int j => guardB (rgOk j) (.ok (rangeD 0 j.toNat, []) s1)
    | _ => .bad) := by first | (simp only [evI]; done) | (simp only [evI]; rfl) | rfl
@[simp] theorem e_evI_range2 (cf : CallF) {a b en st} : evI cf (.range2 a b) en st = (evE cf a en st).bind fun x s1 => (evE cf b en s1).bind fun y s2 => (match x, y with
    | .int i, .int j => guardB (rgOk i && rgOk j) (.ok (rangeD i (j - i).toNat, []) s2)
    | _, _ => .bad) := by first | (simp only [evI]; done) | (simp only [evI]; rfl) | rfl
@[simp] theorem e_evI_enum (cf : CallF) {e en st} : evI cf (.enum e) en st = (evE cf e en st).bind fun x s1 => (match view s1 x with
    | .lst xs => .ok (pairs 0 xs, guardOf s1 x) s1
    | .tup xs => .ok (pairs 0 xs, []) s1
    | _ => .bad) := by first | (simp only [evI]; done) | (simp only [evI]; rfl) | rfl
@[simp] theorem e_evI_zip (cf : CallF) {a b en st} : evI cf (.zip a b) en st = (evE cf a en st).bind fun x s1 => (evE cf b en s1).bind fun y s2 => (match view s2 x, view s2 y with
    | .lst xs, .lst ys => .ok (zips xs ys, guardOf s2 x ++ guardOf s2 y) s2
    | .tup xs, .tup ys => .ok (zips xs ys, []) s2
    | _, _ => .bad) := by first | (simp only [evI]; done) | (simp only [evI]; rfl) | rfl
@[simp] theorem e_evS_asg (cf : CallF) {e en st t} : evS cf (.asg t e) en st = (evE cf e en st).bind fun x s1 => (asT cf t x en s1).bind fun en1 s2 => .ok (.nx, en1) s2 := by first | (simp only [evS]; done) | (simp only [evS]; rfl) | rfl
@[simp] theorem e_evS_aug (cf : CallF) {e en i op st} : evS cf (.aug i op e) en st = (match en[i]? with
    | some (some d) => (evE cf e en st).bind fun y s1 => (augD op d y s1).bind fun z s2 => .ok (.nx, en.set i (some z)) s2
    | _ => .bad) := by first | (simp only [evS]; done) | (simp only [evS]; rfl) | rfl
@[simp] theorem e_evS_expr (cf : CallF) {e en st} : evS cf (.expr e) en st = (evE cf e en st).bind fun _ s1 => .ok (.nx, en) s1 := by first | (simp only [evS]; done) | (simp only [evS]; rfl) | rfl
@[simp] theorem e_evS_ret (cf : CallF) {e en st} : evS cf (.ret e) en st = (evE cf e en st).bind fun x s1 => .ok (.rt x, en) s1 := by first | (simp only [evS]; done) | (simp only [evS]; rfl) | rfl
@[simp] theorem e_evS_retN (cf : CallF) {en st} : evS cf .retN en st = .ok (.rt .non, en) st := by first | (simp only [evS]; done) | (simp only [evS]; rfl) | rfl
@[simp] theorem e_evS_ife (cf : CallF) {a b c en st} : evS cf (.ife c a b) en st = (evE cf c en st).bind fun x s1 => (match truth s1 x with
    | some true => evSs cf a en s1
    | some false => evSs cf b en s1
    | none => .bad) := by first | (simp only [evS]; done) | (simp only [evS]; rfl) | rfl
@[simp] theorem e_evS_for_ (cf : CallF) {body en it st t ws} : evS cf (.for_ t it ws body) en st = (evI cf it en st).bind fun p s1 => (forR (asT cf t) (evSs cf body) ws s1.length p.2 p.1 en s1) := by first | (simp only [evS]; done) | (simp only [evS]; rfl) | rfl
@[simp] theorem e_evS_pass (cf : CallF) {en st} : evS cf .pass en st = .ok (.nx, en) st := by first | (simp only [evS]; done) | (simp only [evS]; rfl) | rfl
@[simp] theorem e_evS_brk (cf : CallF) {en st} : evS cf .brk en st = .ok (.brk, en) st := by first | (simp only [evS]; done) | (simp only [evS]; rfl) | rfl
@[simp] theorem e_evS_cont (cf : CallF) {en st} : evS cf .cont en st = .ok (.ct, en) st := by first | (simp only [evS]; done) | (simp only [evS]; rfl) | rfl
@[simp] theorem e_evSs_nil (cf : CallF) {en st} : evSs cf .nil en st = .ok (.nx, en) st := by first | (simp only [evSs]; done) | (simp only [evSs]; rfl) | rfl
@[simp] theorem e_evSs_cons (cf : CallF) {en r s st} : evSs cf (.cons s r) en st = (evS cf s en st).bind fun p s1 => match p.1 with
    | .nx => evSs cf r p.2 s1
    | f => .ok (f, p.2) s1 := by first | (simp only [evSs]; done) | (simp only [evSs]; rfl) | rfl
@[simp] theorem held_none (st : Store) : held [] st = true := rfl
@[simp] theorem wipe_nil (en : En) : wipe en [] = en := rfl
@[simp] theorem wipe_cons (en : En) (v : Nat) (vs : List Nat) : wipe en (v :: vs) = (wipe en vs).set v none := rfl
theorem sIx_nn {n d : Nat} {i : Int} (h : 0 ≤ i) : HT.sIx n d (some i) = min i.toNat n := by
  show (if i < 0 then (i + (n : Int)).toNat else min i.toNat n) = _
  rw [if_neg (by omega)]
theorem cut_take {α : Type} (xs : List α) {i : Int} (h : 0 ≤ i) : cut xs none (some i) = xs.take i.toNat := by
  unfold cut
  rw [sIx_nn h]
  show (xs.drop 0).take (min i.toNat xs.length - 0) = _
  rw [List.drop_zero, Nat.sub_zero]
  rcases Nat.le_total i.toNat xs.length with hl | hl
  · rw [Nat.min_eq_left hl]
  · rw [Nat.min_eq_right hl, List.take_length, List.take_of_length_le hl]
theorem cut_drop {α : Type} (xs : List α) {i : Int} (h : 0 ≤ i) : cut xs (some i) none = xs.drop i.toNat := by
  unfold cut
  rw [sIx_nn h]
  show (xs.drop (min i.toNat xs.length)).take (xs.length - min i.toNat xs.length) = _
  rcases Nat.le_total i.toNat xs.length with hl | hl
  · rw [Nat.min_eq_left hl, List.take_of_length_le (by rw [List.length_drop]; exact Nat.le_refl _)]
  · rw [Nat.min_eq_right hl, List.drop_length, List.drop_of_length_le hl]; simp
theorem sl_take (xs : List D) (st : Store) {i : Int} (h : 0 ≤ i) : slB (.tup xs) none (some i) st = some (.tup (xs.take i.toNat)) := by
  show some (D.tup (cut xs none (some i))) = _
  rw [cut_take xs h]
theorem sl_drop (xs : List D) (st : Store) {i : Int} (h : 0 ≤ i) : slB (.tup xs) (some i) none st = some (.tup (xs.drop i.toNat)) := by
  show some (D.tup (cut xs (some i) none)) = _
  rw [cut_drop xs h]
theorem sl_takeL (xs : List D) (st : Store) {i : Int} (h : 0 ≤ i) : slB (.lst xs) none (some i) st = some (.lst (xs.take i.toNat)) := by
  show some (D.lst (cut xs none (some i))) = _
  rw [cut_take xs h]
theorem sl_dropL (xs : List D) (st : Store) {i : Int} (h : 0 ≤ i) : slB (.lst xs) (some i) none st = some (.lst (xs.drop i.toNat)) := by
  show some (D.lst (cut xs (some i) none)) = _
  rw [cut_drop xs h]
theorem in_tup {x : D} {ys : List D} {st : Store} (h : flatD x = true) (h2 : ys.all flatD = true) : cmpD .in_ x (.tup ys) st = .ok (.bl (ys.any fun y => eqF y x)) st := by
  show opt ((inD x ys).map D.bl) st = _
  unfold inD
  rw [if_pos ⟨h, h2⟩]; rfl
theorem in_lst {x : D} {ys : List D} {st : Store} (h : flatD x = true) (h2 : ys.all flatD = true) : cmpD .in_ x (.lst ys) st = .ok (.bl (ys.any fun y => eqF y x)) st := by
  show opt ((inD x ys).map D.bl) st = _
  unfold inD
  rw [if_pos ⟨h, h2⟩]; rfl
theorem notin_lst {x : D} {ys : List D} {st : Store} (h : flatD x = true) (h2 : ys.all flatD = true) : cmpD .notin x (.lst ys) st = .ok (.bl (!ys.any fun y => eqF y x)) st := by
  show opt (((inD x ys).map (!·)).map D.bl) st = _
  unfold inD
  rw [if_pos ⟨h, h2⟩]; rfl
@[simp] theorem fl_int (i : Int) : flatD (.int i) = true := rfl
@[simp] theorem fl_str (i : Str) : flatD (.str i) = true := rfl
@[simp] theorem fl_non : flatD .non = true := rfl
@[simp] theorem fl_bl (i : Bool) : flatD (.bl i) = true := rfl
@[simp] theorem eqF_int (i j : Int) : eqF (.int i) (.int j) = decide (i = j) := rfl
@[simp] theorem eqF_str (i j : Str) : eqF (.str i) (.str j) = decide (i = j) := rfl
@[simp] theorem eqF_non_str (j : Str) : eqF .non (.str j) = false := rfl
@[simp] theorem eqF_non_int (j : Int) : eqF .non (.int j) = false := rfl
@[simp] theorem keq_int (i j : Int) : keq (.int i) (.int j) = decide (i = j) := rfl
@[simp] theorem keq_str (i j : Str) : keq (.str i) (.str j) = decide (i = j) := rfl
theorem dget_cons (k' v : D) (r : List D) (k : D) : dget (.tup [k', v] :: r) k = if keq k' k = true then some v else dget r k := rfl
@[simp] theorem bi_len_tup (xs : List D) (st : Store) : biD .len [.tup xs] st = .ok (.int (xs.length : Nat)) st := rfl
@[simp] theorem bi_len_lst (xs : List D) (st : Store) : biD .len [.lst xs] st = .ok (.int (xs.length : Nat)) st := rfl
@[simp] theorem bi_len_dct (xs : List D) (st : Store) : biD .len [.dct xs] st = .ok (.int (xs.length : Nat)) st := rfl
@[simp] theorem bi_tup_lst (xs : List D) (st : Store) : biD .tuple [.lst xs] st = .ok (.tup xs) st := rfl
@[simp] theorem bi_tup_tup (xs : List D) (st : Store) : biD .tuple [.tup xs] st = .ok (.tup xs) st := rfl
@[simp] theorem bi_list_lst (xs : List D) (st : Store) : biD .list [.lst xs] st = .ok (.lst xs) st := rfl
@[simp] theorem bi_list_tup (xs : List D) (st : Store) : biD .list [.tup xs] st = .ok (.lst xs) st := rfl
@[simp] theorem bi_abs_int (i : Int) (st : Store) : biD .abs [.int i] st = .ok (.int (if i < 0 then -i else i)) st := rfl
@[simp] theorem bi_int_int (i : Int) (st : Store) : biD .int [.int i] st = .ok (.int i) st := rfl
@[simp] theorem bq_max2 (i j : Int) (st : Store) : biD .max2 [.int i, .int j] st = .ok (.int (if j > i then j else i)) st := rfl
@[simp] theorem bq_min2 (i j : Int) (st : Store) : biD .min2 [.int i, .int j] st = .ok (.int (if j < i then j else i)) st := rfl
theorem append_ok {st : Store} {n : Nat} {ys : List D} {y : D} (h : st[n]? = some (.lst ys)) (hl : ys.length < line) : mtD .append (.ref n) [y] st = .ok .non (st.set n (.lst (ys ++ [y]))) := by
  have e : lstAt st (.ref n) = some (n, ys) := by
    show (match st[n]? with | some (.lst ys) => some (n, ys) | _ => none) = _
    rw [h]
  show apB (.ref n) [y] st = _
  unfold apB
  rw [e]
  show guardB (decide (ys.length < line)) _ = _
  rw [decide_eq_true hl]; rfl
theorem mtTy_lst' (m : Mt) (h : m ≠ .get ∧ m ≠ .setdefault ∧ m ≠ .join ∧ m ≠ .tindex ∧ m ≠ .sindex) (xs : List D) : mtTy m (.lst xs) = true := by
  cases m <;> first | rfl | (simp at h)
theorem for_inv {asg : D → En → Store → R En} {body : En → Store → R (Fl × En)} {ws : List Nat} {n : Nat} {g : Guard} (I : Nat → En → Store → Prop) :
    ∀ (items : List D) (i : Nat) (en : En) (st : Store), I i en st → (∀ j x en st, items[j]? = some x → I (i + j) en st → ∃ en1 st1 fl en2 st2, asg x en st = .ok en1 st1 ∧ body en1 st1 = .ok (fl, en2) st2 ∧ (fl = .nx ∨ fl = .ct) ∧ held g st2 = true ∧ I (i + j + 1) (wipe en2 ws) (trim n (wipe en2 ws) st2)) →
      ∃ en' st', forR asg body ws n g items en st = .ok (.nx, en') st' ∧ I (i + items.length) en' st'
  | [], i, en, st, h0, _ => ⟨en, st, rfl, h0⟩
  | x :: xs, i, en, st, h0, h => by
    obtain ⟨en1, st1, fl, en2, st2, e1, e2, hf, hg, hI⟩ := h 0 x en st rfl h0
    obtain ⟨en', st', e3, h3⟩ := for_inv I xs (i + 1) _ _ hI fun j y en st hj hi => by
      have := h (j + 1) y en st (by simpa using hj) (by rw [show i + (j + 1) = i + 1 + j by omega]; exact hi)
      rw [show i + 1 + j + 1 = i + (j + 1) + 1 by omega]
      exact this
    refine ⟨en', st', ?_, by rw [List.length_cons, show i + (xs.length + 1) = i + 1 + xs.length by omega]; exact h3⟩
    show (asg x en st).bind _ = _
    rw [e1]
    show (body en1 st1).bind _ = _
    rw [e2]
    rcases hf with rfl | rfl
    · show guardB (held g st2) _ = _
      rw [hg]; exact e3
    · show guardB (held g st2) _ = _
      rw [hg]; exact e3
@[simp] theorem mkTup_0 (st : Store) : mkTup [] st = .ok (.tup []) st := mkTup_ok (by simp [line])
@[simp] theorem mkLst_0 (st : Store) : mkLst [] st = .ok (.lst []) st := mkLst_ok (by simp [line])
@[simp] theorem mkTup_1 (a : D) (st : Store) : mkTup [a] st = .ok (.tup [a]) st := mkTup_ok (by simp [line])
@[simp] theorem mkLst_1 (a : D) (st : Store) : mkLst [a] st = .ok (.lst [a]) st := mkLst_ok (by simp [line])
@[simp] theorem mkTup_2 (a b : D) (st : Store) : mkTup [a, b] st = .ok (.tup [a, b]) st := mkTup_ok (by simp [line])
@[simp] theorem mkLst_2 (a b : D) (st : Store) : mkLst [a, b] st = .ok (.lst [a, b]) st := mkLst_ok (by simp [line])
@[simp] theorem mkTup_3 (a b c : D) (st : Store) : mkTup [a, b, c] st = .ok (.tup [a, b, c]) st := mkTup_ok (by simp [line])
@[simp] theorem mkLst_3 (a b c : D) (st : Store) : mkLst [a, b, c] st = .ok (.lst [a, b, c]) st := mkLst_ok (by simp [line])
@[simp] theorem mkTup_4 (a b c d : D) (st : Store) : mkTup [a, b, c, d] st = .ok (.tup [a, b, c, d]) st := mkTup_ok (by simp [line])
@[simp] theorem mkLst_4 (a b c d : D) (st : Store) : mkLst [a, b, c, d] st = .ok (.lst [a, b, c, d]) st := mkLst_ok (by simp [line])
@[simp] theorem mkTup_5 (a b c d e : D) (st : Store) : mkTup [a, b, c, d, e] st = .ok (.tup [a, b, c, d, e]) st := mkTup_ok (by simp [line])
@[simp] theorem mkLst_5 (a b c d e : D) (st : Store) : mkLst [a, b, c, d, e] st = .ok (.lst [a, b, c, d, e]) st := mkLst_ok (by simp [line])
@[simp] theorem mkTup_6 (a b c d e f : D) (st : Store) : mkTup [a, b, c, d, e, f] st = .ok (.tup [a, b, c, d, e, f]) st := mkTup_ok (by simp [line])
@[simp] theorem mkLst_6 (a b c d e f : D) (st : Store) : mkLst [a, b, c, d, e, f] st = .ok (.lst [a, b, c, d, e, f]) st := mkLst_ok (by simp [line])
@[simp] theorem mkTup_7 (a b c d e f g : D) (st : Store) : mkTup [a, b, c, d, e, f, g] st = .ok (.tup [a, b, c, d, e, f, g]) st := mkTup_ok (by simp [line])
@[simp] theorem mkLst_7 (a b c d e f g : D) (st : Store) : mkLst [a, b, c, d, e, f, g] st = .ok (.lst [a, b, c, d, e, f, g]) st := mkLst_ok (by simp [line])
@[simp] theorem mkTup_8 (a b c d e f g h : D) (st : Store) : mkTup [a, b, c, d, e, f, g, h] st = .ok (.tup [a, b, c, d, e, f, g, h]) st := mkTup_ok (by simp [line])
@[simp] theorem mkLst_8 (a b c d e f g h : D) (st : Store) : mkLst [a, b, c, d, e, f, g, h] st = .ok (.lst [a, b, c, d, e, f, g, h]) st := mkLst_ok (by simp [line])

@[simp] theorem vw_ref' (st : Store) (n : Nat) : view st (.ref n) = (st[n]?).getD (.ref n) := rfl
@[simp] theorem mtTy_append (xs : List D) : mtTy .append (.lst xs) = true := rfl
@[simp] theorem mtTy_index (xs : List D) : mtTy .index (.lst xs) = true := rfl
@[simp] theorem mtTy_insert (xs : List D) : mtTy .insert (.lst xs) = true := rfl
@[simp] theorem mtTy_pop (xs : List D) : mtTy .pop (.lst xs) = true := rfl
@[simp] theorem iter_tup (xs : List D) (st : Store) : iterOf st (.tup xs) = some (xs, []) := rfl
@[simp] theorem iter_lst (xs : List D) (st : Store) : iterOf st (.lst xs) = some (xs, []) := rfl
theorem atI_map {α β : Type} (f : α → β) (xs : List α) (i : Int) : L2.atI (xs.map f) i = (L2.atI xs i).map f := by
  unfold L2.atI
  rw [List.length_map]
  cases L2.ixN xs.length i with
  | none => rfl
  | some j => simp
theorem for_foldN {α S : Type} {asg : D → En → Store → R En} {body : En → Store → R (Fl × En)} {ws : List Nat} {n : Nat} {g : Guard} (enc : α → D) (E : S → En) (T : S → Store) (step : S → α → S) (I : Nat → S → Prop) :
    ∀ (xs : List α) (i : Nat) (s : S), (∀ j x s, xs[j]? = some x → I (i + j) s → I (i + j + 1) (step s x) ∧ ∃ en1 st1 fl en2 st2, asg (enc x) (E s) (T s) = .ok en1 st1 ∧ body en1 st1 = .ok (fl, en2) st2 ∧ (fl = .nx ∨ fl = .ct) ∧ held g st2 = true ∧ wipe en2 ws = E (step s x) ∧ trim n (E (step s x)) st2 = T (step s x)) → I i s →
      forR asg body ws n g (xs.map enc) (E s) (T s) = .ok (.nx, E (xs.foldl step s)) (T (xs.foldl step s)) ∧ I (i + xs.length) (xs.foldl step s)
  | [], i, s, _, h0 => ⟨rfl, h0⟩
  | x :: xs, i, s, h, h0 => by
    obtain ⟨hi', en1, st1, fl, en2, st2, e1, e2, hf, hg, hw, ht⟩ := h 0 x s rfl h0
    obtain ⟨r1, r2⟩ := for_foldN enc E T step I xs (i + 1) (step s x) (fun j y s hj hi => by
      have := h (j + 1) y s (by simpa using hj) (by rw [show i + (j + 1) = i + 1 + j by omega]; exact hi)
      rw [show i + 1 + j + 1 = i + (j + 1) + 1 by omega]
      exact this) hi'
    refine ⟨?_, by rw [List.length_cons, show i + (xs.length + 1) = i + 1 + xs.length by omega]; exact r2⟩
    show (asg (enc x) (E s) (T s)).bind _ = _
    rw [e1]
    show (body en1 st1).bind _ = _
    rw [e2]
    have fin : guardB (held g st2) (forR asg body ws n g (xs.map enc) (wipe en2 ws) (trim n (wipe en2 ws) st2)) = .ok (.nx, E ((x :: xs).foldl step s)) (T ((x :: xs).foldl step s)) := by
      rw [hg, guard_true, hw, ht]
      exact r1
    rcases hf with rfl | rfl
    · exact fin
    · exact fin
theorem foldl_snoc {α β : Type} (f : α → β) : ∀ (xs : List α) (acc : List β), xs.foldl (fun s x => s ++ [f x]) acc = acc ++ xs.map f
  | [], acc => by simp
  | x :: xs, acc => by
    rw [List.foldl_cons, foldl_snoc f xs]
    simp
def WfI (es : List D) : Prop := ∀ e ∈ es, ∃ i v, e = .tup [.int i, v]
theorem WfI.nil : WfI [] := fun _ h => by cases h
theorem isK_int (k i : Int) (v : D) : isK (.int k) (.tup [.int i, v]) = decide (i = k) := rfl
theorem WfI.put {es : List D} (h : WfI es) (k : Int) (v : D) : WfI (dput es (.int k) v) := by
  unfold dput
  split
  · intro e he
    obtain ⟨e0, h1, rfl⟩ := List.mem_map.mp he
    split
    · exact ⟨k, v, rfl⟩
    · exact h e0 h1
  · intro e he
    rcases List.mem_append.mp he with h1 | h1
    · exact h e h1
    · rw [List.mem_singleton.mp h1]; exact ⟨k, v, rfl⟩
theorem dget_app {k : Int} : ∀ {es fs : List D}, WfI es → dget (es ++ fs) (.int k) = (dget es (.int k)).orElse fun _ => dget fs (.int k)
  | [], fs, _ => rfl
  | e :: es, fs, h => by
    obtain ⟨i, v, rfl⟩ := h e List.mem_cons_self
    have ih := dget_app (k := k) (es := es) (fs := fs) fun x hx => h x (List.mem_cons_of_mem _ hx)
    rw [List.cons_append, dget_cons, dget_cons]
    split
    · rfl
    · exact ih
theorem dget_none {k : Int} : ∀ {es : List D}, WfI es → es.any (isK (.int k)) = false → dget es (.int k) = none
  | [], _, _ => rfl
  | e :: es, h, ha => by
    obtain ⟨i, v, rfl⟩ := h e List.mem_cons_self
    rw [List.any_cons, Bool.or_eq_false_iff, isK_int] at ha
    rw [dget_cons, keq_int, ha.1]
    exact dget_none (fun x hx => h x (List.mem_cons_of_mem _ hx)) ha.2
theorem dget_map {k k' : Int} {v : D} : ∀ {es : List D}, WfI es → dget (es.map fun e => if isK (.int k) e = true then .tup [.int k, v] else e) (.int k') = if k' = k then (if es.any (isK (.int k)) = true then some v else none) else dget es (.int k')
  | [], _ => by simp [dget]
  | e :: es, h => by
    obtain ⟨i, u, rfl⟩ := h e List.mem_cons_self
    have ih := dget_map (k := k) (k' := k') (v := v) (es := es) fun x hx => h x (List.mem_cons_of_mem _ hx)
    rw [List.map_cons, isK_int, List.any_cons, isK_int]
    by_cases h1 : i = k
    · subst h1
      rw [decide_eq_true rfl, if_pos rfl, dget_cons, keq_int, dget_cons, keq_int, ih]
      by_cases h2 : k' = i
      · subst h2; simp
      · have : ¬ i = k' := fun e => h2 e.symm
        simp [h2, this]
    · rw [decide_eq_false h1, if_neg (by decide), dget_cons, keq_int, dget_cons, keq_int, ih]
      by_cases h2 : k' = k
      · subst h2; simp [h1]
      · simp [h2]
theorem dget_put {es : List D} (h : WfI es) (k k' : Int) (v : D) : dget (dput es (.int k) v) (.int k') = if k' = k then some v else dget es (.int k') := by
  unfold dput
  split
  · rename_i ha
    rw [dget_map h, ha]; simp
  · rename_i ha
    have ha : es.any (isK (.int k)) = false := by simpa using ha
    rw [dget_app h]
    by_cases h2 : k' = k
    · subst h2
      rw [dget_none h ha, if_pos rfl]
      show dget [.tup [.int k', v]] (.int k') = _
      rw [dget_cons, keq_int]; simp
    · rw [if_neg h2]
      have : dget [.tup [.int k, v]] (.int k') = none := by
        rw [dget_cons, keq_int, decide_eq_false (fun e => h2 e.symm)]; rfl
      cases e : dget es (.int k') with
      | none => simpa using this
      | some x => rfl
theorem dput_len (es : List D) (k v : D) : (dput es k v).length ≤ es.length + 1 := by
  unfold dput
  split <;> simp
theorem pureL_app : ∀ (xs ys : List D), D.pureL (xs ++ ys) = (D.pureL xs && D.pureL ys)
  | [], ys => by simp [D.pureL]
  | x :: xs, ys => by simp [D.pureL, pureL_app xs ys, Bool.and_assoc]
theorem pureL_iff : ∀ {xs : List D}, D.pureL xs = true ↔ ∀ x ∈ xs, x.pure = true
  | [] => by simp [D.pureL]
  | x :: xs => by simp [D.pureL, pureL_iff (xs := xs)]
theorem dput_pure {es : List D} {k v : D} (h : D.pureL es = true) (hk : k.pure = true) (hv : v.pure = true) : D.pureL (dput es k v) = true := by
  have hn : (D.tup [k, v]).pure = true := by simp [D.pure, D.pureL, hk, hv]
  rw [pureL_iff] at h ⊢
  unfold dput
  split
  · intro e he
    obtain ⟨e0, h1, rfl⟩ := List.mem_map.mp he
    split
    · exact hn
    · exact h e0 h1
  · intro e he
    rcases List.mem_append.mp he with h1 | h1
    · exact h e h1
    · rw [List.mem_singleton.mp h1]; exact hn
def stepR (asg : D → En → Store → R En) (body : En → Store → R (Fl × En)) (ws : List Nat) (n : Nat) (g : Guard) (x : D) (en : En) (st : Store) : R En :=
  (asg x en st).bind fun en1 s1 => (body en1 s1).bind fun p s2 => match p.1 with
    | .nx => guardB (held g s2) (.ok (wipe p.2 ws) (trim n (wipe p.2 ws) s2))
    | .ct => guardB (held g s2) (.ok (wipe p.2 ws) (trim n (wipe p.2 ws) s2))
    | _ => .bad
section
variable {asg : D → En → Store → R En} {body : En → Store → R (Fl × En)} {ws : List Nat} {n : Nat} {g : Guard}
theorem for_step {x : D} {r : List D} {en en' : En} {st st' : Store} (h : stepR asg body ws n g x en st = .ok en' st') : forR asg body ws n g (x :: r) en st = forR asg body ws n g r en' st' := by
  unfold stepR at h
  cases e1 : asg x en st with
  | ok en1 s1 =>
    rw [e1] at h
    have h : (body en1 s1).bind _ = _ := h
    cases e2 : body en1 s1 with
    | ok p s2 =>
      rw [e2] at h
      obtain ⟨fl, en2⟩ := p
      show (asg x en st).bind _ = _
      rw [e1]
      show (body en1 s1).bind _ = _
      rw [e2]
      cases fl with
      | nx =>
        have h : guardB (held g s2) (.ok (wipe en2 ws) (trim n (wipe en2 ws) s2)) = .ok en' st' := h
        show guardB (held g s2) (forR asg body ws n g r (wipe en2 ws) (trim n (wipe en2 ws) s2)) = _
        unfold guardB at h ⊢
        cases hg : held g s2 with
        | false => rw [hg] at h; cases h
        | true => rw [hg] at h; cases h; rfl
      | ct =>
        have h : guardB (held g s2) (.ok (wipe en2 ws) (trim n (wipe en2 ws) s2)) = .ok en' st' := h
        show guardB (held g s2) (forR asg body ws n g r (wipe en2 ws) (trim n (wipe en2 ws) s2)) = _
        unfold guardB at h ⊢
        cases hg : held g s2 with
        | false => rw [hg] at h; cases h
        | true => rw [hg] at h; cases h; rfl
      | brk => cases h
      | rt d => cases h
    | exc e s => rw [e2] at h; cases h
    | bad => rw [e2] at h; cases h
  | exc e s => rw [e1] at h; cases h
  | bad => rw [e1] at h; cases h
theorem for_eq {α S : Type} (enc : α → D) (E : S → En) (T : S → Store) (step : S → α → S) (I : Nat → S → Prop) (xs : List α) (s : S) (h0 : I 0 s)
    (h : ∀ j x s, xs[j]? = some x → I j s → I (j + 1) (step s x) ∧ stepR asg body ws n g (enc x) (E s) (T s) = .ok (E (step s x)) (T (step s x))) :
    forR asg body ws n g (xs.map enc) (E s) (T s) = .ok (.nx, E (xs.foldl step s)) (T (xs.foldl step s)) := by
  have gen : ∀ (ys : List α) (i : Nat) (s : S), (∀ j x s, ys[j]? = some x → I (i + j) s → I (i + j + 1) (step s x) ∧ stepR asg body ws n g (enc x) (E s) (T s) = .ok (E (step s x)) (T (step s x))) → I i s →
      forR asg body ws n g (ys.map enc) (E s) (T s) = .ok (.nx, E (ys.foldl step s)) (T (ys.foldl step s)) := by
    intro ys
    induction ys with
    | nil => intro i s _ _; rfl
    | cons y ys ih =>
      intro i s h hi
      obtain ⟨h1, h2⟩ := h 0 y s rfl hi
      rw [List.map_cons, for_step h2]
      exact ih (i + 1) (step s y) (fun j x s hj hi => by
        have := h (j + 1) x s (by simpa using hj) (by rw [show i + (j + 1) = i + 1 + j by omega]; exact hi)
        rw [show i + 1 + j + 1 = i + (j + 1) + 1 by omega]
        exact this) h1
  exact gen xs 0 s (fun j x s hj hi => by rw [Nat.zero_add] at hi ⊢; exact h j x s hj hi) h0
theorem for_eqs {α S : Type} {en : En} {st : Store} (enc : α → D) (E : S → En) (T : S → Store) (step : S → α → S) (I : Nat → S → Prop) (xs : List α) (s : S) (he : en = E s) (hs : st = T s) (h0 : I 0 s)
    (h : ∀ j x s, xs[j]? = some x → I j s → I (j + 1) (step s x) ∧ stepR asg body ws n g (enc x) (E s) (T s) = .ok (E (step s x)) (T (step s x))) :
    forR asg body ws n g (xs.map enc) en st = .ok (.nx, E (xs.foldl step s)) (T (xs.foldl step s)) := by
  rw [he, hs]
  exact for_eq enc E T step I xs s h0 h
theorem for_ex (I : Nat → En → Store → Prop) (items : List D) (en : En) (st : Store) (h0 : I 0 en st) (h : ∀ j x en st, items[j]? = some x → I j en st → ∃ en' st', stepR asg body ws n g x en st = .ok en' st' ∧ I (j + 1) en' st') :
    ∃ en' st', forR asg body ws n g items en st = .ok (.nx, en') st' ∧ I items.length en' st' := by
  have gen : ∀ (ys : List D) (i : Nat) (en : En) (st : Store), (∀ j x en st, ys[j]? = some x → I (i + j) en st → ∃ en' st', stepR asg body ws n g x en st = .ok en' st' ∧ I (i + j + 1) en' st') → I i en st → ∃ en' st', forR asg body ws n g ys en st = .ok (.nx, en') st' ∧ I (i + ys.length) en' st' := by
    intro ys
    induction ys with
    | nil => intro i en st _ hi; exact ⟨en, st, rfl, hi⟩
    | cons y ys ih =>
      intro i en st h hi
      obtain ⟨en1, st1, h1, h2⟩ := h 0 y en st rfl hi
      rw [for_step h1, List.length_cons, show i + (ys.length + 1) = i + 1 + ys.length by omega]
      exact ih (i + 1) en1 st1 (fun j x en st hj hi => by
        have := h (j + 1) x en st (by simpa using hj) (by rw [show i + (j + 1) = i + 1 + j by omega]; exact hi)
        rw [show i + 1 + j + 1 = i + (j + 1) + 1 by omega]
        exact this) h2
  have := gen items 0 en st (fun j x en st hj hi => by rw [Nat.zero_add] at hi ⊢; exact h j x en st hj hi) h0
  rwa [Nat.zero_add] at this
end
@[simp] theorem bi_tup_ref (n : Nat) (st : Store) : biD .tuple [.ref n] st = opt (tupB ((st[n]?).getD (.ref n))) st := rfl
@[simp] theorem bi_len_ref (n : Nat) (st : Store) : biD .len [.ref n] st = opt (lenB ((st[n]?).getD (.ref n))) st := rfl
@[simp] theorem tupB_lst (xs : List D) : tupB (.lst xs) = some (.tup xs) := rfl
@[simp] theorem lenB_lst (xs : List D) : lenB (.lst xs) = some (.int xs.length) := rfl
@[simp] theorem lenB_dct (xs : List D) : lenB (.dct xs) = some (.int xs.length) := rfl
theorem filterMap_if {α : Type} (p : α → Bool) : ∀ xs : List α, xs.filterMap (fun r => if p r = true then some r else none) = xs.filter p
  | [] => rfl
  | x :: xs => by
    have ih := filterMap_if p xs
    cases h : p x with
    | true => rw [List.filterMap_cons_some (by rw [h]; rfl), List.filter_cons_of_pos h, ih]
    | false => rw [List.filterMap_cons_none (by rw [h]; rfl), List.filter_cons_of_neg (by rw [h]; decide), ih]
@[simp] theorem in_tup' (x : D) (ys : List D) (st : Store) : cmpD .in_ x (.tup ys) st = opt ((inD x ys).map D.bl) st := rfl
@[simp] theorem in_lst' (x : D) (ys : List D) (st : Store) : cmpD .in_ x (.lst ys) st = opt ((inD x ys).map D.bl) st := rfl
@[simp] theorem notin_lst' (x : D) (ys : List D) (st : Store) : cmpD .notin x (.lst ys) st = opt (((inD x ys).map (!·)).map D.bl) st := rfl
@[simp] theorem in_dct' (x : D) (ys : List D) (st : Store) : cmpD .in_ x (.dct ys) st = opt ((if isKey x = true then some (dget ys x).isSome else none).map D.bl) st := rfl
@[simp] theorem notin_dct' (x : D) (ys : List D) (st : Store) : cmpD .notin x (.dct ys) st = opt (((if isKey x = true then some (dget ys x).isSome else none).map (!·)).map D.bl) st := rfl
theorem inD_def (x : D) (ys : List D) : inD x ys = if flatD x = true ∧ ys.all flatD = true then some (ys.any fun y => eqF y x) else none := rfl
@[simp] theorem key_int (i : Int) : isKey (.int i) = true := rfl
@[simp] theorem key_str (i : Str) : isKey (.str i) = true := rfl
mutual
theorem dbeq_refl : ∀ d : D, D.beq d d = true
  | .non => rfl
  | .bl b => by simp [D.beq]
  | .int b => by simp [D.beq]
  | .str b => by simp [D.beq]
  | .tup xs => by simp only [D.beq]; exact dbeqL_refl xs
  | .lst xs => by simp only [D.beq]; exact dbeqL_refl xs
  | .dct xs => by simp only [D.beq]; exact dbeqL_refl xs
  | .ref b => by simp [D.beq]
  | .fn b xs => by simp only [D.beq, Bool.and_eq_true, decide_eq_true_eq]; exact ⟨trivial, dbeqL_refl xs⟩
theorem dbeqL_refl : ∀ d : List D, D.beqL d d = true
  | [] => rfl
  | x :: xs => by simp only [D.beqL, Bool.and_eq_true]; exact ⟨dbeq_refl x, dbeqL_refl xs⟩
end
theorem held_one {n : Nat} {c : D} {st : Store} (h : st[n]? = some c) : held [(n, c)] st = true := by
  simp [held, h, dbeq_refl]
def dp : Nat → D → Bool
  | 0, _ => false
  | n + 1, .tup xs => xs.all (dp n)
  | n + 1, .lst xs => xs.all (dp n)
  | n + 1, .dct xs => xs.all (dp n)
  | _ + 1, .ref _ => false
  | _ + 1, .fn _ _ => false
  | _ + 1, _ => true
theorem dp_pure : ∀ (n : Nat) (d : D), dp n d = true → d.pure = true
  | 0, _, h => by cases h
  | n + 1, .tup xs, h => by simp only [D.pure]; rw [pureL_iff]; exact fun x hx => dp_pure n x (List.all_eq_true.mp h x hx)
  | n + 1, .lst xs, h => by simp only [D.pure]; rw [pureL_iff]; exact fun x hx => dp_pure n x (List.all_eq_true.mp h x hx)
  | n + 1, .dct xs, h => by simp only [D.pure]; rw [pureL_iff]; exact fun x hx => dp_pure n x (List.all_eq_true.mp h x hx)
  | _ + 1, .non, _ => rfl
  | _ + 1, .bl _, _ => rfl
  | _ + 1, .int _, _ => rfl
  | _ + 1, .str _, _ => rfl
  | _ + 1, .ref _, h => by cases h
  | _ + 1, .fn _ _, h => by cases h
theorem mapO_id {f : D → Option D} : ∀ {xs : List D}, (∀ x ∈ xs, f x = some x) → mapO f xs = some xs
  | [], _ => rfl
  | x :: xs, h => by
    unfold mapO
    rw [h x List.mem_cons_self, mapO_id fun y hy => h y (List.mem_cons_of_mem _ hy)]; rfl
theorem frz_dp (rs : List Nat) (st : Store) : ∀ (n : Nat) (d : D) (m : Nat), dp n d = true → n ≤ m → frz rs st m d = some d
  | 0, _, _, h, _ => by cases h
  | n + 1, d, 0, _, hm => by omega
  | n + 1, .tup xs, m + 1, h, hm => by
    show (mapO (frz rs st m) xs).map D.tup = _
    rw [mapO_id fun x hx => frz_dp rs st n x m (List.all_eq_true.mp h x hx) (by omega)]; rfl
  | n + 1, .lst xs, m + 1, h, hm => by
    show (mapO (frz rs st m) xs).map D.lst = _
    rw [mapO_id fun x hx => frz_dp rs st n x m (List.all_eq_true.mp h x hx) (by omega)]; rfl
  | n + 1, .dct xs, m + 1, h, hm => by
    show (mapO (frz rs st m) xs).map D.dct = _
    rw [mapO_id fun x hx => frz_dp rs st n x m (List.all_eq_true.mp h x hx) (by omega)]; rfl
  | _ + 1, .non, _ + 1, _, _ => rfl
  | _ + 1, .bl _, _ + 1, _, _ => rfl
  | _ + 1, .int _, _ + 1, _, _ => rfl
  | _ + 1, .str _, _ + 1, _, _ => rfl
  | _ + 1, .ref _, _ + 1, h, _ => by cases h
  | _ + 1, .fn _ _, _ + 1, h, _ => by cases h
theorem dput_dp {n : Nat} {es : List D} {k v : D} (h : es.all (dp (n + 1)) = true) (hk : dp n k = true) (hv : dp n v = true) : (dput es k v).all (dp (n + 1)) = true := by
  have hn : dp (n + 1) (D.tup [k, v]) = true := by simp [dp, hk, hv]
  rw [List.all_eq_true] at h ⊢
  unfold dput
  split
  · intro e he
    obtain ⟨e0, h1, rfl⟩ := List.mem_map.mp he
    split
    · exact hn
    · exact h e0 h1
  · intro e he
    rcases List.mem_append.mp he with h1 | h1
    · exact h e h1
    · rw [List.mem_singleton.mp h1]; exact hn
/-- a call without cells whose result is made of its own cells -/
theorem call_frz {cf : CallF} {f : Nat} {xs : List D} {st cs' : Store} {d d' : D} (hx : xs.all D.pure = true) (h : cf f xs [] = .ok d cs') (hd : back [] cs' d = some d') : callIn cf f xs [] false st = .ok d' st := by
  have hc : cellsAt st [] = some [] := rfl
  have hp : putBack [] cs' 0 [] st = some st := rfl
  simp only [callIn, prep_pure xs st 0 0 hx, hc, h, callBack, hp, hd]
  rfl
end PyE

namespace K83
open PySem PyE
abbrev f_xored : Nat := 0
abbrev f_weighed : Nat := 1
abbrev f_head_of : Nat := 2
abbrev f_foot_of : Nat := 3
abbrev f_frame : Nat := 4
abbrev f_frames_of : Nat := 5
abbrev f_is_int : Nat := 6
abbrev f_is_number : Nat := 7
abbrev f_is_tuple : Nat := 8
abbrev f_counted : Nat := 9
abbrev f_packed : Nat := 10
abbrev f_plain_part : Nat := 11
abbrev f_unpacked : Nat := 12
abbrev f_is_between : Nat := 13
abbrev f_is_sure_told : Nat := 14
abbrev f_is_row : Nat := 15
abbrev f_journal_octets : Nat := 16
abbrev f_row_of_frame : Nat := 17
abbrev f_read_journal : Nat := 18
abbrev f__law_box : Nat := 19
abbrev f__law_take : Nat := 20
abbrev f__law_pick : Nat := 21
abbrev f__law_same : Nat := 22
abbrev f__law_bent : Nat := 23
abbrev f__law_is_number : Nat := 24
abbrev f__law_is_sure : Nat := 25
abbrev f__law_is_row : Nat := 26
abbrev f__law_some_form : Nat := 27
abbrev f_law : Nat := 28
abbrev f_Reader_init : Nat := 29
abbrev f_Reader_one : Nat := 30
abbrev f_Reader_number : Nat := 31
abbrev f_Reader_sign : Nat := 32
def b_xored_0 : Ss := (.cons (.asg (.name 1) (.bin .xor (.var 1) (.var 2))) .nil)
def c_xored : Fd := ⟨1, 3, (.cons (.asg (.name 1) (.lit (.int 0))) (.cons (.for_ (.name 2) (.val (.var 0)) [2] b_xored_0) (.cons (.ret (.var 1)) .nil)))⟩
def c_weighed : Fd := ⟨1, 3, (.cons (.ret (.bin .mod (.bi .sum (.cons (.lc [1, 2] (.tup (.cons (.name 1) (.cons (.name 2) .nil))) (.enum (.var 0)) .none (.bin .mul (.bin .add (.var 1) (.lit (.int 1))) (.var 2))) .nil)) (.lit (.int 65521)))) .nil)⟩
def c_head_of : Fd := ⟨2, 3, (.cons (.asg (.name 2) (.tup (.cons (.var 0) (.cons (.bin .fdiv (.var 1) (.lit (.int 256))) (.cons (.bin .mod (.var 1) (.lit (.int 256))) .nil))))) (.cons (.ret (.bin .add (.var 2) (.tup (.cons (.call f_xored (.cons (.var 2) .nil) [] false) .nil)))) .nil))⟩
def c_foot_of : Fd := ⟨1, 2, (.cons (.asg (.name 1) (.call f_weighed (.cons (.var 0) .nil) [] false)) (.cons (.ret (.tup (.cons (.call f_xored (.cons (.var 0) .nil) [] false) (.cons (.bin .fdiv (.var 1) (.lit (.int 256))) (.cons (.bin .mod (.var 1) (.lit (.int 256))) .nil))))) .nil))⟩
def c_frame : Fd := ⟨2, 2, (.cons (.ret (.bin .add (.bin .add (.call f_head_of (.cons (.var 0) (.cons (.bi .len (.cons (.var 1) .nil)) .nil)) [] false) (.bi .tuple (.cons (.var 1) .nil))) (.call f_foot_of (.cons (.var 1) .nil) [] false))) .nil)⟩
def b_frames_of_0 : Ss := (.cons (.ife (.cmp .lt (.bin .sub (.bi .len (.cons (.var 0) .nil)) (.var 2)) (.lit (.int 4))) (.cons (.ret (.tup (.cons (.bi .tuple (.cons (.var 1) .nil)) (.cons (.tup (.cons (.lit (.str (Str.ofString "torn"))) (.cons (.bi .len (.cons (.var 1) .nil)) .nil))) .nil)))) .nil) .nil) (.cons (.asg (.tup (.cons (.name 6) (.cons (.name 7) (.cons (.name 8) (.cons (.name 9) .nil))))) (.sl (.var 0) (.some (.var 2)) (.some (.bin .add (.var 2) (.lit (.int 4)))))) (.cons (.asg (.name 3) (.bin .add (.bin .mul (.var 7) (.lit (.int 256))) (.var 8))) (.cons (.ife (.cmp .ne (.ix (.call f_head_of (.cons (.var 6) (.cons (.var 3) .nil)) [] false) (.lit (.int 3))) (.var 9)) (.cons (.ret (.tup (.cons (.bi .tuple (.cons (.var 1) .nil)) (.cons (.tup (.cons (.lit (.str (Str.ofString "changed"))) (.cons (.bi .len (.cons (.var 1) .nil)) .nil))) .nil)))) .nil) .nil) (.cons (.asg (.name 4) (.bin .add (.bin .add (.bin .add (.var 2) (.lit (.int 4))) (.var 3)) (.lit (.int 3)))) (.cons (.ife (.cmp .gt (.var 4) (.bi .len (.cons (.var 0) .nil))) (.cons (.ret (.tup (.cons (.bi .tuple (.cons (.var 1) .nil)) (.cons (.tup (.cons (.lit (.str (Str.ofString "torn"))) (.cons (.bi .len (.cons (.var 1) .nil)) .nil))) .nil)))) .nil) .nil) (.cons (.asg (.name 5) (.sl (.var 0) (.some (.bin .add (.var 2) (.lit (.int 4)))) (.some (.bin .add (.bin .add (.var 2) (.lit (.int 4))) (.var 3))))) (.cons (.ife (.cmp .ne (.call f_foot_of (.cons (.var 5) .nil) [] false) (.sl (.var 0) (.some (.bin .sub (.var 4) (.lit (.int 3)))) (.some (.var 4)))) (.cons (.ret (.tup (.cons (.bi .tuple (.cons (.var 1) .nil)) (.cons (.tup (.cons (.lit (.str (Str.ofString "changed"))) (.cons (.bi .len (.cons (.var 1) .nil)) .nil))) .nil)))) .nil) .nil) (.cons (.expr (.mt .append (.var 1) (.cons (.tup (.cons (.var 6) (.cons (.var 5) .nil))) .nil))) (.cons (.asg (.name 2) (.var 4)) .nil))))))))))
def c_frames_of : Fd := ⟨1, 10, (.cons (.asg (.tup (.cons (.name 1) (.cons (.name 2) (.cons (.name 0) .nil)))) (.tup (.cons (.mut (.list .nil)) (.cons (.lit (.int 0)) (.cons (.bi .tuple (.cons (.var 0) .nil)) .nil))))) (.cons (.while_ (.cmp .lt (.var 2) (.bi .len (.cons (.var 0) .nil))) [4, 9, 7, 6, 3, 8, 5] b_frames_of_0) (.cons (.ret (.tup (.cons (.bi .tuple (.cons (.var 1) .nil)) (.cons (.lit .non) .nil)))) .nil)))⟩
def c_is_int : Fd := ⟨1, 1, (.cons (.ret (.and (.isi (.var 0) [.int]) (.not (.isi (.var 0) [.bool])))) .nil)⟩
def c_is_number : Fd := ⟨3, 3, (.cons (.ret (.and (.call f_is_int (.cons (.var 0) .nil) [] false) (.and (.cmp .ge (.var 0) (.var 1)) (.or (.cmp .is (.var 2) (.lit .non)) (.cmp .le (.var 0) (.var 2)))))) .nil)⟩
def c_is_tuple : Fd := ⟨2, 2, (.cons (.ret (.and (.isi (.var 0) [.tuple]) (.or (.cmp .is (.var 1) (.lit .non)) (.cmp .eq (.bi .len (.cons (.var 0) .nil)) (.var 1))))) .nil)⟩
def b_counted_0 : Ss := (.cons (.expr (.mt .append (.var 1) (.cons (.bin .add (.bin .mod (.var 0) (.lit (.int 128))) (.lit (.int 128))) .nil))) (.cons (.asg (.name 0) (.bin .fdiv (.var 0) (.lit (.int 128)))) .nil))
def c_counted : Fd := ⟨1, 2, (.cons (.asg (.name 1) (.mut (.list .nil))) (.cons (.while_ (.cmp .gt (.var 0) (.lit (.int 127))) [] b_counted_0) (.cons (.ret (.bin .add (.var 1) (.list (.cons (.var 0) .nil)))) .nil)))⟩
def b_packed_0 : Ss := (.cons (.expr (.mt .append (.var 1) (.cons (.mt .sindex (.lit (.str (Str.ofString " !\"#$&'()*+,-./0123456789:;<=>?@ABCDEFGHIJKLMNOPQRSTUVWXYZ[\\]^_`abcdefghijklmnopqrstuvwxyz{|}~"))) (.cons (.var 4) .nil)) .nil))) .nil)
def b_packed_1 : Ss := (.cons (.asg (.name 3) (.mt .pop (.var 2) .nil)) (.cons (.ife (.cmp .is (.var 3) (.lit .non)) (.cons (.expr (.mt .append (.var 1) (.cons (.lit (.int 0)) .nil))) .nil) (.cons (.ife (.or (.cmp .is (.var 3) (.lit (.bl true))) (.cmp .is (.var 3) (.lit (.bl false)))) (.cons (.expr (.mt .append (.var 1) (.cons (.ife (.var 3) (.lit (.int 2)) (.lit (.int 1))) .nil))) .nil) (.cons (.ife (.call f_is_int (.cons (.var 3) .nil) [] false) (.cons (.expr (.mt .extend (.var 1) (.cons (.bin .add (.list (.cons (.ife (.cmp .ge (.var 3) (.lit (.int 0))) (.lit (.int 3)) (.lit (.int 4))) .nil)) (.call f_counted (.cons (.bi .abs (.cons (.var 3) .nil)) .nil) [] false)) .nil))) .nil) (.cons (.ife (.isi (.var 3) [.str]) (.cons (.expr (.mt .extend (.var 1) (.cons (.bin .add (.list (.cons (.lit (.int 5)) .nil)) (.call f_counted (.cons (.bi .len (.cons (.var 3) .nil)) .nil) [] false)) .nil))) (.cons (.for_ (.name 4) (.val (.var 3)) [4] b_packed_0) .nil)) (.cons (.expr (.mt .extend (.var 1) (.cons (.bin .add (.list (.cons (.lit (.int 6)) .nil)) (.call f_counted (.cons (.bi .len (.cons (.var 3) .nil)) .nil) [] false)) .nil))) (.cons (.expr (.mt .extend (.var 2) (.cons (.rev (.bi .list (.cons (.var 3) .nil))) .nil))) .nil))) .nil)) .nil)) .nil)) .nil))
def c_packed : Fd := ⟨1, 5, (.cons (.asg (.tup (.cons (.name 1) (.cons (.name 2) .nil))) (.tup (.cons (.mut (.list .nil)) (.cons (.mut (.list (.cons (.var 0) .nil))) .nil)))) (.cons (.while_ (.cmp .gt (.bi .len (.cons (.var 2) .nil)) (.lit (.int 0))) [3, 4] b_packed_1) (.cons (.ret (.bi .tuple (.cons (.var 1) .nil))) .nil)))⟩
def c_plain_part : Fd := ⟨2, 4, (.cons (.ife (.cmp .in_ (.var 1) (.tup (.cons (.lit (.int 0)) (.cons (.lit (.int 1)) (.cons (.lit (.int 2)) .nil))))) (.cons (.ret (.ix (.tup (.cons (.lit .non) (.cons (.lit (.bl false)) (.cons (.lit (.bl true)) .nil)))) (.var 1))) .nil) .nil) (.cons (.ife (.cmp .in_ (.var 1) (.tup (.cons (.lit (.int 3)) (.cons (.lit (.int 4)) .nil)))) (.cons (.asg (.name 2) (.meth "Reader" "number" f_Reader_number (.var 0) .nil)) (.cons (.ife (.and (.cmp .eq (.var 1) (.lit (.int 4))) (.cmp .eq (.var 2) (.lit (.int 0)))) (.cons .nope .nil) .nil) (.cons (.ret (.ife (.cmp .eq (.var 1) (.lit (.int 3))) (.var 2) (.bin .sub (.lit (.int 0)) (.var 2)))) .nil))) .nil) (.cons (.ife (.cmp .ne (.var 1) (.lit (.int 5))) (.cons .nope .nil) .nil) (.cons (.ret (.mt .join (.lit (.str (Str.ofString ""))) (.cons (.lc [3] (.name 3) (.range1 (.meth "Reader" "number" f_Reader_number (.var 0) .nil)) .none (.meth "Reader" "sign" f_Reader_sign (.var 0) .nil)) .nil))) .nil))))⟩
def b_unpacked_0 : Ss := (.cons (.ife (.cmp .eq (.ix (.ix (.var 2) (.neg (.lit (.int 1)))) (.lit (.int 1))) (.lit (.int 0))) (.cons (.asg (.name 3) (.bi .tuple (.cons (.ix (.mt .pop (.var 2) .nil) (.lit (.int 0))) .nil))) (.cons (.expr (.mt .append (.ix (.ix (.var 2) (.neg (.lit (.int 1)))) (.lit (.int 0))) (.cons (.var 3) .nil))) (.cons (.subaug (.ix (.var 2) (.neg (.lit (.int 1)))) (.lit (.int 1)) .sub (.lit (.int 1))) .nil))) (.cons (.asg (.name 4) (.meth "Reader" "one" f_Reader_one (.var 1) .nil)) (.cons (.ife (.cmp .eq (.var 4) (.lit (.int 6))) (.cons (.asg (.name 5) (.meth "Reader" "number" f_Reader_number (.var 1) .nil)) (.cons (.ife (.cmp .gt (.var 5) (.bi .len (.cons (.var 0) .nil))) (.cons .nope .nil) .nil) (.cons (.expr (.mt .append (.var 2) (.cons (.mut (.list (.cons (.mut (.list .nil)) (.cons (.var 5) .nil)))) .nil))) .nil))) (.cons (.expr (.mt .append (.ix (.ix (.var 2) (.neg (.lit (.int 1)))) (.lit (.int 0))) (.cons (.callS f_plain_part (.cons (.var 1) (.cons (.var 4) .nil))) .nil))) (.cons (.subaug (.ix (.var 2) (.neg (.lit (.int 1)))) (.lit (.int 1)) .sub (.lit (.int 1))) .nil))) .nil))) .nil)
def c_unpacked : Fd := ⟨1, 6, (.cons (.asg (.tup (.cons (.name 1) (.cons (.name 2) .nil))) (.tup (.cons (.new "Reader" f_Reader_init (.cons (.var 0) .nil)) (.cons (.mut (.list (.cons (.mut (.list (.cons (.mut (.list .nil)) (.cons (.lit (.int 1)) .nil)))) .nil))) .nil)))) (.cons (.while_ (.or (.cmp .gt (.bi .len (.cons (.var 2) .nil)) (.lit (.int 1))) (.cmp .gt (.ix (.ix (.var 2) (.lit (.int 0))) (.lit (.int 1))) (.lit (.int 0)))) [5, 4, 3] b_unpacked_0) (.cons (.ife (.cmp .lt (.fld "Reader" (.var 1) "spot") (.bi .len (.cons (.var 0) .nil))) (.cons .nope .nil) .nil) (.cons (.ret (.ix (.ix (.ix (.var 2) (.lit (.int 0))) (.lit (.int 0))) (.lit (.int 0)))) .nil))))⟩
def c_is_between : Fd := ⟨1, 1, (.cons (.ret (.and (.call f_is_number (.cons (.ix (.var 0) (.lit (.int 0))) (.cons (.lit (.int 0)) (.cons (.lit .non) .nil))) [] false) (.and (.call f_is_number (.cons (.ix (.var 0) (.lit (.int 1))) (.cons (.neg (.lit (.int 1))) (.cons (.lit .non) .nil))) [] false) (.or (.cmp .is (.ix (.var 0) (.lit (.int 2))) (.lit .non)) (.call f_is_number (.cons (.ix (.var 0) (.lit (.int 2))) (.cons (.lit (.int 0)) (.cons (.lit .non) .nil))) [] false))))) .nil)⟩
def c_is_sure_told : Fd := ⟨1, 1, (.cons (.ife (.or (.not (.call f_is_tuple (.cons (.var 0) (.cons (.lit (.int 2)) .nil)) [] false)) (.not (.isi (.ix (.var 0) (.lit (.int 1))) [.bool]))) (.cons (.ret (.lit (.bl false))) .nil) .nil) (.cons (.ret (.or (.cmp .is (.ix (.var 0) (.lit (.int 0))) (.lit .non)) (.call f_is_number (.cons (.ix (.var 0) (.lit (.int 0))) (.cons (.lit (.int 0)) (.cons (.lit .non) .nil))) [] false))) .nil))⟩
def c_is_row : Fd := ⟨1, 1, (.cons (.ife (.or (.not (.call f_is_tuple (.cons (.var 0) (.cons (.lit .non) .nil)) [] false)) (.or (.cmp .eq (.bi .len (.cons (.var 0) .nil)) (.lit (.int 0))) (.or (.not (.isi (.ix (.var 0) (.lit (.int 0))) [.str])) (.cmp .notin (.ix (.var 0) (.lit (.int 0))) (.lit (.tup [(.str (Str.ofString "event")), (.str (Str.ofString "ask")), (.str (Str.ofString "facts")), (.str (Str.ofString "slipped")), (.str (Str.ofString "blame")), (.str (Str.ofString "plan")), (.str (Str.ofString "watch")), (.str (Str.ofString "told")), (.str (Str.ofString "seal")), (.str (Str.ofString "cut"))])))))) (.cons (.ret (.lit (.bl false))) .nil) .nil) (.cons (.ife (.cmp .ne (.bi .len (.cons (.var 0) .nil)) (.ix (.lit (.tup [(.int 2), (.int 5), (.int 3), (.int 2), (.int 2), (.int 5), (.int 6), (.int 3), (.int 1), (.int 1)])) (.mt .tindex (.lit (.tup [(.str (Str.ofString "event")), (.str (Str.ofString "ask")), (.str (Str.ofString "facts")), (.str (Str.ofString "slipped")), (.str (Str.ofString "blame")), (.str (Str.ofString "plan")), (.str (Str.ofString "watch")), (.str (Str.ofString "told")), (.str (Str.ofString "seal")), (.str (Str.ofString "cut"))])) (.cons (.ix (.var 0) (.lit (.int 0))) .nil)))) (.cons (.ret (.lit (.bl false))) .nil) .nil) (.cons (.ife (.cmp .eq (.ix (.var 0) (.lit (.int 0))) (.lit (.str (Str.ofString "ask")))) (.cons (.ret (.call f_is_between (.cons (.sl (.var 0) (.some (.lit (.int 1))) (.some (.lit (.int 4)))) .nil) [] false)) .nil) .nil) (.cons (.ife (.cmp .eq (.ix (.var 0) (.lit (.int 0))) (.lit (.str (Str.ofString "watch")))) (.cons (.ret (.and (.call f_is_between (.cons (.sl (.var 0) (.some (.lit (.int 1))) (.some (.lit (.int 4)))) .nil) [] false) (.and (.call f_is_number (.cons (.ix (.var 0) (.lit (.int 4))) (.cons (.lit (.int 0)) (.cons (.lit .non) .nil))) [] false) (.call f_is_sure_told (.cons (.ix (.var 0) (.lit (.int 5))) .nil) [] false)))) .nil) .nil) (.cons (.ife (.cmp .eq (.ix (.var 0) (.lit (.int 0))) (.lit (.str (Str.ofString "told")))) (.cons (.ret (.and (.call f_is_number (.cons (.ix (.var 0) (.lit (.int 1))) (.cons (.lit (.int 0)) (.cons (.lit .non) .nil))) [] false) (.or (.cmp .is (.ix (.var 0) (.lit (.int 2))) (.lit .non)) (.call f_is_sure_told (.cons (.ix (.var 0) (.lit (.int 2))) .nil) [] false)))) .nil) .nil) (.cons (.ife (.cmp .eq (.ix (.var 0) (.lit (.int 0))) (.lit (.str (Str.ofString "plan")))) (.cons (.ret (.and (.call f_is_tuple (.cons (.ix (.var 0) (.lit (.int 1))) (.cons (.lit .non) .nil)) [] false) (.and (.call f_is_number (.cons (.ix (.var 0) (.lit (.int 2))) (.cons (.lit (.int 0)) (.cons (.lit .non) .nil))) [] false) (.call f_is_number (.cons (.ix (.var 0) (.lit (.int 3))) (.cons (.lit (.int 0)) (.cons (.lit .non) .nil))) [] false)))) .nil) .nil) (.cons (.ret (.or (.cmp .ne (.ix (.var 0) (.lit (.int 0))) (.lit (.str (Str.ofString "facts")))) (.call f_is_number (.cons (.ix (.var 0) (.lit (.int 1))) (.cons (.lit (.int 0)) (.cons (.lit .non) .nil))) [] false))) .nil)))))))⟩
def b_journal_octets_0 : Ss := (.cons (.expr (.mt .extend (.var 1) (.cons (.call f_frame (.cons (.mt .tindex (.lit (.tup [(.str (Str.ofString "event")), (.str (Str.ofString "ask")), (.str (Str.ofString "facts")), (.str (Str.ofString "slipped")), (.str (Str.ofString "blame")), (.str (Str.ofString "plan")), (.str (Str.ofString "watch")), (.str (Str.ofString "told")), (.str (Str.ofString "seal")), (.str (Str.ofString "cut"))])) (.cons (.ix (.var 2) (.lit (.int 0))) .nil)) (.cons (.call f_packed (.cons (.sl (.var 2) (.some (.lit (.int 1))) .none) .nil) [] false) .nil)) [] false) .nil))) .nil)
def c_journal_octets : Fd := ⟨1, 3, (.cons (.asg (.name 1) (.mut (.list .nil))) (.cons (.for_ (.name 2) (.val (.var 0)) [2] b_journal_octets_0) (.cons (.ret (.bi .tuple (.cons (.var 1) .nil))) .nil)))⟩
def c_row_of_frame : Fd := ⟨2, 3, (.cons (.try_ (.cons (.asg (.name 2) (.call f_unpacked (.cons (.var 1) .nil) [] false)) .nil)) (.cons (.ife (.or (.cmp .ge (.var 0) (.bi .len (.cons (.lit (.tup [(.str (Str.ofString "event")), (.str (Str.ofString "ask")), (.str (Str.ofString "facts")), (.str (Str.ofString "slipped")), (.str (Str.ofString "blame")), (.str (Str.ofString "plan")), (.str (Str.ofString "watch")), (.str (Str.ofString "told")), (.str (Str.ofString "seal")), (.str (Str.ofString "cut"))])) .nil))) (.not (.call f_is_tuple (.cons (.var 2) (.cons (.lit .non) .nil)) [] false))) (.cons (.ret (.lit .non)) .nil) .nil) (.cons (.ret (.ife (.call f_is_row (.cons (.bin .add (.tup (.cons (.ix (.lit (.tup [(.str (Str.ofString "event")), (.str (Str.ofString "ask")), (.str (Str.ofString "facts")), (.str (Str.ofString "slipped")), (.str (Str.ofString "blame")), (.str (Str.ofString "plan")), (.str (Str.ofString "watch")), (.str (Str.ofString "told")), (.str (Str.ofString "seal")), (.str (Str.ofString "cut"))])) (.var 0)) .nil)) (.var 2)) .nil) [] false) (.bin .add (.tup (.cons (.ix (.lit (.tup [(.str (Str.ofString "event")), (.str (Str.ofString "ask")), (.str (Str.ofString "facts")), (.str (Str.ofString "slipped")), (.str (Str.ofString "blame")), (.str (Str.ofString "plan")), (.str (Str.ofString "watch")), (.str (Str.ofString "told")), (.str (Str.ofString "seal")), (.str (Str.ofString "cut"))])) (.var 0)) .nil)) (.var 2)) (.lit .non))) .nil)))⟩
def b_read_journal_0 : Ss := (.cons (.asg (.name 3) (.call f_row_of_frame (.cons (.var 6) (.cons (.var 7) .nil)) [] false)) (.cons (.ife (.cmp .is (.var 3) (.lit .non)) (.cons (.ret (.tup (.cons (.bi .tuple (.cons (.var 1) .nil)) (.cons (.tup (.cons (.lit (.str (Str.ofString "changed"))) (.cons (.var 2) .nil))) .nil)))) .nil) .nil) (.cons (.expr (.mt .append (.var 1) (.cons (.var 3) .nil))) .nil)))
def c_read_journal : Fd := ⟨1, 8, (.cons (.asg (.tup (.cons (.name 1) (.cons (.tup (.cons (.name 4) (.cons (.name 5) .nil))) .nil))) (.tup (.cons (.mut (.list .nil)) (.cons (.call f_frames_of (.cons (.var 0) .nil) [] false) .nil)))) (.cons (.for_ (.tup (.cons (.name 2) (.cons (.tup (.cons (.name 6) (.cons (.name 7) .nil))) .nil))) (.enum (.var 4)) [6, 2, 7, 3] b_read_journal_0) (.cons (.ret (.tup (.cons (.bi .tuple (.cons (.var 1) .nil)) (.cons (.var 5) .nil)))) .nil)))⟩
def c__law_box : Fd := ⟨2, 4, (.cons (.asg (.name 2) (.bin .add (.bin .mul (.lit (.int 27011)) (.var 1)) (.lit (.int 8101)))) (.cons (.ife (.cmp .lt (.var 1) (.bi .len (.cons (.var 0) .nil))) (.cons (.asg (.name 2) (.bi .abs (.cons (.bi .int (.cons (.ix (.var 0) (.var 1)) .nil)) .nil))) .nil) (.cons (.ife (.cmp .gt (.bi .len (.cons (.var 0) .nil)) (.lit (.int 0))) (.cons (.asg (.name 2) (.bin .add (.var 2) (.bin .mul (.bin .mod (.bi .int (.cons (.bi .abs (.cons (.bi .int (.cons (.ix (.var 0) (.bin .mod (.bi .int (.cons (.var 1) .nil)) (.bi .len (.cons (.var 0) .nil)))) .nil)) .nil)) .nil)) (.lit (.int 2147483563))) (.lit (.int 96137))))) .nil) .nil) .nil)) (.cons (.asg (.name 3) (.ife (.cmp .ge (.var 2) (.bin .pow (.lit (.int 10)) (.lit (.int 18)))) (.var 2) (.lit (.int 0)))) (.cons (.ret (.mut (.list (.cons (.var 3) (.cons (.bin .add (.bin .mod (.bi .int (.cons (.bin .add (.bin .mul (.bin .mod (.bi .int (.cons (.var 2) .nil)) (.lit (.int 2147483563))) (.lit (.int 54250027))) (.bin .mul (.lit (.int 8101)) (.var 1))) .nil)) (.lit (.int 2147483563))) (.lit (.int 1))) .nil))))) .nil))))⟩
def c__law_take : Fd := ⟨2, 4, (.cons (.ife (.cmp .gt (.ix (.var 0) (.lit (.int 0))) (.lit (.int 0))) (.cons (.asg (.name 3) (.bin .mod (.bi .int (.cons (.ix (.var 0) (.lit (.int 0))) .nil)) (.var 1))) (.cons (.asg (.sub (.var 0) (.lit (.int 0))) (.bin .fdiv (.ix (.var 0) (.lit (.int 0))) (.var 1))) (.cons (.ret (.var 3)) .nil))) .nil) (.cons (.asg (.name 2) (.bin .mod (.bi .int (.cons (.bin .add (.bin .mul (.ix (.var 0) (.lit (.int 1))) (.lit (.int 39373))) (.lit (.int 229))) .nil)) (.lit (.int 2147483647)))) (.cons (.asg (.sub (.var 0) (.lit (.int 1))) (.bin .add (.bin .mod (.bi .int (.cons (.bin .add (.bin .mul (.var 2) (.lit (.int 40692))) (.lit (.int 103))) .nil)) (.lit (.int 2147483563))) (.lit (.int 1)))) (.cons (.ret (.bin .mod (.bi .int (.cons (.bin .fdiv (.bin .add (.bin .mul (.var 2) (.lit (.int 2147483629))) (.ix (.var 0) (.lit (.int 1)))) (.lit (.int 8273))) .nil)) (.var 1))) .nil))))⟩
def c__law_pick : Fd := ⟨2, 2, (.cons (.ret (.ix (.var 1) (.call f__law_take (.cons (.var 0) (.cons (.bi .len (.cons (.var 1) .nil)) .nil)) [0] false))) .nil)⟩
def b__law_same_0 : Ss := (.cons (.ife (.not (.call f__law_same (.cons (.var 2) (.cons (.var 3) .nil)) [] false)) (.cons (.ret (.lit (.bl false))) .nil) .nil) .nil)
def c__law_same : Fd := ⟨2, 4, (.cons (.ife (.isi (.var 1) [.tuple]) (.cons (.ife (.or (.not (.isi (.var 0) [.tuple])) (.cmp .ne (.bi .len (.cons (.var 0) .nil)) (.bi .len (.cons (.var 1) .nil)))) (.cons (.ret (.lit (.bl false))) .nil) .nil) (.cons (.for_ (.tup (.cons (.name 2) (.cons (.name 3) .nil))) (.zip (.var 0) (.var 1)) [2, 3] b__law_same_0) (.cons (.ret (.lit (.bl true))) .nil))) .nil) (.cons (.ife (.cmp .is (.var 1) (.lit .non)) (.cons (.ret (.cmp .is (.var 0) (.lit .non))) .nil) .nil) (.cons (.ife (.or (.cmp .is (.var 1) (.lit (.bl true))) (.cmp .is (.var 1) (.lit (.bl false)))) (.cons (.ret (.and (.isi (.var 0) [.bool]) (.cmp .eq (.var 0) (.var 1)))) .nil) .nil) (.cons (.ife (.isi (.var 1) [.int]) (.cons (.ret (.and (.isi (.var 0) [.int]) (.and (.not (.isi (.var 0) [.bool])) (.cmp .eq (.var 0) (.var 1))))) .nil) .nil) (.cons (.ret (.and (.isi (.var 0) [.str]) (.and (.isi (.var 1) [.str]) (.cmp .eq (.var 0) (.var 1))))) .nil)))))⟩
def c__law_bent : Fd := ⟨2, 5, (.cons (.asg (.name 2) (.call f__law_pick (.cons (.var 0) (.cons (.list (.cons (.lit .non) (.cons (.lit (.bl true)) (.cons (.lit (.bl false)) (.cons (.lit (.int 0)) (.cons (.lit (.int 1)) (.cons (.lit (.int 2)) (.cons (.bin .sub (.lit (.int 0)) (.lit (.int 1))) (.cons (.lit (.int 7)) (.cons (.tup .nil) (.cons (.tup (.cons (.lit (.int 0)) .nil)) (.cons (.tup (.cons (.lit (.int 1)) .nil)) (.cons (.tup (.cons (.tup .nil) .nil)) (.cons (.lit (.str (Str.ofString "leaf"))) (.cons (.lit (.str (Str.ofString "x"))) (.cons (.list (.cons (.lit (.int 0)) .nil)) .nil)))))))))))))))) .nil)) [0] false)) (.cons (.ife (.or (.not (.isi (.var 1) [.tuple])) (.or (.cmp .eq (.var 1) (.tup .nil)) (.cmp .eq (.call f__law_take (.cons (.var 0) (.cons (.lit (.int 5)) .nil)) [0] false) (.lit (.int 0))))) (.cons (.ret (.var 2)) .nil) .nil) (.cons (.asg (.tup (.cons (.name 3) (.cons (.name 4) .nil))) (.tup (.cons (.call f__law_take (.cons (.var 0) (.cons (.bi .len (.cons (.var 1) .nil)) .nil)) [0] false) (.cons (.call f__law_take (.cons (.var 0) (.cons (.lit (.int 8)) .nil)) [0] false) .nil)))) (.cons (.ife (.cmp .eq (.var 4) (.lit (.int 0))) (.cons (.ret (.bin .add (.sl (.var 1) .none (.some (.var 3))) (.sl (.var 1) (.some (.bin .add (.var 3) (.lit (.int 1)))) .none))) .nil) .nil) (.cons (.ife (.cmp .eq (.var 4) (.lit (.int 1))) (.cons (.ret (.bin .add (.bin .add (.sl (.var 1) .none (.some (.var 3))) (.tup (.cons (.ix (.var 1) (.var 3)) .nil))) (.sl (.var 1) (.some (.var 3)) .none))) .nil) .nil) (.cons (.ife (.cmp .eq (.var 4) (.lit (.int 2))) (.cons (.ret (.bin .add (.bin .add (.sl (.var 1) .none (.some (.var 3))) (.tup (.cons (.ix (.var 1) (.call f__law_take (.cons (.var 0) (.cons (.bi .len (.cons (.var 1) .nil)) .nil)) [0] false)) .nil))) (.sl (.var 1) (.some (.bin .add (.var 3) (.lit (.int 1)))) .none))) .nil) .nil) (.cons (.ret (.bin .add (.bin .add (.sl (.var 1) .none (.some (.var 3))) (.tup (.cons (.call f__law_bent (.cons (.var 0) (.cons (.ix (.var 1) (.var 3)) .nil)) [0] false) .nil))) (.sl (.var 1) (.some (.bin .add (.var 3) (.lit (.int 1)))) .none))) .nil)))))))⟩
def c__law_is_number : Fd := ⟨2, 2, (.cons (.ret (.and (.isi (.var 0) [.int]) (.and (.not (.isi (.var 0) [.bool])) (.cmp .ge (.var 0) (.var 1))))) .nil)⟩
def c__law_is_sure : Fd := ⟨1, 1, (.cons (.ret (.and (.isi (.var 0) [.tuple]) (.and (.cmp .eq (.bi .len (.cons (.var 0) .nil)) (.lit (.int 2))) (.and (.or (.cmp .is (.ix (.var 0) (.lit (.int 0))) (.lit .non)) (.call f__law_is_number (.cons (.ix (.var 0) (.lit (.int 0))) (.cons (.lit (.int 0)) .nil)) [] false)) (.isi (.ix (.var 0) (.lit (.int 1))) [.bool]))))) .nil)⟩
def c__law_is_row : Fd := ⟨1, 2, (.cons (.asg (.name 1) (.dict [(.str (Str.ofString "event")), (.str (Str.ofString "ask")), (.str (Str.ofString "facts")), (.str (Str.ofString "slipped")), (.str (Str.ofString "blame")), (.str (Str.ofString "plan")), (.str (Str.ofString "watch")), (.str (Str.ofString "told")), (.str (Str.ofString "seal")), (.str (Str.ofString "cut"))] (.cons (.lit (.int 2)) (.cons (.lit (.int 5)) (.cons (.lit (.int 3)) (.cons (.lit (.int 2)) (.cons (.lit (.int 2)) (.cons (.lit (.int 5)) (.cons (.lit (.int 6)) (.cons (.lit (.int 3)) (.cons (.lit (.int 1)) (.cons (.lit (.int 1)) .nil)))))))))))) (.cons (.ife (.or (.not (.isi (.var 0) [.tuple])) (.or (.cmp .eq (.var 0) (.tup .nil)) (.or (.not (.isi (.ix (.var 0) (.lit (.int 0))) [.str])) (.cmp .ne (.mt .get (.var 1) (.cons (.ix (.var 0) (.lit (.int 0))) (.cons (.lit (.int 0)) .nil))) (.bi .len (.cons (.var 0) .nil)))))) (.cons (.ret (.lit (.bl false))) .nil) .nil) (.cons (.ife (.cmp .in_ (.ix (.var 0) (.lit (.int 0))) (.tup (.cons (.lit (.str (Str.ofString "ask"))) (.cons (.lit (.str (Str.ofString "watch"))) .nil)))) (.cons (.ife (.or (.not (.call f__law_is_number (.cons (.ix (.var 0) (.lit (.int 1))) (.cons (.lit (.int 0)) .nil)) [] false)) (.or (.not (.call f__law_is_number (.cons (.ix (.var 0) (.lit (.int 2))) (.cons (.bin .sub (.lit (.int 0)) (.lit (.int 1))) .nil)) [] false)) (.and (.cmp .isnot (.ix (.var 0) (.lit (.int 3))) (.lit .non)) (.not (.call f__law_is_number (.cons (.ix (.var 0) (.lit (.int 3))) (.cons (.lit (.int 0)) .nil)) [] false))))) (.cons (.ret (.lit (.bl false))) .nil) .nil) (.cons (.ret (.or (.cmp .eq (.ix (.var 0) (.lit (.int 0))) (.lit (.str (Str.ofString "ask")))) (.and (.call f__law_is_number (.cons (.ix (.var 0) (.lit (.int 4))) (.cons (.lit (.int 0)) .nil)) [] false) (.call f__law_is_sure (.cons (.ix (.var 0) (.lit (.int 5))) .nil) [] false)))) .nil)) .nil) (.cons (.ife (.cmp .eq (.ix (.var 0) (.lit (.int 0))) (.lit (.str (Str.ofString "told")))) (.cons (.ret (.and (.call f__law_is_number (.cons (.ix (.var 0) (.lit (.int 1))) (.cons (.lit (.int 0)) .nil)) [] false) (.or (.cmp .is (.ix (.var 0) (.lit (.int 2))) (.lit .non)) (.call f__law_is_sure (.cons (.ix (.var 0) (.lit (.int 2))) .nil) [] false)))) .nil) .nil) (.cons (.ife (.cmp .eq (.ix (.var 0) (.lit (.int 0))) (.lit (.str (Str.ofString "plan")))) (.cons (.ret (.and (.isi (.ix (.var 0) (.lit (.int 1))) [.tuple]) (.and (.call f__law_is_number (.cons (.ix (.var 0) (.lit (.int 2))) (.cons (.lit (.int 0)) .nil)) [] false) (.call f__law_is_number (.cons (.ix (.var 0) (.lit (.int 3))) (.cons (.lit (.int 0)) .nil)) [] false)))) .nil) .nil) (.cons (.ret (.or (.cmp .ne (.ix (.var 0) (.lit (.int 0))) (.lit (.str (Str.ofString "facts")))) (.call f__law_is_number (.cons (.ix (.var 0) (.lit (.int 1))) (.cons (.lit (.int 0)) .nil)) [] false))) .nil))))))⟩
def c__law_some_form : Fd := ⟨1, 4, (.cons (.asg (.tup (.cons (.name 2) (.cons (.name 3) .nil))) (.tup (.cons (.call f__law_take (.cons (.var 0) (.cons (.lit (.int 4)) .nil)) [0] false) (.cons (.call f__law_pick (.cons (.var 0) (.cons (.list (.cons (.lit .non) (.cons (.lit (.int 0)) (.cons (.lit (.int 3)) .nil)))) .nil)) [0] false) .nil)))) (.cons (.asg (.name 1) (.list (.cons (.tup (.cons (.lit (.str (Str.ofString "event"))) (.cons (.tup (.cons (.lit (.str (Str.ofString "behind"))) (.cons (.bin .sub (.lit (.int 0)) (.lit (.int 1))) (.cons (.lit (.int 2)) .nil)))) .nil))) (.cons (.tup (.cons (.lit (.str (Str.ofString "event"))) (.cons (.call f__law_pick (.cons (.var 0) (.cons (.list (.cons (.lit .non) (.cons (.lit (.str (Str.ofString "x"))) (.cons (.tup .nil) .nil)))) .nil)) [0] false) .nil))) (.cons (.tup (.cons (.lit (.str (Str.ofString "ask"))) (.cons (.var 2) (.cons (.bin .sub (.lit (.int 0)) (.lit (.int 1))) (.cons (.var 3) (.cons (.tup (.cons (.lit (.str (Str.ofString "none"))) (.cons (.tup .nil) .nil))) .nil)))))) (.cons (.tup (.cons (.lit (.str (Str.ofString "facts"))) (.cons (.var 2) (.cons (.tup (.cons (.tup (.cons (.lit (.int 0)) (.cons (.lit (.int 3)) .nil))) .nil)) .nil)))) (.cons (.tup (.cons (.lit (.str (Str.ofString "slipped"))) (.cons (.lit .non) .nil))) .nil))))))) (.cons (.asg (.name 1) (.bin .add (.var 1) (.list (.cons (.tup (.cons (.lit (.str (Str.ofString "blame"))) (.cons (.tup (.cons (.tup .nil) (.cons (.tup .nil) .nil))) .nil))) (.cons (.tup (.cons (.lit (.str (Str.ofString "plan"))) (.cons (.tup (.cons (.tup (.cons (.lit (.str (Str.ofString "hand"))) (.cons (.lit (.int 0)) .nil))) .nil)) (.cons (.lit (.int 0)) (.cons (.var 2) (.cons (.tup (.cons (.lit (.str (Str.ofString "none"))) .nil)) .nil)))))) (.cons (.tup (.cons (.lit (.str (Str.ofString "watch"))) (.cons (.var 2) (.cons (.lit (.int 0)) (.cons (.var 3) (.cons (.lit (.int 2)) (.cons (.tup (.cons (.lit (.int 1)) (.cons (.lit (.bl true)) .nil))) .nil))))))) (.cons (.tup (.cons (.lit (.str (Str.ofString "watch"))) (.cons (.lit (.int 0)) (.cons (.lit (.int 1)) (.cons (.lit .non) (.cons (.lit (.int 0)) (.cons (.tup (.cons (.lit .non) (.cons (.lit (.bl false)) .nil))) .nil))))))) .nil))))))) (.cons (.ret (.call f__law_pick (.cons (.var 0) (.cons (.bin .add (.var 1) (.list (.cons (.tup (.cons (.lit (.str (Str.ofString "told"))) (.cons (.var 2) (.cons (.lit .non) .nil)))) (.cons (.tup (.cons (.lit (.str (Str.ofString "told"))) (.cons (.var 2) (.cons (.tup (.cons (.lit (.int 2)) (.cons (.lit (.bl false)) .nil))) .nil)))) (.cons (.tup (.cons (.lit (.str (Str.ofString "seal"))) .nil)) (.cons (.tup (.cons (.lit (.str (Str.ofString "cut"))) .nil)) .nil)))))) .nil)) [0] false)) .nil))))⟩
def b_law_0 : Ss := (.cons (.expr (.mt .append (.var 6) (.cons (.bin .add (.ix (.var 6) (.bin .sub (.bi .len (.cons (.var 6) .nil)) (.lit (.int 1)))) (.bi .len (.cons (.call f_journal_octets (.cons (.tup (.cons (.var 4) .nil)) .nil) [] false) .nil))) .nil))) .nil)
def b_law_1 : Ss := (.cons (.ife (.not (.call f__law_same (.cons (.call f_is_row (.cons (.var 12) .nil) [] false) (.cons (.call f__law_is_row (.cons (.var 12) .nil) [] false) .nil)) [] false)) (.cons (.ret (.lit (.bl false))) .nil) .nil) .nil)
def b_law_2 : Ss := (.cons (.for_ (.name 12) (.val (.list (.cons (.var 4) (.cons (.call f__law_bent (.cons (.var 2) (.cons (.var 4) .nil)) [0] false) (.cons (.call f__law_bent (.cons (.var 2) (.cons (.var 4) .nil)) [0] false) (.cons (.call f__law_bent (.cons (.var 2) (.cons (.var 4) .nil)) [0] false) (.cons (.bi .list (.cons (.var 4) .nil)) (.cons (.tup (.cons (.lit (.str (Str.ofString "what"))) .nil)) .nil)))))))) [12] b_law_1) .nil)
def b_law_3 : Ss := (.cons (.asg (.name 2) (.call f__law_box (.cons (.var 0) (.cons (.var 1) .nil)) [] true)) (.cons (.asg (.name 3) (.bi .tuple (.cons (.lc [13] (.name 13) (.range1 (.bin .add (.lit (.int 1)) (.call f__law_take (.cons (.var 2) (.cons (.lit (.int 6)) .nil)) [0] false))) .none (.call f__law_some_form (.cons (.var 2) .nil) [0] false)) .nil))) (.cons (.for_ (.name 4) (.val (.var 3)) [4, 12] b_law_2) (.cons (.asg (.name 5) (.call f_journal_octets (.cons (.var 3) .nil) [] false)) (.cons (.ife (.or (.not (.call f__law_same (.cons (.call f_read_journal (.cons (.var 5) .nil) [] false) (.cons (.tup (.cons (.var 3) (.cons (.lit .non) .nil))) .nil)) [] false)) (.not (.call f__law_same (.cons (.call f_journal_octets (.cons (.tup .nil) .nil) [] false) (.cons (.tup .nil) .nil)) [] false))) (.cons (.ret (.lit (.bl false))) .nil) .nil) (.cons (.asg (.name 6) (.mut (.list (.cons (.lit (.int 0)) .nil)))) (.cons (.for_ (.name 4) (.val (.var 3)) [4] b_law_0) (.cons (.ife (.cmp .ne (.ix (.var 6) (.bin .sub (.bi .len (.cons (.var 6) .nil)) (.lit (.int 1)))) (.bi .len (.cons (.var 5) .nil))) (.cons (.ret (.lit (.bl false))) .nil) .nil) (.cons (.asg (.name 7) (.call f__law_take (.cons (.var 2) (.cons (.bin .add (.bi .len (.cons (.var 5) .nil)) (.lit (.int 1))) .nil)) [0] false)) (.cons (.asg (.name 8) (.bi .len (.cons (.lc [14] (.name 14) (.val (.sl (.var 6) (.some (.lit (.int 1))) .none)) (.some (.cmp .le (.var 14) (.var 7))) (.var 14)) .nil))) (.cons (.ife (.not (.call f__law_same (.cons (.call f_read_journal (.cons (.sl (.var 5) .none (.some (.var 7))) .nil) [] false) (.cons (.tup (.cons (.sl (.var 3) .none (.some (.var 8))) (.cons (.ife (.cmp .in_ (.var 7) (.var 6)) (.lit .non) (.tup (.cons (.lit (.str (Str.ofString "torn"))) (.cons (.var 8) .nil)))) .nil))) .nil)) [] false)) (.cons (.ret (.lit (.bl false))) .nil) .nil) (.cons (.asg (.name 9) (.call f__law_take (.cons (.var 2) (.cons (.bi .len (.cons (.var 5) .nil)) .nil)) [0] false)) (.cons (.asg (.name 10) (.bin .add (.bin .add (.sl (.var 5) .none (.some (.var 9))) (.tup (.cons (.bin .mod (.bi .int (.cons (.bin .add (.bin .add (.ix (.var 5) (.var 9)) (.lit (.int 1))) (.call f__law_take (.cons (.var 2) (.cons (.lit (.int 255)) .nil)) [0] false)) .nil)) (.lit (.int 256))) .nil))) (.sl (.var 5) (.some (.bin .add (.var 9) (.lit (.int 1)))) .none))) (.cons (.asg (.name 11) (.bi .len (.cons (.lc [14] (.name 14) (.val (.sl (.var 6) (.some (.lit (.int 1))) .none)) (.some (.cmp .le (.var 14) (.var 9))) (.var 14)) .nil))) (.cons (.ife (.not (.call f__law_same (.cons (.call f_read_journal (.cons (.var 10) .nil) [] false) (.cons (.tup (.cons (.sl (.var 3) .none (.some (.var 11))) (.cons (.tup (.cons (.lit (.str (Str.ofString "changed"))) (.cons (.var 11) .nil))) .nil))) .nil)) [] false)) (.cons (.ret (.lit (.bl false))) .nil) .nil) .nil)))))))))))))))
def c_law : Fd := ⟨1, 15, (.cons (.for_ (.name 1) (.range1 (.bi .max2 (.cons (.lit (.int 3)) (.cons (.bi .min2 (.cons (.bi .len (.cons (.var 0) .nil)) (.cons (.lit (.int 7)) .nil))) .nil)))) [11, 2, 7, 6, 1, 5, 10, 4, 3, 9, 12, 8] b_law_3) (.cons (.ret (.lit (.bl true))) .nil))⟩
def c_Reader_init : Fd := ⟨2, 2, (.cons (.fld "Reader" (.var 0) "given" (.var 1)) (.cons (.fld "Reader" (.var 0) "spot" (.lit (.int 0))) .nil))⟩
def c_Reader_one : Fd := ⟨1, 1, (.cons (.ife (.cmp .ge (.fld "Reader" (.var 0) "spot") (.bi .len (.cons (.fld "Reader" (.var 0) "given") .nil))) (.cons .nope .nil) .nil) (.cons (.fldaug "Reader" (.var 0) "spot" .add (.lit (.int 1))) (.cons (.ret (.ix (.fld "Reader" (.var 0) "given") (.bin .sub (.fld "Reader" (.var 0) "spot") (.lit (.int 1))))) .nil)))⟩
def b_Reader_number_0 : Ss := (.cons (.asg (.tup (.cons (.name 1) (.cons (.name 2) .nil))) (.tup (.cons (.bin .add (.var 1) (.bin .mul (.bin .sub (.var 3) (.lit (.int 128))) (.var 2))) (.cons (.bin .mul (.var 2) (.lit (.int 128))) .nil)))) (.cons (.asg (.name 3) (.meth "Reader" "one" f_Reader_one (.var 0) .nil)) .nil))
def c_Reader_number : Fd := ⟨1, 4, (.cons (.asg (.tup (.cons (.name 1) (.cons (.name 2) (.cons (.name 3) .nil)))) (.tup (.cons (.lit (.int 0)) (.cons (.lit (.int 1)) (.cons (.meth "Reader" "one" f_Reader_one (.var 0) .nil) .nil))))) (.cons (.while_ (.cmp .gt (.var 3) (.lit (.int 127))) [] b_Reader_number_0) (.cons (.ife (.and (.cmp .eq (.var 3) (.lit (.int 0))) (.cmp .gt (.var 2) (.lit (.int 1)))) (.cons .nope .nil) .nil) (.cons (.ret (.bin .add (.var 1) (.bin .mul (.var 3) (.var 2)))) .nil))))⟩
def c_Reader_sign : Fd := ⟨1, 2, (.cons (.asg (.name 1) (.meth "Reader" "one" f_Reader_one (.var 0) .nil)) (.cons (.ife (.cmp .ge (.var 1) (.bi .len (.cons (.lit (.str (Str.ofString " !\"#$&'()*+,-./0123456789:;<=>?@ABCDEFGHIJKLMNOPQRSTUVWXYZ[\\]^_`abcdefghijklmnopqrstuvwxyz{|}~"))) .nil))) (.cons .nope .nil) .nil) (.cons (.ret (.ix (.lit (.str (Str.ofString " !\"#$&'()*+,-./0123456789:;<=>?@ABCDEFGHIJKLMNOPQRSTUVWXYZ[\\]^_`abcdefghijklmnopqrstuvwxyz{|}~"))) (.var 1))) .nil)))⟩
def prog : Nat → Option Fd
  | 0 => some c_xored
  | 1 => some c_weighed
  | 2 => some c_head_of
  | 3 => some c_foot_of
  | 4 => some c_frame
  | 5 => some c_frames_of
  | 6 => some c_is_int
  | 7 => some c_is_number
  | 8 => some c_is_tuple
  | 9 => some c_counted
  | 10 => some c_packed
  | 11 => some c_plain_part
  | 12 => some c_unpacked
  | 13 => some c_is_between
  | 14 => some c_is_sure_told
  | 15 => some c_is_row
  | 16 => some c_journal_octets
  | 17 => some c_row_of_frame
  | 18 => some c_read_journal
  | 19 => some c__law_box
  | 20 => some c__law_take
  | 21 => some c__law_pick
  | 22 => some c__law_same
  | 23 => some c__law_bent
  | 24 => some c__law_is_number
  | 25 => some c__law_is_sure
  | 26 => some c__law_is_row
  | 27 => some c__law_some_form
  | 28 => some c_law
  | 29 => some c_Reader_init
  | 30 => some c_Reader_one
  | 31 => some c_Reader_number
  | 32 => some c_Reader_sign
  | _ => none
theorem p_xored : prog f_xored = some c_xored := rfl
theorem p_weighed : prog f_weighed = some c_weighed := rfl
theorem p_head_of : prog f_head_of = some c_head_of := rfl
theorem p_foot_of : prog f_foot_of = some c_foot_of := rfl
theorem p_frame : prog f_frame = some c_frame := rfl
theorem p_frames_of : prog f_frames_of = some c_frames_of := rfl
theorem p_is_int : prog f_is_int = some c_is_int := rfl
theorem p_is_number : prog f_is_number = some c_is_number := rfl
theorem p_is_tuple : prog f_is_tuple = some c_is_tuple := rfl
theorem p_counted : prog f_counted = some c_counted := rfl
theorem p_packed : prog f_packed = some c_packed := rfl
theorem p_plain_part : prog f_plain_part = some c_plain_part := rfl
theorem p_unpacked : prog f_unpacked = some c_unpacked := rfl
theorem p_is_between : prog f_is_between = some c_is_between := rfl
theorem p_is_sure_told : prog f_is_sure_told = some c_is_sure_told := rfl
theorem p_is_row : prog f_is_row = some c_is_row := rfl
theorem p_journal_octets : prog f_journal_octets = some c_journal_octets := rfl
theorem p_row_of_frame : prog f_row_of_frame = some c_row_of_frame := rfl
theorem p_read_journal : prog f_read_journal = some c_read_journal := rfl
theorem p__law_box : prog f__law_box = some c__law_box := rfl
theorem p__law_take : prog f__law_take = some c__law_take := rfl
theorem p__law_pick : prog f__law_pick = some c__law_pick := rfl
theorem p__law_same : prog f__law_same = some c__law_same := rfl
theorem p__law_bent : prog f__law_bent = some c__law_bent := rfl
theorem p__law_is_number : prog f__law_is_number = some c__law_is_number := rfl
theorem p__law_is_sure : prog f__law_is_sure = some c__law_is_sure := rfl
theorem p__law_is_row : prog f__law_is_row = some c__law_is_row := rfl
theorem p__law_some_form : prog f__law_some_form = some c__law_some_form := rfl
theorem p_law : prog f_law = some c_law := rfl
theorem p_Reader_init : prog f_Reader_init = some c_Reader_init := rfl
theorem p_Reader_one : prog f_Reader_one = some c_Reader_one := rfl
theorem p_Reader_number : prog f_Reader_number = some c_Reader_number := rfl
theorem p_Reader_sign : prog f_Reader_sign = some c_Reader_sign := rfl
end K83
namespace K83
open PySem PyE
@[simp] theorem s_0_1 : (Str.ofString "event" = Str.ofString "ask") = False := eq_false (by decide +kernel)
@[simp] theorem s_0_2 : (Str.ofString "event" = Str.ofString "facts") = False := eq_false (by decide +kernel)
@[simp] theorem s_0_3 : (Str.ofString "event" = Str.ofString "slipped") = False := eq_false (by decide +kernel)
@[simp] theorem s_0_4 : (Str.ofString "event" = Str.ofString "blame") = False := eq_false (by decide +kernel)
@[simp] theorem s_0_5 : (Str.ofString "event" = Str.ofString "plan") = False := eq_false (by decide +kernel)
@[simp] theorem s_0_6 : (Str.ofString "event" = Str.ofString "watch") = False := eq_false (by decide +kernel)
@[simp] theorem s_0_7 : (Str.ofString "event" = Str.ofString "told") = False := eq_false (by decide +kernel)
@[simp] theorem s_0_8 : (Str.ofString "event" = Str.ofString "seal") = False := eq_false (by decide +kernel)
@[simp] theorem s_0_9 : (Str.ofString "event" = Str.ofString "cut") = False := eq_false (by decide +kernel)
@[simp] theorem s_0_10 : (Str.ofString "event" = Str.ofString "no such octets") = False := eq_false (by decide +kernel)
@[simp] theorem s_0_11 : (Str.ofString "event" = Str.ofString "") = False := eq_false (by decide +kernel)
@[simp] theorem s_0_12 : (Str.ofString "event" = Str.ofString "leaf") = False := eq_false (by decide +kernel)
@[simp] theorem s_0_13 : (Str.ofString "event" = Str.ofString "x") = False := eq_false (by decide +kernel)
@[simp] theorem s_0_14 : (Str.ofString "event" = Str.ofString "behind") = False := eq_false (by decide +kernel)
@[simp] theorem s_0_15 : (Str.ofString "event" = Str.ofString "none") = False := eq_false (by decide +kernel)
@[simp] theorem s_0_16 : (Str.ofString "event" = Str.ofString "torn") = False := eq_false (by decide +kernel)
@[simp] theorem s_0_17 : (Str.ofString "event" = Str.ofString "changed") = False := eq_false (by decide +kernel)
@[simp] theorem s_0_18 : (Str.ofString "event" = Str.ofString "what") = False := eq_false (by decide +kernel)
@[simp] theorem s_0_19 : (Str.ofString "event" = Str.ofString "hand") = False := eq_false (by decide +kernel)
@[simp] theorem s_1_0 : (Str.ofString "ask" = Str.ofString "event") = False := eq_false (by decide +kernel)
@[simp] theorem s_1_2 : (Str.ofString "ask" = Str.ofString "facts") = False := eq_false (by decide +kernel)
@[simp] theorem s_1_3 : (Str.ofString "ask" = Str.ofString "slipped") = False := eq_false (by decide +kernel)
@[simp] theorem s_1_4 : (Str.ofString "ask" = Str.ofString "blame") = False := eq_false (by decide +kernel)
@[simp] theorem s_1_5 : (Str.ofString "ask" = Str.ofString "plan") = False := eq_false (by decide +kernel)
@[simp] theorem s_1_6 : (Str.ofString "ask" = Str.ofString "watch") = False := eq_false (by decide +kernel)
@[simp] theorem s_1_7 : (Str.ofString "ask" = Str.ofString "told") = False := eq_false (by decide +kernel)
@[simp] theorem s_1_8 : (Str.ofString "ask" = Str.ofString "seal") = False := eq_false (by decide +kernel)
@[simp] theorem s_1_9 : (Str.ofString "ask" = Str.ofString "cut") = False := eq_false (by decide +kernel)
@[simp] theorem s_1_10 : (Str.ofString "ask" = Str.ofString "no such octets") = False := eq_false (by decide +kernel)
@[simp] theorem s_1_11 : (Str.ofString "ask" = Str.ofString "") = False := eq_false (by decide +kernel)
@[simp] theorem s_1_12 : (Str.ofString "ask" = Str.ofString "leaf") = False := eq_false (by decide +kernel)
@[simp] theorem s_1_13 : (Str.ofString "ask" = Str.ofString "x") = False := eq_false (by decide +kernel)
@[simp] theorem s_1_14 : (Str.ofString "ask" = Str.ofString "behind") = False := eq_false (by decide +kernel)
@[simp] theorem s_1_15 : (Str.ofString "ask" = Str.ofString "none") = False := eq_false (by decide +kernel)
@[simp] theorem s_1_16 : (Str.ofString "ask" = Str.ofString "torn") = False := eq_false (by decide +kernel)
@[simp] theorem s_1_17 : (Str.ofString "ask" = Str.ofString "changed") = False := eq_false (by decide +kernel)
@[simp] theorem s_1_18 : (Str.ofString "ask" = Str.ofString "what") = False := eq_false (by decide +kernel)
@[simp] theorem s_1_19 : (Str.ofString "ask" = Str.ofString "hand") = False := eq_false (by decide +kernel)
@[simp] theorem s_2_0 : (Str.ofString "facts" = Str.ofString "event") = False := eq_false (by decide +kernel)
@[simp] theorem s_2_1 : (Str.ofString "facts" = Str.ofString "ask") = False := eq_false (by decide +kernel)
@[simp] theorem s_2_3 : (Str.ofString "facts" = Str.ofString "slipped") = False := eq_false (by decide +kernel)
@[simp] theorem s_2_4 : (Str.ofString "facts" = Str.ofString "blame") = False := eq_false (by decide +kernel)
@[simp] theorem s_2_5 : (Str.ofString "facts" = Str.ofString "plan") = False := eq_false (by decide +kernel)
@[simp] theorem s_2_6 : (Str.ofString "facts" = Str.ofString "watch") = False := eq_false (by decide +kernel)
@[simp] theorem s_2_7 : (Str.ofString "facts" = Str.ofString "told") = False := eq_false (by decide +kernel)
@[simp] theorem s_2_8 : (Str.ofString "facts" = Str.ofString "seal") = False := eq_false (by decide +kernel)
@[simp] theorem s_2_9 : (Str.ofString "facts" = Str.ofString "cut") = False := eq_false (by decide +kernel)
@[simp] theorem s_2_10 : (Str.ofString "facts" = Str.ofString "no such octets") = False := eq_false (by decide +kernel)
@[simp] theorem s_2_11 : (Str.ofString "facts" = Str.ofString "") = False := eq_false (by decide +kernel)
@[simp] theorem s_2_12 : (Str.ofString "facts" = Str.ofString "leaf") = False := eq_false (by decide +kernel)
@[simp] theorem s_2_13 : (Str.ofString "facts" = Str.ofString "x") = False := eq_false (by decide +kernel)
@[simp] theorem s_2_14 : (Str.ofString "facts" = Str.ofString "behind") = False := eq_false (by decide +kernel)
@[simp] theorem s_2_15 : (Str.ofString "facts" = Str.ofString "none") = False := eq_false (by decide +kernel)
@[simp] theorem s_2_16 : (Str.ofString "facts" = Str.ofString "torn") = False := eq_false (by decide +kernel)
@[simp] theorem s_2_17 : (Str.ofString "facts" = Str.ofString "changed") = False := eq_false (by decide +kernel)
@[simp] theorem s_2_18 : (Str.ofString "facts" = Str.ofString "what") = False := eq_false (by decide +kernel)
@[simp] theorem s_2_19 : (Str.ofString "facts" = Str.ofString "hand") = False := eq_false (by decide +kernel)
@[simp] theorem s_3_0 : (Str.ofString "slipped" = Str.ofString "event") = False := eq_false (by decide +kernel)
@[simp] theorem s_3_1 : (Str.ofString "slipped" = Str.ofString "ask") = False := eq_false (by decide +kernel)
@[simp] theorem s_3_2 : (Str.ofString "slipped" = Str.ofString "facts") = False := eq_false (by decide +kernel)
@[simp] theorem s_3_4 : (Str.ofString "slipped" = Str.ofString "blame") = False := eq_false (by decide +kernel)
@[simp] theorem s_3_5 : (Str.ofString "slipped" = Str.ofString "plan") = False := eq_false (by decide +kernel)
@[simp] theorem s_3_6 : (Str.ofString "slipped" = Str.ofString "watch") = False := eq_false (by decide +kernel)
@[simp] theorem s_3_7 : (Str.ofString "slipped" = Str.ofString "told") = False := eq_false (by decide +kernel)
@[simp] theorem s_3_8 : (Str.ofString "slipped" = Str.ofString "seal") = False := eq_false (by decide +kernel)
@[simp] theorem s_3_9 : (Str.ofString "slipped" = Str.ofString "cut") = False := eq_false (by decide +kernel)
@[simp] theorem s_3_10 : (Str.ofString "slipped" = Str.ofString "no such octets") = False := eq_false (by decide +kernel)
@[simp] theorem s_3_11 : (Str.ofString "slipped" = Str.ofString "") = False := eq_false (by decide +kernel)
@[simp] theorem s_3_12 : (Str.ofString "slipped" = Str.ofString "leaf") = False := eq_false (by decide +kernel)
@[simp] theorem s_3_13 : (Str.ofString "slipped" = Str.ofString "x") = False := eq_false (by decide +kernel)
@[simp] theorem s_3_14 : (Str.ofString "slipped" = Str.ofString "behind") = False := eq_false (by decide +kernel)
@[simp] theorem s_3_15 : (Str.ofString "slipped" = Str.ofString "none") = False := eq_false (by decide +kernel)
@[simp] theorem s_3_16 : (Str.ofString "slipped" = Str.ofString "torn") = False := eq_false (by decide +kernel)
@[simp] theorem s_3_17 : (Str.ofString "slipped" = Str.ofString "changed") = False := eq_false (by decide +kernel)
@[simp] theorem s_3_18 : (Str.ofString "slipped" = Str.ofString "what") = False := eq_false (by decide +kernel)
@[simp] theorem s_3_19 : (Str.ofString "slipped" = Str.ofString "hand") = False := eq_false (by decide +kernel)
@[simp] theorem s_4_0 : (Str.ofString "blame" = Str.ofString "event") = False := eq_false (by decide +kernel)
@[simp] theorem s_4_1 : (Str.ofString "blame" = Str.ofString "ask") = False := eq_false (by decide +kernel)
@[simp] theorem s_4_2 : (Str.ofString "blame" = Str.ofString "facts") = False := eq_false (by decide +kernel)
@[simp] theorem s_4_3 : (Str.ofString "blame" = Str.ofString "slipped") = False := eq_false (by decide +kernel)
@[simp] theorem s_4_5 : (Str.ofString "blame" = Str.ofString "plan") = False := eq_false (by decide +kernel)
@[simp] theorem s_4_6 : (Str.ofString "blame" = Str.ofString "watch") = False := eq_false (by decide +kernel)
@[simp] theorem s_4_7 : (Str.ofString "blame" = Str.ofString "told") = False := eq_false (by decide +kernel)
@[simp] theorem s_4_8 : (Str.ofString "blame" = Str.ofString "seal") = False := eq_false (by decide +kernel)
@[simp] theorem s_4_9 : (Str.ofString "blame" = Str.ofString "cut") = False := eq_false (by decide +kernel)
@[simp] theorem s_4_10 : (Str.ofString "blame" = Str.ofString "no such octets") = False := eq_false (by decide +kernel)
@[simp] theorem s_4_11 : (Str.ofString "blame" = Str.ofString "") = False := eq_false (by decide +kernel)
@[simp] theorem s_4_12 : (Str.ofString "blame" = Str.ofString "leaf") = False := eq_false (by decide +kernel)
@[simp] theorem s_4_13 : (Str.ofString "blame" = Str.ofString "x") = False := eq_false (by decide +kernel)
@[simp] theorem s_4_14 : (Str.ofString "blame" = Str.ofString "behind") = False := eq_false (by decide +kernel)
@[simp] theorem s_4_15 : (Str.ofString "blame" = Str.ofString "none") = False := eq_false (by decide +kernel)
@[simp] theorem s_4_16 : (Str.ofString "blame" = Str.ofString "torn") = False := eq_false (by decide +kernel)
@[simp] theorem s_4_17 : (Str.ofString "blame" = Str.ofString "changed") = False := eq_false (by decide +kernel)
@[simp] theorem s_4_18 : (Str.ofString "blame" = Str.ofString "what") = False := eq_false (by decide +kernel)
@[simp] theorem s_4_19 : (Str.ofString "blame" = Str.ofString "hand") = False := eq_false (by decide +kernel)
@[simp] theorem s_5_0 : (Str.ofString "plan" = Str.ofString "event") = False := eq_false (by decide +kernel)
@[simp] theorem s_5_1 : (Str.ofString "plan" = Str.ofString "ask") = False := eq_false (by decide +kernel)
@[simp] theorem s_5_2 : (Str.ofString "plan" = Str.ofString "facts") = False := eq_false (by decide +kernel)
@[simp] theorem s_5_3 : (Str.ofString "plan" = Str.ofString "slipped") = False := eq_false (by decide +kernel)
@[simp] theorem s_5_4 : (Str.ofString "plan" = Str.ofString "blame") = False := eq_false (by decide +kernel)
@[simp] theorem s_5_6 : (Str.ofString "plan" = Str.ofString "watch") = False := eq_false (by decide +kernel)
@[simp] theorem s_5_7 : (Str.ofString "plan" = Str.ofString "told") = False := eq_false (by decide +kernel)
@[simp] theorem s_5_8 : (Str.ofString "plan" = Str.ofString "seal") = False := eq_false (by decide +kernel)
@[simp] theorem s_5_9 : (Str.ofString "plan" = Str.ofString "cut") = False := eq_false (by decide +kernel)
@[simp] theorem s_5_10 : (Str.ofString "plan" = Str.ofString "no such octets") = False := eq_false (by decide +kernel)
@[simp] theorem s_5_11 : (Str.ofString "plan" = Str.ofString "") = False := eq_false (by decide +kernel)
@[simp] theorem s_5_12 : (Str.ofString "plan" = Str.ofString "leaf") = False := eq_false (by decide +kernel)
@[simp] theorem s_5_13 : (Str.ofString "plan" = Str.ofString "x") = False := eq_false (by decide +kernel)
@[simp] theorem s_5_14 : (Str.ofString "plan" = Str.ofString "behind") = False := eq_false (by decide +kernel)
@[simp] theorem s_5_15 : (Str.ofString "plan" = Str.ofString "none") = False := eq_false (by decide +kernel)
@[simp] theorem s_5_16 : (Str.ofString "plan" = Str.ofString "torn") = False := eq_false (by decide +kernel)
@[simp] theorem s_5_17 : (Str.ofString "plan" = Str.ofString "changed") = False := eq_false (by decide +kernel)
@[simp] theorem s_5_18 : (Str.ofString "plan" = Str.ofString "what") = False := eq_false (by decide +kernel)
@[simp] theorem s_5_19 : (Str.ofString "plan" = Str.ofString "hand") = False := eq_false (by decide +kernel)
@[simp] theorem s_6_0 : (Str.ofString "watch" = Str.ofString "event") = False := eq_false (by decide +kernel)
@[simp] theorem s_6_1 : (Str.ofString "watch" = Str.ofString "ask") = False := eq_false (by decide +kernel)
@[simp] theorem s_6_2 : (Str.ofString "watch" = Str.ofString "facts") = False := eq_false (by decide +kernel)
@[simp] theorem s_6_3 : (Str.ofString "watch" = Str.ofString "slipped") = False := eq_false (by decide +kernel)
@[simp] theorem s_6_4 : (Str.ofString "watch" = Str.ofString "blame") = False := eq_false (by decide +kernel)
@[simp] theorem s_6_5 : (Str.ofString "watch" = Str.ofString "plan") = False := eq_false (by decide +kernel)
@[simp] theorem s_6_7 : (Str.ofString "watch" = Str.ofString "told") = False := eq_false (by decide +kernel)
@[simp] theorem s_6_8 : (Str.ofString "watch" = Str.ofString "seal") = False := eq_false (by decide +kernel)
@[simp] theorem s_6_9 : (Str.ofString "watch" = Str.ofString "cut") = False := eq_false (by decide +kernel)
@[simp] theorem s_6_10 : (Str.ofString "watch" = Str.ofString "no such octets") = False := eq_false (by decide +kernel)
@[simp] theorem s_6_11 : (Str.ofString "watch" = Str.ofString "") = False := eq_false (by decide +kernel)
@[simp] theorem s_6_12 : (Str.ofString "watch" = Str.ofString "leaf") = False := eq_false (by decide +kernel)
@[simp] theorem s_6_13 : (Str.ofString "watch" = Str.ofString "x") = False := eq_false (by decide +kernel)
@[simp] theorem s_6_14 : (Str.ofString "watch" = Str.ofString "behind") = False := eq_false (by decide +kernel)
@[simp] theorem s_6_15 : (Str.ofString "watch" = Str.ofString "none") = False := eq_false (by decide +kernel)
@[simp] theorem s_6_16 : (Str.ofString "watch" = Str.ofString "torn") = False := eq_false (by decide +kernel)
@[simp] theorem s_6_17 : (Str.ofString "watch" = Str.ofString "changed") = False := eq_false (by decide +kernel)
@[simp] theorem s_6_18 : (Str.ofString "watch" = Str.ofString "what") = False := eq_false (by decide +kernel)
@[simp] theorem s_6_19 : (Str.ofString "watch" = Str.ofString "hand") = False := eq_false (by decide +kernel)
@[simp] theorem s_7_0 : (Str.ofString "told" = Str.ofString "event") = False := eq_false (by decide +kernel)
@[simp] theorem s_7_1 : (Str.ofString "told" = Str.ofString "ask") = False := eq_false (by decide +kernel)
@[simp] theorem s_7_2 : (Str.ofString "told" = Str.ofString "facts") = False := eq_false (by decide +kernel)
@[simp] theorem s_7_3 : (Str.ofString "told" = Str.ofString "slipped") = False := eq_false (by decide +kernel)
@[simp] theorem s_7_4 : (Str.ofString "told" = Str.ofString "blame") = False := eq_false (by decide +kernel)
@[simp] theorem s_7_5 : (Str.ofString "told" = Str.ofString "plan") = False := eq_false (by decide +kernel)
@[simp] theorem s_7_6 : (Str.ofString "told" = Str.ofString "watch") = False := eq_false (by decide +kernel)
@[simp] theorem s_7_8 : (Str.ofString "told" = Str.ofString "seal") = False := eq_false (by decide +kernel)
@[simp] theorem s_7_9 : (Str.ofString "told" = Str.ofString "cut") = False := eq_false (by decide +kernel)
@[simp] theorem s_7_10 : (Str.ofString "told" = Str.ofString "no such octets") = False := eq_false (by decide +kernel)
@[simp] theorem s_7_11 : (Str.ofString "told" = Str.ofString "") = False := eq_false (by decide +kernel)
@[simp] theorem s_7_12 : (Str.ofString "told" = Str.ofString "leaf") = False := eq_false (by decide +kernel)
@[simp] theorem s_7_13 : (Str.ofString "told" = Str.ofString "x") = False := eq_false (by decide +kernel)
@[simp] theorem s_7_14 : (Str.ofString "told" = Str.ofString "behind") = False := eq_false (by decide +kernel)
@[simp] theorem s_7_15 : (Str.ofString "told" = Str.ofString "none") = False := eq_false (by decide +kernel)
@[simp] theorem s_7_16 : (Str.ofString "told" = Str.ofString "torn") = False := eq_false (by decide +kernel)
@[simp] theorem s_7_17 : (Str.ofString "told" = Str.ofString "changed") = False := eq_false (by decide +kernel)
@[simp] theorem s_7_18 : (Str.ofString "told" = Str.ofString "what") = False := eq_false (by decide +kernel)
@[simp] theorem s_7_19 : (Str.ofString "told" = Str.ofString "hand") = False := eq_false (by decide +kernel)
@[simp] theorem s_8_0 : (Str.ofString "seal" = Str.ofString "event") = False := eq_false (by decide +kernel)
@[simp] theorem s_8_1 : (Str.ofString "seal" = Str.ofString "ask") = False := eq_false (by decide +kernel)
@[simp] theorem s_8_2 : (Str.ofString "seal" = Str.ofString "facts") = False := eq_false (by decide +kernel)
@[simp] theorem s_8_3 : (Str.ofString "seal" = Str.ofString "slipped") = False := eq_false (by decide +kernel)
@[simp] theorem s_8_4 : (Str.ofString "seal" = Str.ofString "blame") = False := eq_false (by decide +kernel)
@[simp] theorem s_8_5 : (Str.ofString "seal" = Str.ofString "plan") = False := eq_false (by decide +kernel)
@[simp] theorem s_8_6 : (Str.ofString "seal" = Str.ofString "watch") = False := eq_false (by decide +kernel)
@[simp] theorem s_8_7 : (Str.ofString "seal" = Str.ofString "told") = False := eq_false (by decide +kernel)
@[simp] theorem s_8_9 : (Str.ofString "seal" = Str.ofString "cut") = False := eq_false (by decide +kernel)
@[simp] theorem s_8_10 : (Str.ofString "seal" = Str.ofString "no such octets") = False := eq_false (by decide +kernel)
@[simp] theorem s_8_11 : (Str.ofString "seal" = Str.ofString "") = False := eq_false (by decide +kernel)
@[simp] theorem s_8_12 : (Str.ofString "seal" = Str.ofString "leaf") = False := eq_false (by decide +kernel)
@[simp] theorem s_8_13 : (Str.ofString "seal" = Str.ofString "x") = False := eq_false (by decide +kernel)
@[simp] theorem s_8_14 : (Str.ofString "seal" = Str.ofString "behind") = False := eq_false (by decide +kernel)
@[simp] theorem s_8_15 : (Str.ofString "seal" = Str.ofString "none") = False := eq_false (by decide +kernel)
@[simp] theorem s_8_16 : (Str.ofString "seal" = Str.ofString "torn") = False := eq_false (by decide +kernel)
@[simp] theorem s_8_17 : (Str.ofString "seal" = Str.ofString "changed") = False := eq_false (by decide +kernel)
@[simp] theorem s_8_18 : (Str.ofString "seal" = Str.ofString "what") = False := eq_false (by decide +kernel)
@[simp] theorem s_8_19 : (Str.ofString "seal" = Str.ofString "hand") = False := eq_false (by decide +kernel)
@[simp] theorem s_9_0 : (Str.ofString "cut" = Str.ofString "event") = False := eq_false (by decide +kernel)
@[simp] theorem s_9_1 : (Str.ofString "cut" = Str.ofString "ask") = False := eq_false (by decide +kernel)
@[simp] theorem s_9_2 : (Str.ofString "cut" = Str.ofString "facts") = False := eq_false (by decide +kernel)
@[simp] theorem s_9_3 : (Str.ofString "cut" = Str.ofString "slipped") = False := eq_false (by decide +kernel)
@[simp] theorem s_9_4 : (Str.ofString "cut" = Str.ofString "blame") = False := eq_false (by decide +kernel)
@[simp] theorem s_9_5 : (Str.ofString "cut" = Str.ofString "plan") = False := eq_false (by decide +kernel)
@[simp] theorem s_9_6 : (Str.ofString "cut" = Str.ofString "watch") = False := eq_false (by decide +kernel)
@[simp] theorem s_9_7 : (Str.ofString "cut" = Str.ofString "told") = False := eq_false (by decide +kernel)
@[simp] theorem s_9_8 : (Str.ofString "cut" = Str.ofString "seal") = False := eq_false (by decide +kernel)
@[simp] theorem s_9_10 : (Str.ofString "cut" = Str.ofString "no such octets") = False := eq_false (by decide +kernel)
@[simp] theorem s_9_11 : (Str.ofString "cut" = Str.ofString "") = False := eq_false (by decide +kernel)
@[simp] theorem s_9_12 : (Str.ofString "cut" = Str.ofString "leaf") = False := eq_false (by decide +kernel)
@[simp] theorem s_9_13 : (Str.ofString "cut" = Str.ofString "x") = False := eq_false (by decide +kernel)
@[simp] theorem s_9_14 : (Str.ofString "cut" = Str.ofString "behind") = False := eq_false (by decide +kernel)
@[simp] theorem s_9_15 : (Str.ofString "cut" = Str.ofString "none") = False := eq_false (by decide +kernel)
@[simp] theorem s_9_16 : (Str.ofString "cut" = Str.ofString "torn") = False := eq_false (by decide +kernel)
@[simp] theorem s_9_17 : (Str.ofString "cut" = Str.ofString "changed") = False := eq_false (by decide +kernel)
@[simp] theorem s_9_18 : (Str.ofString "cut" = Str.ofString "what") = False := eq_false (by decide +kernel)
@[simp] theorem s_9_19 : (Str.ofString "cut" = Str.ofString "hand") = False := eq_false (by decide +kernel)
@[simp] theorem s_10_0 : (Str.ofString "no such octets" = Str.ofString "event") = False := eq_false (by decide +kernel)
@[simp] theorem s_10_1 : (Str.ofString "no such octets" = Str.ofString "ask") = False := eq_false (by decide +kernel)
@[simp] theorem s_10_2 : (Str.ofString "no such octets" = Str.ofString "facts") = False := eq_false (by decide +kernel)
@[simp] theorem s_10_3 : (Str.ofString "no such octets" = Str.ofString "slipped") = False := eq_false (by decide +kernel)
@[simp] theorem s_10_4 : (Str.ofString "no such octets" = Str.ofString "blame") = False := eq_false (by decide +kernel)
@[simp] theorem s_10_5 : (Str.ofString "no such octets" = Str.ofString "plan") = False := eq_false (by decide +kernel)
@[simp] theorem s_10_6 : (Str.ofString "no such octets" = Str.ofString "watch") = False := eq_false (by decide +kernel)
@[simp] theorem s_10_7 : (Str.ofString "no such octets" = Str.ofString "told") = False := eq_false (by decide +kernel)
@[simp] theorem s_10_8 : (Str.ofString "no such octets" = Str.ofString "seal") = False := eq_false (by decide +kernel)
@[simp] theorem s_10_9 : (Str.ofString "no such octets" = Str.ofString "cut") = False := eq_false (by decide +kernel)
@[simp] theorem s_10_11 : (Str.ofString "no such octets" = Str.ofString "") = False := eq_false (by decide +kernel)
@[simp] theorem s_10_12 : (Str.ofString "no such octets" = Str.ofString "leaf") = False := eq_false (by decide +kernel)
@[simp] theorem s_10_13 : (Str.ofString "no such octets" = Str.ofString "x") = False := eq_false (by decide +kernel)
@[simp] theorem s_10_14 : (Str.ofString "no such octets" = Str.ofString "behind") = False := eq_false (by decide +kernel)
@[simp] theorem s_10_15 : (Str.ofString "no such octets" = Str.ofString "none") = False := eq_false (by decide +kernel)
@[simp] theorem s_10_16 : (Str.ofString "no such octets" = Str.ofString "torn") = False := eq_false (by decide +kernel)
@[simp] theorem s_10_17 : (Str.ofString "no such octets" = Str.ofString "changed") = False := eq_false (by decide +kernel)
@[simp] theorem s_10_18 : (Str.ofString "no such octets" = Str.ofString "what") = False := eq_false (by decide +kernel)
@[simp] theorem s_10_19 : (Str.ofString "no such octets" = Str.ofString "hand") = False := eq_false (by decide +kernel)
@[simp] theorem s_11_0 : (Str.ofString "" = Str.ofString "event") = False := eq_false (by decide +kernel)
@[simp] theorem s_11_1 : (Str.ofString "" = Str.ofString "ask") = False := eq_false (by decide +kernel)
@[simp] theorem s_11_2 : (Str.ofString "" = Str.ofString "facts") = False := eq_false (by decide +kernel)
@[simp] theorem s_11_3 : (Str.ofString "" = Str.ofString "slipped") = False := eq_false (by decide +kernel)
@[simp] theorem s_11_4 : (Str.ofString "" = Str.ofString "blame") = False := eq_false (by decide +kernel)
@[simp] theorem s_11_5 : (Str.ofString "" = Str.ofString "plan") = False := eq_false (by decide +kernel)
@[simp] theorem s_11_6 : (Str.ofString "" = Str.ofString "watch") = False := eq_false (by decide +kernel)
@[simp] theorem s_11_7 : (Str.ofString "" = Str.ofString "told") = False := eq_false (by decide +kernel)
@[simp] theorem s_11_8 : (Str.ofString "" = Str.ofString "seal") = False := eq_false (by decide +kernel)
@[simp] theorem s_11_9 : (Str.ofString "" = Str.ofString "cut") = False := eq_false (by decide +kernel)
@[simp] theorem s_11_10 : (Str.ofString "" = Str.ofString "no such octets") = False := eq_false (by decide +kernel)
@[simp] theorem s_11_12 : (Str.ofString "" = Str.ofString "leaf") = False := eq_false (by decide +kernel)
@[simp] theorem s_11_13 : (Str.ofString "" = Str.ofString "x") = False := eq_false (by decide +kernel)
@[simp] theorem s_11_14 : (Str.ofString "" = Str.ofString "behind") = False := eq_false (by decide +kernel)
@[simp] theorem s_11_15 : (Str.ofString "" = Str.ofString "none") = False := eq_false (by decide +kernel)
@[simp] theorem s_11_16 : (Str.ofString "" = Str.ofString "torn") = False := eq_false (by decide +kernel)
@[simp] theorem s_11_17 : (Str.ofString "" = Str.ofString "changed") = False := eq_false (by decide +kernel)
@[simp] theorem s_11_18 : (Str.ofString "" = Str.ofString "what") = False := eq_false (by decide +kernel)
@[simp] theorem s_11_19 : (Str.ofString "" = Str.ofString "hand") = False := eq_false (by decide +kernel)
@[simp] theorem s_12_0 : (Str.ofString "leaf" = Str.ofString "event") = False := eq_false (by decide +kernel)
@[simp] theorem s_12_1 : (Str.ofString "leaf" = Str.ofString "ask") = False := eq_false (by decide +kernel)
@[simp] theorem s_12_2 : (Str.ofString "leaf" = Str.ofString "facts") = False := eq_false (by decide +kernel)
@[simp] theorem s_12_3 : (Str.ofString "leaf" = Str.ofString "slipped") = False := eq_false (by decide +kernel)
@[simp] theorem s_12_4 : (Str.ofString "leaf" = Str.ofString "blame") = False := eq_false (by decide +kernel)
@[simp] theorem s_12_5 : (Str.ofString "leaf" = Str.ofString "plan") = False := eq_false (by decide +kernel)
@[simp] theorem s_12_6 : (Str.ofString "leaf" = Str.ofString "watch") = False := eq_false (by decide +kernel)
@[simp] theorem s_12_7 : (Str.ofString "leaf" = Str.ofString "told") = False := eq_false (by decide +kernel)
@[simp] theorem s_12_8 : (Str.ofString "leaf" = Str.ofString "seal") = False := eq_false (by decide +kernel)
@[simp] theorem s_12_9 : (Str.ofString "leaf" = Str.ofString "cut") = False := eq_false (by decide +kernel)
@[simp] theorem s_12_10 : (Str.ofString "leaf" = Str.ofString "no such octets") = False := eq_false (by decide +kernel)
@[simp] theorem s_12_11 : (Str.ofString "leaf" = Str.ofString "") = False := eq_false (by decide +kernel)
@[simp] theorem s_12_13 : (Str.ofString "leaf" = Str.ofString "x") = False := eq_false (by decide +kernel)
@[simp] theorem s_12_14 : (Str.ofString "leaf" = Str.ofString "behind") = False := eq_false (by decide +kernel)
@[simp] theorem s_12_15 : (Str.ofString "leaf" = Str.ofString "none") = False := eq_false (by decide +kernel)
@[simp] theorem s_12_16 : (Str.ofString "leaf" = Str.ofString "torn") = False := eq_false (by decide +kernel)
@[simp] theorem s_12_17 : (Str.ofString "leaf" = Str.ofString "changed") = False := eq_false (by decide +kernel)
@[simp] theorem s_12_18 : (Str.ofString "leaf" = Str.ofString "what") = False := eq_false (by decide +kernel)
@[simp] theorem s_12_19 : (Str.ofString "leaf" = Str.ofString "hand") = False := eq_false (by decide +kernel)
@[simp] theorem s_13_0 : (Str.ofString "x" = Str.ofString "event") = False := eq_false (by decide +kernel)
@[simp] theorem s_13_1 : (Str.ofString "x" = Str.ofString "ask") = False := eq_false (by decide +kernel)
@[simp] theorem s_13_2 : (Str.ofString "x" = Str.ofString "facts") = False := eq_false (by decide +kernel)
@[simp] theorem s_13_3 : (Str.ofString "x" = Str.ofString "slipped") = False := eq_false (by decide +kernel)
@[simp] theorem s_13_4 : (Str.ofString "x" = Str.ofString "blame") = False := eq_false (by decide +kernel)
@[simp] theorem s_13_5 : (Str.ofString "x" = Str.ofString "plan") = False := eq_false (by decide +kernel)
@[simp] theorem s_13_6 : (Str.ofString "x" = Str.ofString "watch") = False := eq_false (by decide +kernel)
@[simp] theorem s_13_7 : (Str.ofString "x" = Str.ofString "told") = False := eq_false (by decide +kernel)
@[simp] theorem s_13_8 : (Str.ofString "x" = Str.ofString "seal") = False := eq_false (by decide +kernel)
@[simp] theorem s_13_9 : (Str.ofString "x" = Str.ofString "cut") = False := eq_false (by decide +kernel)
@[simp] theorem s_13_10 : (Str.ofString "x" = Str.ofString "no such octets") = False := eq_false (by decide +kernel)
@[simp] theorem s_13_11 : (Str.ofString "x" = Str.ofString "") = False := eq_false (by decide +kernel)
@[simp] theorem s_13_12 : (Str.ofString "x" = Str.ofString "leaf") = False := eq_false (by decide +kernel)
@[simp] theorem s_13_14 : (Str.ofString "x" = Str.ofString "behind") = False := eq_false (by decide +kernel)
@[simp] theorem s_13_15 : (Str.ofString "x" = Str.ofString "none") = False := eq_false (by decide +kernel)
@[simp] theorem s_13_16 : (Str.ofString "x" = Str.ofString "torn") = False := eq_false (by decide +kernel)
@[simp] theorem s_13_17 : (Str.ofString "x" = Str.ofString "changed") = False := eq_false (by decide +kernel)
@[simp] theorem s_13_18 : (Str.ofString "x" = Str.ofString "what") = False := eq_false (by decide +kernel)
@[simp] theorem s_13_19 : (Str.ofString "x" = Str.ofString "hand") = False := eq_false (by decide +kernel)
@[simp] theorem s_14_0 : (Str.ofString "behind" = Str.ofString "event") = False := eq_false (by decide +kernel)
@[simp] theorem s_14_1 : (Str.ofString "behind" = Str.ofString "ask") = False := eq_false (by decide +kernel)
@[simp] theorem s_14_2 : (Str.ofString "behind" = Str.ofString "facts") = False := eq_false (by decide +kernel)
@[simp] theorem s_14_3 : (Str.ofString "behind" = Str.ofString "slipped") = False := eq_false (by decide +kernel)
@[simp] theorem s_14_4 : (Str.ofString "behind" = Str.ofString "blame") = False := eq_false (by decide +kernel)
@[simp] theorem s_14_5 : (Str.ofString "behind" = Str.ofString "plan") = False := eq_false (by decide +kernel)
@[simp] theorem s_14_6 : (Str.ofString "behind" = Str.ofString "watch") = False := eq_false (by decide +kernel)
@[simp] theorem s_14_7 : (Str.ofString "behind" = Str.ofString "told") = False := eq_false (by decide +kernel)
@[simp] theorem s_14_8 : (Str.ofString "behind" = Str.ofString "seal") = False := eq_false (by decide +kernel)
@[simp] theorem s_14_9 : (Str.ofString "behind" = Str.ofString "cut") = False := eq_false (by decide +kernel)
@[simp] theorem s_14_10 : (Str.ofString "behind" = Str.ofString "no such octets") = False := eq_false (by decide +kernel)
@[simp] theorem s_14_11 : (Str.ofString "behind" = Str.ofString "") = False := eq_false (by decide +kernel)
@[simp] theorem s_14_12 : (Str.ofString "behind" = Str.ofString "leaf") = False := eq_false (by decide +kernel)
@[simp] theorem s_14_13 : (Str.ofString "behind" = Str.ofString "x") = False := eq_false (by decide +kernel)
@[simp] theorem s_14_15 : (Str.ofString "behind" = Str.ofString "none") = False := eq_false (by decide +kernel)
@[simp] theorem s_14_16 : (Str.ofString "behind" = Str.ofString "torn") = False := eq_false (by decide +kernel)
@[simp] theorem s_14_17 : (Str.ofString "behind" = Str.ofString "changed") = False := eq_false (by decide +kernel)
@[simp] theorem s_14_18 : (Str.ofString "behind" = Str.ofString "what") = False := eq_false (by decide +kernel)
@[simp] theorem s_14_19 : (Str.ofString "behind" = Str.ofString "hand") = False := eq_false (by decide +kernel)
@[simp] theorem s_15_0 : (Str.ofString "none" = Str.ofString "event") = False := eq_false (by decide +kernel)
@[simp] theorem s_15_1 : (Str.ofString "none" = Str.ofString "ask") = False := eq_false (by decide +kernel)
@[simp] theorem s_15_2 : (Str.ofString "none" = Str.ofString "facts") = False := eq_false (by decide +kernel)
@[simp] theorem s_15_3 : (Str.ofString "none" = Str.ofString "slipped") = False := eq_false (by decide +kernel)
@[simp] theorem s_15_4 : (Str.ofString "none" = Str.ofString "blame") = False := eq_false (by decide +kernel)
@[simp] theorem s_15_5 : (Str.ofString "none" = Str.ofString "plan") = False := eq_false (by decide +kernel)
@[simp] theorem s_15_6 : (Str.ofString "none" = Str.ofString "watch") = False := eq_false (by decide +kernel)
@[simp] theorem s_15_7 : (Str.ofString "none" = Str.ofString "told") = False := eq_false (by decide +kernel)
@[simp] theorem s_15_8 : (Str.ofString "none" = Str.ofString "seal") = False := eq_false (by decide +kernel)
@[simp] theorem s_15_9 : (Str.ofString "none" = Str.ofString "cut") = False := eq_false (by decide +kernel)
@[simp] theorem s_15_10 : (Str.ofString "none" = Str.ofString "no such octets") = False := eq_false (by decide +kernel)
@[simp] theorem s_15_11 : (Str.ofString "none" = Str.ofString "") = False := eq_false (by decide +kernel)
@[simp] theorem s_15_12 : (Str.ofString "none" = Str.ofString "leaf") = False := eq_false (by decide +kernel)
@[simp] theorem s_15_13 : (Str.ofString "none" = Str.ofString "x") = False := eq_false (by decide +kernel)
@[simp] theorem s_15_14 : (Str.ofString "none" = Str.ofString "behind") = False := eq_false (by decide +kernel)
@[simp] theorem s_15_16 : (Str.ofString "none" = Str.ofString "torn") = False := eq_false (by decide +kernel)
@[simp] theorem s_15_17 : (Str.ofString "none" = Str.ofString "changed") = False := eq_false (by decide +kernel)
@[simp] theorem s_15_18 : (Str.ofString "none" = Str.ofString "what") = False := eq_false (by decide +kernel)
@[simp] theorem s_15_19 : (Str.ofString "none" = Str.ofString "hand") = False := eq_false (by decide +kernel)
@[simp] theorem s_16_0 : (Str.ofString "torn" = Str.ofString "event") = False := eq_false (by decide +kernel)
@[simp] theorem s_16_1 : (Str.ofString "torn" = Str.ofString "ask") = False := eq_false (by decide +kernel)
@[simp] theorem s_16_2 : (Str.ofString "torn" = Str.ofString "facts") = False := eq_false (by decide +kernel)
@[simp] theorem s_16_3 : (Str.ofString "torn" = Str.ofString "slipped") = False := eq_false (by decide +kernel)
@[simp] theorem s_16_4 : (Str.ofString "torn" = Str.ofString "blame") = False := eq_false (by decide +kernel)
@[simp] theorem s_16_5 : (Str.ofString "torn" = Str.ofString "plan") = False := eq_false (by decide +kernel)
@[simp] theorem s_16_6 : (Str.ofString "torn" = Str.ofString "watch") = False := eq_false (by decide +kernel)
@[simp] theorem s_16_7 : (Str.ofString "torn" = Str.ofString "told") = False := eq_false (by decide +kernel)
@[simp] theorem s_16_8 : (Str.ofString "torn" = Str.ofString "seal") = False := eq_false (by decide +kernel)
@[simp] theorem s_16_9 : (Str.ofString "torn" = Str.ofString "cut") = False := eq_false (by decide +kernel)
@[simp] theorem s_16_10 : (Str.ofString "torn" = Str.ofString "no such octets") = False := eq_false (by decide +kernel)
@[simp] theorem s_16_11 : (Str.ofString "torn" = Str.ofString "") = False := eq_false (by decide +kernel)
@[simp] theorem s_16_12 : (Str.ofString "torn" = Str.ofString "leaf") = False := eq_false (by decide +kernel)
@[simp] theorem s_16_13 : (Str.ofString "torn" = Str.ofString "x") = False := eq_false (by decide +kernel)
@[simp] theorem s_16_14 : (Str.ofString "torn" = Str.ofString "behind") = False := eq_false (by decide +kernel)
@[simp] theorem s_16_15 : (Str.ofString "torn" = Str.ofString "none") = False := eq_false (by decide +kernel)
@[simp] theorem s_16_17 : (Str.ofString "torn" = Str.ofString "changed") = False := eq_false (by decide +kernel)
@[simp] theorem s_16_18 : (Str.ofString "torn" = Str.ofString "what") = False := eq_false (by decide +kernel)
@[simp] theorem s_16_19 : (Str.ofString "torn" = Str.ofString "hand") = False := eq_false (by decide +kernel)
@[simp] theorem s_17_0 : (Str.ofString "changed" = Str.ofString "event") = False := eq_false (by decide +kernel)
@[simp] theorem s_17_1 : (Str.ofString "changed" = Str.ofString "ask") = False := eq_false (by decide +kernel)
@[simp] theorem s_17_2 : (Str.ofString "changed" = Str.ofString "facts") = False := eq_false (by decide +kernel)
@[simp] theorem s_17_3 : (Str.ofString "changed" = Str.ofString "slipped") = False := eq_false (by decide +kernel)
@[simp] theorem s_17_4 : (Str.ofString "changed" = Str.ofString "blame") = False := eq_false (by decide +kernel)
@[simp] theorem s_17_5 : (Str.ofString "changed" = Str.ofString "plan") = False := eq_false (by decide +kernel)
@[simp] theorem s_17_6 : (Str.ofString "changed" = Str.ofString "watch") = False := eq_false (by decide +kernel)
@[simp] theorem s_17_7 : (Str.ofString "changed" = Str.ofString "told") = False := eq_false (by decide +kernel)
@[simp] theorem s_17_8 : (Str.ofString "changed" = Str.ofString "seal") = False := eq_false (by decide +kernel)
@[simp] theorem s_17_9 : (Str.ofString "changed" = Str.ofString "cut") = False := eq_false (by decide +kernel)
@[simp] theorem s_17_10 : (Str.ofString "changed" = Str.ofString "no such octets") = False := eq_false (by decide +kernel)
@[simp] theorem s_17_11 : (Str.ofString "changed" = Str.ofString "") = False := eq_false (by decide +kernel)
@[simp] theorem s_17_12 : (Str.ofString "changed" = Str.ofString "leaf") = False := eq_false (by decide +kernel)
@[simp] theorem s_17_13 : (Str.ofString "changed" = Str.ofString "x") = False := eq_false (by decide +kernel)
@[simp] theorem s_17_14 : (Str.ofString "changed" = Str.ofString "behind") = False := eq_false (by decide +kernel)
@[simp] theorem s_17_15 : (Str.ofString "changed" = Str.ofString "none") = False := eq_false (by decide +kernel)
@[simp] theorem s_17_16 : (Str.ofString "changed" = Str.ofString "torn") = False := eq_false (by decide +kernel)
@[simp] theorem s_17_18 : (Str.ofString "changed" = Str.ofString "what") = False := eq_false (by decide +kernel)
@[simp] theorem s_17_19 : (Str.ofString "changed" = Str.ofString "hand") = False := eq_false (by decide +kernel)
@[simp] theorem s_18_0 : (Str.ofString "what" = Str.ofString "event") = False := eq_false (by decide +kernel)
@[simp] theorem s_18_1 : (Str.ofString "what" = Str.ofString "ask") = False := eq_false (by decide +kernel)
@[simp] theorem s_18_2 : (Str.ofString "what" = Str.ofString "facts") = False := eq_false (by decide +kernel)
@[simp] theorem s_18_3 : (Str.ofString "what" = Str.ofString "slipped") = False := eq_false (by decide +kernel)
@[simp] theorem s_18_4 : (Str.ofString "what" = Str.ofString "blame") = False := eq_false (by decide +kernel)
@[simp] theorem s_18_5 : (Str.ofString "what" = Str.ofString "plan") = False := eq_false (by decide +kernel)
@[simp] theorem s_18_6 : (Str.ofString "what" = Str.ofString "watch") = False := eq_false (by decide +kernel)
@[simp] theorem s_18_7 : (Str.ofString "what" = Str.ofString "told") = False := eq_false (by decide +kernel)
@[simp] theorem s_18_8 : (Str.ofString "what" = Str.ofString "seal") = False := eq_false (by decide +kernel)
@[simp] theorem s_18_9 : (Str.ofString "what" = Str.ofString "cut") = False := eq_false (by decide +kernel)
@[simp] theorem s_18_10 : (Str.ofString "what" = Str.ofString "no such octets") = False := eq_false (by decide +kernel)
@[simp] theorem s_18_11 : (Str.ofString "what" = Str.ofString "") = False := eq_false (by decide +kernel)
@[simp] theorem s_18_12 : (Str.ofString "what" = Str.ofString "leaf") = False := eq_false (by decide +kernel)
@[simp] theorem s_18_13 : (Str.ofString "what" = Str.ofString "x") = False := eq_false (by decide +kernel)
@[simp] theorem s_18_14 : (Str.ofString "what" = Str.ofString "behind") = False := eq_false (by decide +kernel)
@[simp] theorem s_18_15 : (Str.ofString "what" = Str.ofString "none") = False := eq_false (by decide +kernel)
@[simp] theorem s_18_16 : (Str.ofString "what" = Str.ofString "torn") = False := eq_false (by decide +kernel)
@[simp] theorem s_18_17 : (Str.ofString "what" = Str.ofString "changed") = False := eq_false (by decide +kernel)
@[simp] theorem s_18_19 : (Str.ofString "what" = Str.ofString "hand") = False := eq_false (by decide +kernel)
@[simp] theorem s_19_0 : (Str.ofString "hand" = Str.ofString "event") = False := eq_false (by decide +kernel)
@[simp] theorem s_19_1 : (Str.ofString "hand" = Str.ofString "ask") = False := eq_false (by decide +kernel)
@[simp] theorem s_19_2 : (Str.ofString "hand" = Str.ofString "facts") = False := eq_false (by decide +kernel)
@[simp] theorem s_19_3 : (Str.ofString "hand" = Str.ofString "slipped") = False := eq_false (by decide +kernel)
@[simp] theorem s_19_4 : (Str.ofString "hand" = Str.ofString "blame") = False := eq_false (by decide +kernel)
@[simp] theorem s_19_5 : (Str.ofString "hand" = Str.ofString "plan") = False := eq_false (by decide +kernel)
@[simp] theorem s_19_6 : (Str.ofString "hand" = Str.ofString "watch") = False := eq_false (by decide +kernel)
@[simp] theorem s_19_7 : (Str.ofString "hand" = Str.ofString "told") = False := eq_false (by decide +kernel)
@[simp] theorem s_19_8 : (Str.ofString "hand" = Str.ofString "seal") = False := eq_false (by decide +kernel)
@[simp] theorem s_19_9 : (Str.ofString "hand" = Str.ofString "cut") = False := eq_false (by decide +kernel)
@[simp] theorem s_19_10 : (Str.ofString "hand" = Str.ofString "no such octets") = False := eq_false (by decide +kernel)
@[simp] theorem s_19_11 : (Str.ofString "hand" = Str.ofString "") = False := eq_false (by decide +kernel)
@[simp] theorem s_19_12 : (Str.ofString "hand" = Str.ofString "leaf") = False := eq_false (by decide +kernel)
@[simp] theorem s_19_13 : (Str.ofString "hand" = Str.ofString "x") = False := eq_false (by decide +kernel)
@[simp] theorem s_19_14 : (Str.ofString "hand" = Str.ofString "behind") = False := eq_false (by decide +kernel)
@[simp] theorem s_19_15 : (Str.ofString "hand" = Str.ofString "none") = False := eq_false (by decide +kernel)
@[simp] theorem s_19_16 : (Str.ofString "hand" = Str.ofString "torn") = False := eq_false (by decide +kernel)
@[simp] theorem s_19_17 : (Str.ofString "hand" = Str.ofString "changed") = False := eq_false (by decide +kernel)
@[simp] theorem s_19_18 : (Str.ofString "hand" = Str.ofString "what") = False := eq_false (by decide +kernel)
end K83

namespace K83
open PySem PyE
def sS (s : String) : D := .str (Str.ofString s)
def formsOf (n : Int) (o x : D) : List D :=
  [.tup [sS "event", .tup [sS "behind", .int (-1), .int 2]], .tup [sS "event", x], .tup [sS "ask", .int n, .int (-1), o, .tup [sS "none", .tup []]], .tup [sS "facts", .int n, .tup [.tup [.int 0, .int 3]]], .tup [sS "slipped", .non],
   .tup [sS "blame", .tup [.tup [], .tup []]], .tup [sS "plan", .tup [.tup [sS "hand", .int 0]], .int 0, .int n, .tup [sS "none"]], .tup [sS "watch", .int n, .int 0, o, .int 2, .tup [.int 1, .bl true]], .tup [sS "watch", .int 0, .int 1, .non, .int 0, .tup [.non, .bl false]],
   .tup [sS "told", .int n, .non], .tup [sS "told", .int n, .tup [.int 2, .bl false]], .tup [sS "seal"], .tup [sS "cut"]]
def oth : List D := [.non, .int 0, .int 3]
def wds : List D := [.non, sS "x", .tup []]
/-- each form once -/
def base : List D := [.tup [sS "event", .tup [sS "behind", .int (-1), .int 2]], .tup [sS "slipped", .non], .tup [sS "blame", .tup [.tup [], .tup []]], .tup [sS "watch", .int 0, .int 1, .non, .int 0, .tup [.non, .bl false]], .tup [sS "seal"], .tup [sS "cut"]] ++
  wds.map (fun x => .tup [sS "event", x]) ++
  ([0, 1, 2, 3] : List Int).flatMap (fun n => [.tup [sS "facts", .int n, .tup [.tup [.int 0, .int 3]]], .tup [sS "plan", .tup [.tup [sS "hand", .int 0]], .int 0, .int n, .tup [sS "none"]], .tup [sS "told", .int n, .non], .tup [sS "told", .int n, .tup [.int 2, .bl false]]] ++
    oth.flatMap fun o => [.tup [sS "ask", .int n, .int (-1), o, .tup [sS "none", .tup []]], .tup [sS "watch", .int n, .int 0, o, .int 2, .tup [.int 1, .bl true]]])
def octD (os : List Nat) : List D := os.map fun n => .int (n : Nat)
def natsOf : List D → List Nat
  | [] => []
  | .int i :: r => i.toNat :: natsOf r
  | _ :: r => natsOf r
def tailD : D → List D
  | .tup (_ :: r) => r
  | _ => []
def wordD : D → Str
  | .tup (.str w :: _) => w
  | _ => Str.ofString ""
def kindsS : List Str := ["event", "ask", "facts", "slipped", "blame", "plan", "watch", "told", "seal", "cut"].map Str.ofString
def kindN (d : D) : Nat := (posS (wordD d) kindsS 0).getD 0
/-- the payload of a row's frame -/
def payD (d : D) : List Nat := match callF prog 28 f_packed [.tup (tailD d)] [] with
  | .ok (.tup os) _ => natsOf os
  | _ => []
def isOk (r : R D) (v : D) : Bool := match r with
  | .ok d _ => D.beq d v
  | _ => false
def chkD (d : D) : Bool := isOk (callF prog 28 f_packed [.tup (tailD d)] []) (.tup (octD (payD d))) && isOk (callF prog 28 f_row_of_frame [.int (kindN d : Nat), .tup (octD (payD d))] []) d && decide ((payD d).length ≤ 60) && (payD d).all (fun n => decide (n < 256)) && decide ((posS (wordD d) kindsS 0).isSome) && D.beq d (.tup (.str (wordD d) :: tailD d))
theorem base_ok : base.all chkD = true := by decide +kernel
end K83

namespace PyE
open PySem
theorem fold_ex {F : D → List D → Store → R (List D)} (I : Store → Prop) (P : D → Prop) (mem : D → Prop) (one : Bool)
    (h : ∀ x acc st, mem x → I st → acc.length < line → ∃ ys st', F x acc st = .ok (acc ++ ys) st' ∧ I st' ∧ (∀ y ∈ ys, P y) ∧ ys.length ≤ 1 ∧ (one = true → ys.length = 1)) :
    ∀ (items acc : List D) (st : Store), (∀ x ∈ items, mem x) → I st → acc.length + items.length ≤ line → ∃ zs st', foldR F items acc st = .ok (acc ++ zs) st' ∧ I st' ∧ (∀ z ∈ zs, P z) ∧ zs.length ≤ items.length ∧ (one = true → zs.length = items.length)
  | [], acc, st, _, hI, _ => ⟨[], st, by simp [foldR], hI, fun _ h => (nomatch h), Nat.le_refl _, fun _ => rfl⟩
  | x :: items, acc, st, hm, hI, hl => by
    rw [List.length_cons] at hl
    obtain ⟨ys, s1, e1, h1, h2, h3, h4⟩ := h x acc st (hm x List.mem_cons_self) hI (by omega)
    obtain ⟨zs, s2, e2, g1, g2, g3, g4⟩ := fold_ex I P mem one h items (acc ++ ys) s1 (fun y hy => hm y (List.mem_cons_of_mem _ hy)) h1 (by rw [List.length_append]; omega)
    refine ⟨ys ++ zs, s2, ?_, g1, fun z hz => ?_, by rw [List.length_append, List.length_cons]; omega, fun ho => by rw [List.length_append, List.length_cons, h4 ho, g4 ho]; omega⟩
    · show (F x acc st).bind _ = _
      rw [e1]
      show foldR F items (acc ++ ys) s1 = _
      rw [e2, List.append_assoc]
    · rcases List.mem_append.mp hz with hz | hz
      · exact h2 z hz
      · exact g2 z hz
theorem fold_lst {F : D → List D → Store → R (List D)} {items : List D} {st : Store} (I : Store → Prop) (P : D → Prop) (mem : D → Prop) (one : Bool) (hm : ∀ x ∈ items, mem x) (hI : I st) (hl : items.length ≤ line)
    (h : ∀ x acc st, mem x → I st → acc.length < line → ∃ ys st', F x acc st = .ok (acc ++ ys) st' ∧ I st' ∧ (∀ y ∈ ys, P y) ∧ ys.length ≤ 1 ∧ (one = true → ys.length = 1)) :
    ∃ zs st', ((foldR F items [] st).bind fun acc s6 => R.ok (D.lst acc) s6) = .ok (.lst zs) st' ∧ I st' ∧ (∀ z ∈ zs, P z) ∧ zs.length ≤ items.length ∧ (one = true → zs.length = items.length) := by
  obtain ⟨zs, st', e, r⟩ := fold_ex I P mem one h items [] st hm hI (by simpa using hl)
  rw [List.nil_append] at e
  exact ⟨zs, st', by rw [e]; rfl, r⟩
theorem fold_lst1 {F : D → List D → Store → R (List D)} {items : List D} {st : Store} (I : Store → Prop) (P : D → Prop) (mem : D → Prop) (hm : ∀ x ∈ items, mem x) (hI : I st) (hl : items.length ≤ line)
    (h : ∀ x acc st, mem x → I st → acc.length < line → ∃ y st', F x acc st = .ok (acc ++ [y]) st' ∧ I st' ∧ P y) :
    ∃ zs st', ((foldR F items [] st).bind fun acc s6 => R.ok (D.lst acc) s6) = .ok (.lst zs) st' ∧ I st' ∧ (∀ z ∈ zs, P z) ∧ zs.length = items.length := by
  obtain ⟨zs, st', e, h1, h2, h3, h4⟩ := fold_lst I P mem true hm hI hl fun x acc st a b c => by
    obtain ⟨y, st', e, i, p⟩ := h x acc st a b c
    exact ⟨[y], st', e, i, fun z hz => by rw [List.mem_singleton.mp hz]; exact p, Nat.le_refl 1, fun _ => rfl⟩
  exact ⟨zs, st', e, h1, h2, h4 rfl⟩
theorem map_of {α : Type} (f : α → D) (Q : α → Prop) : ∀ {zs : List D}, (∀ z ∈ zs, ∃ a, z = f a ∧ Q a) → ∃ as : List α, zs = as.map f ∧ ∀ a ∈ as, Q a
  | [], _ => ⟨[], rfl, fun _ h => (nomatch h)⟩
  | z :: zs, h => by
    obtain ⟨a, e1, q1⟩ := h z List.mem_cons_self
    obtain ⟨as, e2, q2⟩ := map_of f Q (zs := zs) fun y hy => h y (List.mem_cons_of_mem _ hy)
    exact ⟨a :: as, by rw [e1, e2]; rfl, fun b hb => by rcases List.mem_cons.mp hb with rfl | hb; exact q1; exact q2 b hb⟩
theorem fold_lst0 {F : D → List D → Store → R (List D)} {items : List D} {st : Store} (I : Store → Prop) (P : D → Prop) (mem : D → Prop) (hm : ∀ x ∈ items, mem x) (hI : I st) (hl : items.length ≤ line)
    (h : ∀ x acc st, mem x → I st → acc.length < line → ∃ ys st', F x acc st = .ok (acc ++ ys) st' ∧ I st' ∧ (∀ y ∈ ys, P y) ∧ ys.length ≤ 1) :
    ∃ zs st', ((foldR F items [] st).bind fun acc s6 => R.ok (D.lst acc) s6) = .ok (.lst zs) st' ∧ I st' ∧ (∀ z ∈ zs, P z) ∧ zs.length ≤ items.length := by
  obtain ⟨zs, st', e, h1, h2, h3, h4⟩ := fold_lst I P mem false hm hI hl fun x acc st a b c => by
    obtain ⟨ys, st', e, i, p, q⟩ := h x acc st a b c
    exact ⟨ys, st', e, i, p, q, fun z => by cases z⟩
  exact ⟨zs, st', e, h1, h2, h3⟩
end PyE
namespace K83
open PySem PyE
def oD : Option Int → D
  | none => .non
  | some i => .int i
@[simp] theorem oD_none : oD none = .non := rfl
@[simp] theorem oD_some (i : Int) : oD (some i) = .int i := rfl
theorem oD_pure (o : Option Int) : (oD o).pure = true := by cases o <;> rfl
def boxD (g r : Int) : D := .lst [.int g, .int r]
theorem box_pure (g r : Int) : (boxD g r).pure = true := rfl
theorem ev_take (k : Nat) (hk : 1 ≤ k) (g r many : Int) (h0 : 0 < many) (h1 : many < 1073741824) : ∃ d g' r', callF prog k f__law_take [.ref 0, .int many] [boxD g r] = .ok (.int d) [boxD g' r'] ∧ 0 ≤ d ∧ d < many := by
  have m1 : ∀ st, binD .mul (.int r) (.int 39373) st = .ok (.int (r * 39373)) st := fun st => bin_mul_int (.inr (by decide))
  have m2 : ∀ (a : Int) st, binD .mul (.int a) (.int 40692) st = .ok (.int (a * 40692)) st := fun a st => bin_mul_int (.inr (by decide))
  have m3 : ∀ (a : Int) st, binD .mul (.int a) (.int 2147483629) st = .ok (.int (a * 2147483629)) st := fun a st => bin_mul_int (.inr (by decide))
  have d1 : ∀ (a : Int) st, binD .mod (.int a) (.int 2147483647) st = .ok (.int (a % 2147483647)) st := fun a st => bin_mod_int (by decide)
  have d2 : ∀ (a : Int) st, binD .mod (.int a) (.int 2147483563) st = .ok (.int (a % 2147483563)) st := fun a st => bin_mod_int (by decide)
  have d3 : ∀ (a : Int) st, binD .mod (.int a) (.int many) st = .ok (.int (a % many)) st := fun a st => bin_mod_int h0
  have d4 : ∀ (a : Int) st, binD .fdiv (.int a) (.int 8273) st = .ok (.int (a / 8273)) st := fun a st => bin_fdiv_int (by decide) (by decide)
  have d5 : ∀ (a : Int) st, binD .fdiv (.int a) (.int many) st = .ok (.int (a / many)) st := fun a st => bin_fdiv_int h0 h1
  rw [callF_at p__law_take (by omega), run_at rfl]
  have i0 : ∀ a b : Int, ixD (.ref 0) (.int 0) [boxD a b] = .ok (.int a) [boxD a b] := fun _ _ => rfl
  have i1 : ∀ a b : Int, ixD (.ref 0) (.int 1) [boxD a b] = .ok (.int b) [boxD a b] := fun _ _ => rfl
  have n0 : L2.ixN 2 0 = some 0 := rfl
  have n1 : L2.ixN 2 1 = some 1 := rfl
  by_cases hg : 0 < g
  · refine ⟨g % many, g / many, r, ?_, Int.emod_nonneg _ (by omega), Int.emod_lt_of_pos _ h0⟩
    simp [c__law_take, i0, hg, d3, d5]
    simp [boxD, n0]
  · refine ⟨((r * 39373 + 229) % 2147483647 * 2147483629 + (((r * 39373 + 229) % 2147483647 * 40692 + 103) % 2147483563 + 1)) / 8273 % many, g, ((r * 39373 + 229) % 2147483647 * 40692 + 103) % 2147483563 + 1, ?_, Int.emod_nonneg _ (by omega), Int.emod_lt_of_pos _ h0⟩
    generalize hraw : (r * 39373 + 229) % 2147483647 = raw
    generalize hr' : (raw * 40692 + 103) % 2147483563 + 1 = r'
    simp [c__law_take, i0, i1, hg, m1, m2, m3, d1, d2, d3, d4, hraw]
    simp [boxD, n1, hr']
    have i1' : ∀ a b : Int, ixD (.ref 0) (.int 1) [.lst [.int a, .int b]] = .ok (.int b) [.lst [.int a, .int b]] := fun _ _ => rfl
    simp [i1', m3, d4, d3]
def IsBox (c : D) : Prop := ∃ g r, c = boxD g r
theorem take_ok {k : Nat} (hk : 1 ≤ k) {st : Store} {n : Nat} {c : D} (hc : st[n]? = some c) (hb : IsBox c) (many : Int) (h0 : 0 < many) (h1 : many < 1073741824) : ∃ d c', callIn (callF prog k) f__law_take [.ref n, .int many] [0] false st = .ok (.int d) (st.set n c') ∧ IsBox c' ∧ 0 ≤ d ∧ d < many := by
  obtain ⟨g, r, rfl⟩ := hb
  obtain ⟨d, g', r', e, h2, h3⟩ := ev_take k hk g r many h0 h1
  exact ⟨d, boxD g' r', call_box hc rfl rfl e rfl rfl rfl, ⟨g', r', rfl⟩, h2, h3⟩
def pl : Nat → D → Bool
  | 0, _ => false
  | n + 1, .tup xs => xs.all (pl n)
  | _ + 1, .non => true
  | _ + 1, .bl _ => true
  | _ + 1, .int _ => true
  | _ + 1, .str _ => true
  | _ + 1, _ => false
theorem pl_pure : ∀ (n : Nat) (d : D), pl n d = true → d.pure = true
  | 0, _, h => by cases h
  | n + 1, .tup xs, h => by
    simp only [D.pure]
    rw [pureL_iff]
    exact fun x hx => pl_pure n x (List.all_eq_true.mp h x hx)
  | _ + 1, .non, _ => rfl
  | _ + 1, .bl _, _ => rfl
  | _ + 1, .int _, _ => rfl
  | _ + 1, .str _, _ => rfl
  | _ + 1, .lst _, h => by cases h
  | _ + 1, .dct _, h => by cases h
  | _ + 1, .ref _, h => by cases h
  | _ + 1, .fn _ _, h => by cases h
theorem same_loop (cf : CallF) (X : D) : ∀ (xs : List D), (∀ x ∈ xs, callIn cf f__law_same [x, x] [] false [] = .ok (.bl true) []) →
    forR (asT cf (.tup (.cons (.name 2) (.cons (.name 3) .nil)))) (evSs cf b__law_same_0) [2, 3] 0 [] (zips xs xs) [some X, some X, none, none] [] = .ok (.nx, [some X, some X, none, none]) []
  | [], _ => rfl
  | x :: xs, h => by
    have hx := h x List.mem_cons_self
    unfold zips
    rw [for_step (en' := [some X, some X, none, none]) (st' := []) (by simp [stepR, b__law_same_0, hx])]
    exact same_loop cf X xs fun y hy => h y (List.mem_cons_of_mem _ hy)
theorem ev_same : ∀ (n : Nat) (d : D), pl n d = true → ∀ k, n ≤ k → callF prog k f__law_same [d, d] [] = .ok (.bl true) []
  | 0, _, h, _, _ => by cases h
  | n + 1, d, h, k, hk => by
    rw [callF_at p__law_same (by omega), run_at rfl]
    cases d with
    | non => simp [c__law_same, isPl, isTy]
    | bl b => cases b <;> simp [c__law_same, isPl, isTy, isBl]
    | int i => simp [c__law_same, isPl, isTy, isBl]
    | str s => simp [c__law_same, isPl, isTy, isBl]
    | tup xs =>
      have hl := same_loop (callF prog (k - 1)) (.tup xs) xs fun x hx => by
        have hp := List.all_eq_true.mp h x hx
        exact call_pure (by simp [pl_pure n x hp]) (ev_same n x hp (k - 1) (by omega)) rfl
      simp [c__law_same, isPl, isTy, hl]
    | _ => cases h
theorem cl_same {k n : Nat} (hk : n ≤ k) (d : D) (h : pl n d = true) (st : Store) : callIn (callF prog k) f__law_same [d, d] [] false st = .ok (.bl true) st :=
  call_pure (by simp [pl_pure n d h]) (ev_same n d h k hk) rfl
theorem take0 {k : Nat} (hk : 1 ≤ k) {c : D} (hb : IsBox c) (many : Int) (h0 : 0 < many) (h1 : many < 1073741824) : ∃ d c', callIn (callF prog k) f__law_take [.ref 0, .int many] [0] false [c] = .ok (.int d) [c'] ∧ IsBox c' ∧ 0 ≤ d ∧ d < many := by
  obtain ⟨d, c', h2, h3⟩ := take_ok hk (st := [c]) (n := 0) (show ([c] : Store)[0]? = some c from rfl) hb many h0 h1
  exact ⟨d, c', h2, h3⟩
theorem box_pl {c : D} (h : IsBox c) : c.pure = true := by obtain ⟨g, r, rfl⟩ := h; rfl
theorem ev_pick (k : Nat) (hk : 2 ≤ k) {c : D} (hb : IsBox c) (xs : List D) (h0 : xs ≠ []) (h1 : xs.length ≤ 10000) : ∃ x c', callF prog k f__law_pick [.ref 0, .lst xs] [c] = .ok x [c'] ∧ IsBox c' ∧ x ∈ xs := by
  have hl : 0 < xs.length := List.length_pos_iff.mpr h0
  obtain ⟨d, c', e, hb', hd0, hd1⟩ := take0 (k := k - 1) (by omega) hb ((xs.length : Nat) : Int) (by omega) (by omega)
  have hlt : d.toNat < xs.length := by omega
  have ed : d = (d.toNat : Int) := by omega
  refine ⟨xs[d.toNat], c', ?_, hb', List.getElem_mem hlt⟩
  rw [callF_at p__law_pick (by omega), run_at rfl]
  simp [c__law_pick, e]
  have ha := atI_nn xs d.toNat
  rw [← ed, List.getElem?_eq_getElem hlt] at ha
  simp [ha]
theorem pick_ok {k : Nat} (hk : 2 ≤ k) {st : Store} {n : Nat} {c : D} (hc : st[n]? = some c) (hb : IsBox c) (xs : List D) (h0 : xs ≠ []) (h1 : xs.length ≤ 10000) (hp : ∀ x ∈ xs, x.pure = true) : ∃ x c', callIn (callF prog k) f__law_pick [.ref n, .lst xs] [0] false st = .ok x (st.set n c') ∧ IsBox c' ∧ x ∈ xs := by
  obtain ⟨x, c', e, hb', hm⟩ := ev_pick k hk hb xs h0 h1
  exact ⟨x, c', call_box hc (box_pl hb) (by simp [D.pure]; exact pureL_iff.mpr hp) e rfl (box_pl hb') (hp x hm), hb', hm⟩
theorem pick0 {k : Nat} (hk : 2 ≤ k) {c : D} (hb : IsBox c) (xs : List D) (h0 : xs ≠ []) (h1 : xs.length ≤ 10000) (hp : ∀ x ∈ xs, x.pure = true) : ∃ x c', callIn (callF prog k) f__law_pick [.ref 0, .lst xs] [0] false [c] = .ok x [c'] ∧ IsBox c' ∧ x ∈ xs := by
  obtain ⟨x, c', h, r⟩ := pick_ok hk (st := [c]) (n := 0) (show ([c] : Store)[0]? = some c from rfl) hb xs h0 h1 hp
  exact ⟨x, c', h, r⟩
theorem range_lt {n : Nat} {x : D} (h : x ∈ rangeD 0 n) : ∃ i : Nat, x = .int i ∧ i < n := by
  obtain ⟨i, hi, rfl⟩ := List.mem_map.mp h
  exact ⟨i, by simp, List.mem_range.mp hi⟩
def BoxSt (st : Store) : Prop := ∃ c, st = [c] ∧ IsBox c
theorem for_same {asg : D → En → Store → R En} {body : En → Store → R (Fl × En)} {ws : List Nat} {n : Nat} {g : Guard} {en : En} {st : Store} : ∀ (items : List D), (∀ x ∈ items, stepR asg body ws n g x en st = .ok en st) → forR asg body ws n g items en st = .ok (.nx, en) st
  | [], _ => rfl
  | x :: items, h => by
    rw [for_step (h x List.mem_cons_self)]
    exact for_same items fun y hy => h y (List.mem_cons_of_mem _ hy)
theorem call_fresh {cf : CallF} {f : Nat} {xs : List D} {st : Store} {c : D} (hx : xs.all D.pure = true) (h : cf f xs [] = .ok (.ref 0) [c]) (hc : c.pure = true) : callIn cf f xs [] true st = .ok (.ref st.length) (st ++ [c]) := by
  have e : cellsAt st [] = some [] := rfl
  have hp : putBack [] [c] 0 [] st = some st := rfl
  simp only [callIn, prep_pure xs st 0 0 hx, e, h, callBack, hp]
  simp [hc, guardB]
theorem belL_ints (n : Nat) : ∀ ns : List Int, D.belL n (ns.map D.int) = true
  | [] => rfl
  | _ :: ns => by simp only [List.map_cons, D.belL, D.bel, Bool.true_and]; exact belL_ints n ns
def boxTail : Ss := (.cons (.asg (.name 3) (.ife (.cmp .ge (.var 2) (.bin .pow (.lit (.int 10)) (.lit (.int 18)))) (.var 2) (.lit (.int 0)))) (.cons (.ret (.mut (.list (.cons (.var 3) (.cons (.bin .add (.bin .mod (.bi .int (.cons (.bin .add (.bin .mul (.bin .mod (.bi .int (.cons (.var 2) .nil)) (.lit (.int 2147483563))) (.lit (.int 54250027))) (.bin .mul (.lit (.int 8101)) (.var 1))) .nil)) (.lit (.int 2147483563))) (.lit (.int 1))) .nil))))) .nil))
theorem box_body : c__law_box = ⟨2, 4, (.cons (.asg (.name 2) (.bin .add (.bin .mul (.lit (.int 27011)) (.var 1)) (.lit (.int 8101)))) (.cons (.ife (.cmp .lt (.var 1) (.bi .len (.cons (.var 0) .nil))) (.cons (.asg (.name 2) (.bi .abs (.cons (.bi .int (.cons (.ix (.var 0) (.var 1)) .nil)) .nil))) .nil) (.cons (.ife (.cmp .gt (.bi .len (.cons (.var 0) .nil)) (.lit (.int 0))) (.cons (.asg (.name 2) (.bin .add (.var 2) (.bin .mul (.bin .mod (.bi .int (.cons (.bi .abs (.cons (.bi .int (.cons (.ix (.var 0) (.bin .mod (.bi .int (.cons (.var 1) .nil)) (.bi .len (.cons (.var 0) .nil)))) .nil)) .nil)) .nil)) (.lit (.int 2147483563))) (.lit (.int 96137))))) .nil) .nil) .nil)) boxTail))⟩ := rfl
theorem pow18 (st : Store) : binD .pow (.int 10) (.int 18) st = .ok (.int 1000000000000000000) st := rfl
theorem ev_box (m : Nat) (ns : List Int) (hl : ns.length ≤ 63) (k : Nat) (hk : k < 8) : ∃ c, callF prog (m + 1) f__law_box [.lst (ns.map D.int), .int k] [] = .ok (.ref 0) [c] ∧ IsBox c := by
  have mul : ∀ (i j : Int) (st : Store), -18446744073709551616 < i → i < 18446744073709551616 → binD .mul (.int i) (.int j) st = .ok (.int (i * j)) st := fun i j st h1 h2 => bin_mul_int (.inl ⟨h1, h2⟩)
  have md : ∀ (i : Int) (st : Store), binD .mod (.int i) (.int 2147483563) st = .ok (.int (i % 2147483563)) st := fun i st => bin_mod_int (by decide)
  rw [callF_at p__law_box (by omega), run_at rfl]
  have tail : ∀ x : Int, (evSs (callF prog m) boxTail [some (.lst (ns.map D.int)), some (.int k), some (.int x), none] []) = .ok (.rt (.ref 0), [some (.lst (ns.map D.int)), some (.int k), some (.int x), some (.int (if x ≥ 1000000000000000000 then x else 0))]) [.lst [.int (if x ≥ 1000000000000000000 then x else 0), .int ((x % 2147483563 * 54250027 + 8101 * k) % 2147483563 + 1)]] := fun x => by
    have h1 := Int.emod_nonneg x (show (2147483563 : Int) ≠ 0 by decide)
    have h2 := Int.emod_lt_of_pos x (show (0 : Int) < 2147483563 by decide)
    have m1 := fun st => mul (x % 2147483563) 54250027 st (by omega) (by omega)
    have m2 := fun st => mul 8101 k st (by decide) (by decide)
    by_cases hx : x ≥ 1000000000000000000
    · simp [boxTail, md, pow18, m1, m2, hx]
    · simp [boxTail, md, pow18, m1, m2, hx]
  have out : ∀ x : Int, (∃ c, (evSs (callF prog m) boxTail [some (.lst (ns.map D.int)), some (.int k), some (.int x), none] []).bind (fun p s1 => match p.fst with
      | Fl.rt v => R.ok v s1
      | Fl.nx => R.ok D.non s1
      | _ => R.bad) = .ok (.ref 0) [c] ∧ IsBox c) := fun x => ⟨_, by rw [tail x]; rfl, _, _, rfl⟩
  have kk := fun st => mul 27011 (k : Int) st (by decide) (by decide)
  by_cases h : k < ns.length
  · have ha : L2.atI (ns.map D.int) (k : Int) = some (.int ns[k]) := by rw [atI_nn]; simp [h]
    obtain ⟨c, hc, hb⟩ := out (if ns[k] < 0 then -ns[k] else ns[k])
    refine ⟨c, ?_, hb⟩
    simp [box_body, kk, ha, h]
    exact hc
  · by_cases h0 : ns.length > 0
    · have hm : ((k : Int) % (ns.length : Int)) = ((k % ns.length : Nat) : Int) := rfl
      have hlt : k % ns.length < ns.length := Nat.mod_lt _ h0
      have ha : L2.atI (ns.map D.int) ((k : Int) % (ns.length : Int)) = some (.int ns[k % ns.length]) := by rw [hm, atI_nn]; simp [hlt]
      have m0 : ∀ st, binD .mod (.int (k : Int)) (.int (ns.length : Int)) st = .ok (.int ((k : Int) % (ns.length : Int))) st := fun st => bin_mod_int (by omega)
      generalize hy : (if ns[k % ns.length] < 0 then -ns[k % ns.length] else ns[k % ns.length]) = y
      have h1 := Int.emod_nonneg y (show (2147483563 : Int) ≠ 0 by decide)
      have h2 := Int.emod_lt_of_pos y (show (0 : Int) < 2147483563 by decide)
      have m1 := fun st => mul (y % 2147483563) 96137 st (by omega) (by omega)
      obtain ⟨c, hc, hb⟩ := out (27011 * k + 8101 + y % 2147483563 * 96137)
      refine ⟨c, ?_, hb⟩
      have h0' : 0 < ns.length := h0
      simp [box_body, kk, m0, ha, h, h0', hy, md, m1]
      exact hc
    · obtain ⟨c, hc, hb⟩ := out (27011 * k + 8101)
      refine ⟨c, ?_, hb⟩
      simp [box_body, kk, h, h0]
      exact hc
theorem box_ok {m : Nat} {ns : List Int} (hl : ns.length ≤ 63) {k : Nat} (hk : k < 8) (st : Store) : ∃ c, callIn (callF prog (m + 1)) f__law_box [.lst (ns.map D.int), .int k] [] true st = .ok (.ref st.length) (st ++ [c]) ∧ IsBox c := by
  obtain ⟨c, e, b⟩ := ev_box m ns hl k hk
  exact ⟨c, call_fresh (by simp [D.pure]; exact pureL_map _ (fun _ => rfl) ns) e (box_pl b), b⟩
def okv : Nat → D → Bool
  | 0, _ => false
  | n + 1, .tup xs => decide (xs.length ≤ 100) && xs.all (okv n)
  | n + 1, .lst xs => decide (xs.length ≤ 100) && xs.all (okv n)
  | _ + 1, .int i => decide (-10 ≤ i) && decide (i ≤ 1000)
  | _ + 1, .str s => decide (s.length ≤ 1000) && (PyData.str s).canLay0
  | _ + 1, .non => true
  | _ + 1, .bl _ => true
  | _ + 1, _ => false
theorem okv_up : ∀ (n : Nat) (d : D), okv n d = true → okv (n + 1) d = true
  | 0, _, h => by cases h
  | n + 1, .tup xs, h => by
    simp only [okv, Bool.and_eq_true] at h ⊢
    exact ⟨h.1, List.all_eq_true.mpr fun x hx => okv_up n x (List.all_eq_true.mp h.2 x hx)⟩
  | n + 1, .lst xs, h => by
    simp only [okv, Bool.and_eq_true] at h ⊢
    exact ⟨h.1, List.all_eq_true.mpr fun x hx => okv_up n x (List.all_eq_true.mp h.2 x hx)⟩
  | n + 1, .int i, h => h
  | n + 1, .str i, h => h
  | n + 1, .non, h => h
  | n + 1, .bl _, h => h
  | n + 1, .dct _, h => by cases h
  | n + 1, .ref _, h => by cases h
  | n + 1, .fn _ _, h => by cases h
theorem okv_pure : ∀ (n : Nat) (d : D), okv n d = true → d.pure = true
  | 0, _, h => by cases h
  | n + 1, .tup xs, h => by
    simp only [okv, Bool.and_eq_true] at h
    simp only [D.pure]
    rw [pureL_iff]
    exact fun x hx => okv_pure n x (List.all_eq_true.mp h.2 x hx)
  | n + 1, .lst xs, h => by
    simp only [okv, Bool.and_eq_true] at h
    simp only [D.pure]
    rw [pureL_iff]
    exact fun x hx => okv_pure n x (List.all_eq_true.mp h.2 x hx)
  | n + 1, .int i, h => rfl
  | n + 1, .str i, h => rfl
  | n + 1, .non, h => rfl
  | n + 1, .bl _, h => rfl
  | n + 1, .dct _, h => by cases h
  | n + 1, .ref _, h => by cases h
  | n + 1, .fn _ _, h => by cases h
mutual
theorem okv_py : ∀ (n : Nat) (d : D), okv n d = true → ∃ p, d.py = some p ∧ p.canLay0 = true ∧ p.depth ≤ n
  | 0, _, h => by cases h
  | n + 1, .tup xs, h => by
    simp only [okv, Bool.and_eq_true] at h
    obtain ⟨ps, e, l, d⟩ := okv_pyL n xs h.2
    exact ⟨.tuple ps, by simp [D.py, e], by simp [PyData.canLay0, l], by simp [PyData.depth]; omega⟩
  | n + 1, .lst xs, h => by
    simp only [okv, Bool.and_eq_true] at h
    obtain ⟨ps, e, l, d⟩ := okv_pyL n xs h.2
    exact ⟨.list ps, by simp [D.py, e], by simp [PyData.canLay0, l], by simp [PyData.depth]; omega⟩
  | n + 1, .int i, h => ⟨.int i, rfl, by simp [PyData.canLay0], by simp [PyData.depth]⟩
  | n + 1, .str s, h => by
    simp only [okv, Bool.and_eq_true] at h
    exact ⟨.str s, rfl, h.2, by simp [PyData.depth]⟩
  | n + 1, .non, h => ⟨.none, rfl, by simp [PyData.canLay0], by simp [PyData.depth]⟩
  | n + 1, .bl b, h => ⟨.bool b, rfl, by simp [PyData.canLay0], by simp [PyData.depth]⟩
  | n + 1, .dct _, h => by cases h
  | n + 1, .ref _, h => by cases h
  | n + 1, .fn _ _, h => by cases h
theorem okv_pyL : ∀ (n : Nat) (xs : List D), xs.all (okv n) = true → ∃ ps, D.pyL xs = some ps ∧ PyData.canLayAll0 ps = true ∧ PyData.depthAll ps ≤ n
  | n, [], _ => ⟨[], rfl, by simp [PyData.canLayAll0], by simp [PyData.depthAll]⟩
  | n, x :: xs, h => by
    simp only [List.all_cons, Bool.and_eq_true] at h
    obtain ⟨p, e1, l1, d1⟩ := okv_py n x h.1
    obtain ⟨ps, e2, l2, d2⟩ := okv_pyL n xs h.2
    exact ⟨p :: ps, by simp [D.pyL, e1, e2], by simp [PyData.canLayAll0, l1, l2], by simp [PyData.depthAll]; omega⟩
end
theorem okv_shaped {n : Nat} {d : D} (h : okv n d = true) (hn : n ≤ 20) : ∃ p, d.py = some p ∧ SeqAt.shaped p = true := by
  obtain ⟨p, e, l, dd⟩ := okv_py n d h
  refine ⟨p, e, ?_⟩
  simp [SeqAt.shaped, l]; omega
theorem vw_okv {n : Nat} {d : D} (h : okv n d = true) (st : Store) : view st d = d := by
  cases n with
  | zero => cases h
  | succ n => cases d <;> first | rfl | cases h
/-- a tuple against the empty one -/
theorem eq_tup0 {n : Nat} {xs : List D} (h : okv n (.tup xs) = true) (hn : n ≤ 20) (st : Store) : cmpD .eq (.tup xs) (.tup []) st = .ok (.bl xs.isEmpty) st := by
  obtain ⟨p, e, s⟩ := okv_shaped h hn
  have s0 : SeqAt.shaped (.tuple []) = true := by simp [SeqAt.shaped, PyData.canLay0, PyData.canLayAll0, PyData.depth, PyData.depthAll]
  simp only [D.py, Option.map_eq_some_iff] at e
  obtain ⟨ps, e, rfl⟩ := e
  cases xs with
  | nil =>
    cases e
    simp [cmpD, cmpB, eqD, view, eqG, D.py, D.pyL, s0, PyData.eqv, PyData.eqvAll, opt]
  | cons x xs =>
    obtain ⟨q, qs, rfl⟩ : ∃ q qs, ps = q :: qs := by
      simp only [D.pyL, Option.bind_eq_some_iff, Option.map_eq_some_iff] at e
      obtain ⟨a, _, b, _, rfl⟩ := e
      exact ⟨a, b, rfl⟩
    have e' : D.py (.tup (x :: xs)) = some (.tuple (q :: qs)) := by simp [D.py, e]
    simp [cmpD, cmpB, eqD, view, eqG, e', s, s0, D.py, D.pyL, PyData.eqv, PyData.eqvAll, opt]
theorem eq_other0 {n : Nat} {d : D} (h : okv n d = true) (hn : n ≤ 20) (ht : ∀ xs, d ≠ .tup xs) (st : Store) : ∃ b, cmpD .eq d (.tup []) st = .ok (.bl b) st := by
  obtain ⟨p, e, s⟩ := okv_shaped h hn
  have s0 : SeqAt.shaped (.tuple []) = true := by simp [SeqAt.shaped, PyData.canLay0, PyData.canLayAll0, PyData.depth, PyData.depthAll]
  refine ⟨PyData.eqv p (.tuple []), ?_⟩
  have hv := vw_okv h st
  have : eqD st d (.tup []) = eqG st d (.tup []) := by
    unfold eqD
    rw [hv]
    cases d <;> rfl
  have hG : eqG st d (.tup []) = some (PyData.eqv p (.tuple [])) := by
    unfold eqG
    rw [hv, e]
    show (match some p, D.py (.tup []) with | some a, some b => if SeqAt.shaped a = true ∧ SeqAt.shaped b = true then some (PyData.eqv a b) else none | _, _ => none) = _
    simp [D.py, D.pyL, s, s0]
  simp [cmpD, cmpB, this, hG, opt]
/-- a row with a word ahead against that of one word -/
theorem eq_word {n : Nat} {w t : Str} {r : List D} (h : okv n (.tup (.str w :: r)) = true) (hn : n ≤ 20) (ht : (PyData.str t).canLay0 = true) (st : Store) : cmpD .eq (.tup (.str w :: r)) (.tup [.str t]) st = .ok (.bl (decide (w = t) && r.isEmpty)) st := by
  obtain ⟨p, e, s⟩ := okv_shaped h hn
  have s0 : SeqAt.shaped (.tuple [.str t]) = true := by
    have : PyData.canLayAll0 [PyData.str t] = true := by simp only [PyData.canLayAll0, ht, Bool.and_true]
    simp [SeqAt.shaped, PyData.canLay0, this, PyData.depth, PyData.depthAll]
  simp only [D.py, Option.map_eq_some_iff, D.pyL, Option.bind_eq_some_iff] at e
  obtain ⟨ps, ⟨a, ha, b, hb, rfl⟩, rfl⟩ := e
  cases ha
  have e' : D.py (.tup (.str w :: r)) = some (.tuple (.str w :: b)) := by simp [D.py, D.pyL, hb]
  have e0 : D.py (.tup [.str t]) = some (.tuple [.str t]) := by simp [D.py, D.pyL]
  have hr : b.isEmpty = r.isEmpty := by
    cases r with
    | nil => cases hb; rfl
    | cons x xs =>
      simp only [D.pyL, Option.bind_eq_some_iff, Option.map_eq_some_iff] at hb
      obtain ⟨_, _, _, _, rfl⟩ := hb
      rfl
  have hq : PyData.eqv (.tuple (.str w :: b)) (.tuple [.str t]) = (decide (w = t) && r.isEmpty) := by
    rw [← hr]
    cases b <;> simp [PyData.eqv, PyData.eqvAll]
    rw [Bool.eq_iff_iff]; simp
  simp [cmpD, cmpB, eqD, view, eqG, e', e0, s, s0, hq, opt]
def isNum (lo : Int) (hi : Option Int) : D → Bool
  | .int i => decide (lo ≤ i) && (match hi with
    | none => true
    | some h => decide (i ≤ h))
  | _ => false
def isTup (many : Option Int) : D → Bool
  | .tup xs => (match many with
    | none => true
    | some m => decide ((xs.length : Int) = m))
  | _ => false
theorem okv_pl {n : Nat} {d : D} (h : okv n d = true) : isPl d = true := by
  cases n with
  | zero => cases h
  | succ n => cases d <;> first | rfl | cases h
theorem ev_is_int (k : Nat) (hk : 1 ≤ k) {n : Nat} (d : D) (h : okv n d = true) : callF prog k f_is_int [d] [] = .ok (.bl (match d with | .int _ => true | _ => false)) [] := by
  have hp := okv_pl h
  have hv := vw_okv h []
  rw [callF_at p_is_int (by omega), run_at rfl]
  cases d <;> simp [c_is_int, hp, hv, isTy, isPl] <;> first | (cases n <;> cases h; done) | skip
theorem cl_is_int {k : Nat} (hk : 1 ≤ k) {n : Nat} (d : D) (h : okv n d = true) (st : Store) : callIn (callF prog k) f_is_int [d] [] false st = .ok (.bl (match d with | .int _ => true | _ => false)) st :=
  call_pure (by simp [okv_pure n d h]) (ev_is_int k hk d h) rfl
theorem ev_is_number (k : Nat) (hk : 2 ≤ k) {n : Nat} (d : D) (h : okv n d = true) (lo : Int) (hi : Option Int) : callF prog k f_is_number [d, .int lo, oD hi] [] = .ok (.bl (isNum lo hi d)) [] := by
  have c := cl_is_int (k := k - 1) (by omega) d h
  rw [callF_at p_is_number (by omega), run_at rfl]
  cases d with
  | int i =>
    by_cases h1 : lo ≤ i
    · cases hi with
      | none => simp [c_is_number, c, isNum, h1]
      | some m => simp [c_is_number, c, isNum, h1]
    · simp [c_is_number, c, isNum, h1]
  | _ => simp [c_is_number, c, isNum]
theorem cl_is_number {k : Nat} (hk : 2 ≤ k) {n : Nat} (d : D) (h : okv n d = true) (lo : Int) (hi : Option Int) (st : Store) : callIn (callF prog k) f_is_number [d, .int lo, oD hi] [] false st = .ok (.bl (isNum lo hi d)) st :=
  call_pure (by simp [okv_pure n d h, oD_pure]; rfl) (ev_is_number k hk d h lo hi) rfl
theorem ev_is_tuple (k : Nat) (hk : 1 ≤ k) {n : Nat} (d : D) (h : okv n d = true) (m : Option Int) : callF prog k f_is_tuple [d, oD m] [] = .ok (.bl (isTup m d)) [] := by
  have hp := okv_pl h
  rw [callF_at p_is_tuple (by omega), run_at rfl]
  cases d <;> cases m <;> simp [c_is_tuple, hp, isTy, isPl, isTup] <;> first | (cases n <;> cases h; done) | skip
theorem cl_is_tuple {k : Nat} (hk : 1 ≤ k) {n : Nat} (d : D) (h : okv n d = true) (m : Option Int) (st : Store) : callIn (callF prog k) f_is_tuple [d, oD m] [] false st = .ok (.bl (isTup m d)) st :=
  call_pure (by simp [okv_pure n d h, oD_pure]) (ev_is_tuple k hk d h m) rfl
theorem okv_mem {n : Nat} {xs : List D} (h : okv (n + 1) (.tup xs) = true) : xs.length ≤ 100 ∧ ∀ x ∈ xs, okv n x = true := by
  simp only [okv, Bool.and_eq_true, decide_eq_true_eq] at h
  exact ⟨h.1, fun x hx => List.all_eq_true.mp h.2 x hx⟩
theorem okv_el {n : Nat} {xs : List D} (h : okv (n + 1) (.tup xs) = true) {i : Nat} {x : D} (hx : xs[i]? = some x) : okv n x = true := (okv_mem h).2 x (List.mem_of_getElem? hx)
end K83

namespace K83
open PySem PyE
theorem xorN (a b : Nat) : Builtin.bitXor (a : Int) (b : Int) = ((a ^^^ b : Nat) : Int) := by
  rw [Bits.bitXor_pp (by omega) (by omega)]; simp
@[simp] theorem bin_xor_nat (a b : Nat) (st : Store) : binD .xor (.int (a : Int)) (.int (b : Int)) st = .ok (.int ((a ^^^ b : Nat) : Int)) st := by
  show R.ok (D.int (Builtin.bitXor (a : Int) (b : Int))) st = _
  rw [xorN]
def xorM (os : List Nat) : Nat := os.foldl (fun t o => t ^^^ o) 0
theorem octD_pure (os : List Nat) : D.pureL (octD os) = true := pureL_map _ (fun _ => rfl) os
theorem octD_len (os : List Nat) : (octD os).length = os.length := by simp [octD]
theorem octD_app (a b : List Nat) : octD (a ++ b) = octD a ++ octD b := by simp [octD]
theorem xor_loop (cf : CallF) (X : D) (st : Store) : ∀ (os : List Nat) (t : Nat), forR (asT cf (.name 2)) (evSs cf b_xored_0) [2] st.length [] (octD os) [some X, some (.int (t : Nat)), none] st = .ok (.nx, [some X, some (.int ((os.foldl (fun t o => t ^^^ o) t : Nat) : Int)), none]) st
  | [], _ => rfl
  | o :: os, t => by
    show forR _ _ _ _ _ (D.int (o : Nat) :: octD os) _ _ = _
    rw [for_step (en' := [some X, some (.int ((t ^^^ o : Nat) : Int)), none]) (st' := st) (by simp [stepR, b_xored_0])]
    exact xor_loop cf X st os (t ^^^ o)
theorem ev_xored (k : Nat) (hk : 1 ≤ k) (os : List Nat) : callF prog k f_xored [.tup (octD os)] [] = .ok (.int (xorM os : Nat)) [] := by
  have h := xor_loop (callF prog (k - 1)) (.tup (octD os)) [] os 0
  rw [callF_at p_xored (by omega), run_at rfl]
  simp only [List.length_nil] at h
  have h' : forR (asT (callF prog (k - 1)) (.name 2)) (evSs (callF prog (k - 1)) b_xored_0) [2] 0 [] (octD os) [some (.tup (octD os)), some (.int 0), none] [] = _ := h
  generalize octD os = O at *
  simp [c_xored, h', xorM]
theorem cl_xored {k : Nat} (hk : 1 ≤ k) (os : List Nat) (st : Store) : callIn (callF prog k) f_xored [.tup (octD os)] [] false st = .ok (.int (xorM os : Nat)) st :=
  call_pure (by simp [D.pure, octD_pure]) (ev_xored k hk os) rfl
def wsI (os : List Nat) : Int := ((os.zipIdx).map fun p => ((p.2 : Int) + 1) * (p.1 : Int)).sum
def wsM (os : List Nat) : Nat := (wsI os % 65521).toNat
theorem pairs_oct : ∀ (os : List Nat) (i : Nat), pairs i (octD os) = (os.zipIdx i).map fun p => D.tup [.int (p.2 : Nat), .int (p.1 : Nat)]
  | [], _ => rfl
  | o :: os, i => by
    show D.tup [.int (i : Nat), .int (o : Nat)] :: pairs (i + 1) (octD os) = _
    rw [pairs_oct os (i + 1)]; rfl
theorem zipIdx_lt {α : Type} : ∀ (os : List α) (i : Nat) (p : α × Nat), p ∈ os.zipIdx i → p.2 < i + os.length
  | [], _, _, h => by cases h
  | o :: os, i, p, h => by
    rw [List.zipIdx_cons] at h
    rcases List.mem_cons.mp h with rfl | h
    · simp
    · have := zipIdx_lt os (i + 1) p h
      rw [List.length_cons]; omega
theorem intsOf_map' {α : Type} (f : α → Int) : ∀ ns : List α, intsOf (ns.map fun a => D.int (f a)) = some (ns.map f)
  | [] => rfl
  | n :: ns => by simp [intsOf, intsOf_map' f ns]
def wItem (p : Nat × Nat) : Int := ((p.2 : Int) + 1) * (p.1 : Int)
theorem ev_weighed (k : Nat) (hk : 1 ≤ k) (os : List Nat) (hl : os.length ≤ 100000) : callF prog k f_weighed [.tup (octD os)] [] = .ok (.int (wsM os : Nat)) [] := by
  have md : ∀ (i : Int) st, binD .mod (.int i) (.int 65521) st = .ok (.int (i % 65521)) st := fun i st => bin_mod_int (by decide)
  have lcE : evE (callF prog (k - 1)) (.lc [1, 2] (.tup (.cons (.name 1) (.cons (.name 2) .nil))) (.enum (.var 0)) .none (.bin .mul (.bin .add (.var 1) (.lit (.int 1))) (.var 2))) [some (.tup (octD os)), none, none] [] = .ok (.lst (os.zipIdx.map fun p => D.int (wItem p))) [] := by
    simp
    rw [pairs_oct, fold_map (α := Nat × Nat) (β := Int) (fun p => D.tup [.int (p.2 : Nat), .int (p.1 : Nat)]) D.int (fun p => some (wItem p)) (fun p => p.2 < os.length) ?h os.zipIdx [] (fun p hp => by have := zipIdx_lt os 0 p hp; omega) (by simp [line]; omega)]
    · simp
    · intro p acc hm hl'
      have hl'' : acc.length < 16777216 := hl'
      have mu : ∀ st, binD .mul (.int ((p.2 : Int) + 1)) (.int (p.1 : Int)) st = .ok (.int (wItem p)) st := fun st => bin_mul_int (.inl ⟨by omega, by omega⟩)
      simp [mu, line, hl'']
  have sm : ∀ st, biD .sum [.lst (os.zipIdx.map fun p => D.int (wItem p))] st = .ok (.int (wsI os)) st := fun st => by
    show opt ((intsOf (os.zipIdx.map fun p => D.int (wItem p))).bind fun ns => some (D.int ns.sum)) st = _
    rw [intsOf_map' wItem os.zipIdx]
    rfl
  rw [callF_at p_weighed (by omega), run_at rfl]
  have e : ((wsM os : Nat) : Int) = wsI os % 65521 := by
    unfold wsM
    have := Int.emod_nonneg (wsI os) (show (65521 : Int) ≠ 0 by decide)
    omega
  rw [e]
  generalize (os.zipIdx.map fun p => D.int (wItem p)) = L at *
  generalize octD os = O at *
  simp [c_weighed, -e_evE_lc, lcE, sm, md]
theorem cl_weighed {k : Nat} (hk : 1 ≤ k) (os : List Nat) (hl : os.length ≤ 100000) (st : Store) : callIn (callF prog k) f_weighed [.tup (octD os)] [] false st = .ok (.int (wsM os : Nat)) st :=
  call_pure (by simp [D.pure, octD_pure]) (ev_weighed k hk os hl) rfl
theorem wsM_lt (os : List Nat) : wsM os < 65521 := by
  unfold wsM
  have h1 := Int.emod_nonneg (wsI os) (show (65521 : Int) ≠ 0 by decide)
  have h2 := Int.emod_lt_of_pos (wsI os) (show (0 : Int) < 65521 by decide)
  omega
def chk4 (k h l : Nat) : Nat := 0 ^^^ k ^^^ h ^^^ l
def headM (k long : Nat) : List Nat := [k, long / 256, long % 256, chk4 k (long / 256) (long % 256)]
def footM (p : List Nat) : List Nat := [xorM p, wsM p / 256, wsM p % 256]
def frameM (k : Nat) (p : List Nat) : List Nat := headM k p.length ++ p ++ footM p
theorem div256 (n : Nat) (st : Store) : binD .fdiv (.int (n : Nat)) (.int 256) st = .ok (.int ((n / 256 : Nat) : Int)) st := by rw [bin_fdiv_int (by decide) (by decide)]; rfl
theorem mod256 (n : Nat) (st : Store) : binD .mod (.int (n : Nat)) (.int 256) st = .ok (.int ((n % 256 : Nat) : Int)) st := by rw [bin_mod_int (by decide)]; rfl
theorem ev_head (k : Nat) (hk : 2 ≤ k) (a long : Nat) : callF prog k f_head_of [.int (a : Nat), .int (long : Nat)] [] = .ok (.tup (octD (headM a long))) [] := by
  have c := fun st => cl_xored (k := k - 1) (by omega) [a, long / 256, long % 256] st
  have e : octD [a, long / 256, long % 256] = [.int (a : Nat), .int ((long / 256 : Nat) : Int), .int ((long % 256 : Nat) : Int)] := rfl
  have e2 : octD (headM a long) = [.int (a : Nat), .int ((long / 256 : Nat) : Int), .int ((long % 256 : Nat) : Int)] ++ [.int ((xorM [a, long / 256, long % 256] : Nat) : Int)] := rfl
  rw [e] at c
  rw [e2, callF_at p_head_of (by omega), run_at rfl]
  have ad : ∀ (x : D) st, binD .add (.tup [.int (a : Nat), .int ((long / 256 : Nat) : Int), .int ((long % 256 : Nat) : Int)]) (.tup [x]) st = .ok (.tup ([.int (a : Nat), .int ((long / 256 : Nat) : Int), .int ((long % 256 : Nat) : Int)] ++ [x])) st := fun x st => bin_add_tup (by simp [line])
  have d1 := div256 long
  have d2 := mod256 long
  clear e e2
  generalize ((xorM [a, long / 256, long % 256] : Nat) : Int) = x at *
  generalize ((long / 256 : Nat) : Int) = u at *
  generalize ((long % 256 : Nat) : Int) = v at *
  simp [c_head_of, d1, d2, c, ad]
theorem cl_head {k : Nat} (hk : 2 ≤ k) (a long : Nat) (st : Store) : callIn (callF prog k) f_head_of [.int (a : Nat), .int (long : Nat)] [] false st = .ok (.tup (octD (headM a long))) st :=
  call_pure rfl (ev_head k hk a long) (by simp [D.pure, octD_pure])
theorem ev_foot (k : Nat) (hk : 2 ≤ k) (p : List Nat) (hl : p.length ≤ 100000) : callF prog k f_foot_of [.tup (octD p)] [] = .ok (.tup (octD (footM p))) [] := by
  have c := fun st => cl_xored (k := k - 1) (by omega) p st
  have c2 := fun st => cl_weighed (k := k - 1) (by omega) p hl st
  have e2 : octD (footM p) = [.int (xorM p : Nat), .int ((wsM p / 256 : Nat) : Int), .int ((wsM p % 256 : Nat) : Int)] := rfl
  rw [e2, callF_at p_foot_of (by omega), run_at rfl]
  have d1 := div256 (wsM p)
  have d2 := mod256 (wsM p)
  clear e2
  generalize ((wsM p / 256 : Nat) : Int) = u at *
  generalize ((wsM p % 256 : Nat) : Int) = v at *
  generalize ((wsM p : Nat) : Int) = w at *
  generalize ((xorM p : Nat) : Int) = x at *
  generalize octD p = O at *
  simp [c_foot_of, d1, d2, c, c2]
theorem cl_foot {k : Nat} (hk : 2 ≤ k) (p : List Nat) (hl : p.length ≤ 100000) (st : Store) : callIn (callF prog k) f_foot_of [.tup (octD p)] [] false st = .ok (.tup (octD (footM p))) st :=
  call_pure (by simp [D.pure, octD_pure]) (ev_foot k hk p hl) (by simp [D.pure, octD_pure])
theorem ev_frame (k : Nat) (hk : 3 ≤ k) (a : Nat) (p : List Nat) (hl : p.length ≤ 100000) : callF prog k f_frame [.int (a : Nat), .tup (octD p)] [] = .ok (.tup (octD (frameM a p))) [] := by
  have c := fun st => cl_head (k := k - 1) (by omega) a p.length st
  have c2 := fun st => cl_foot (k := k - 1) (by omega) p hl st
  have ln : ∀ st, biD .len [.tup (octD p)] st = .ok (.int (p.length : Nat)) st := fun st => by
    show R.ok (D.int ((octD p).length : Nat)) st = _
    rw [octD_len]
  have lh : (headM a p.length).length = 4 := rfl
  have lf : (footM p).length = 3 := rfl
  have a1 : ∀ st, binD .add (.tup (octD (headM a p.length))) (.tup (octD p)) st = .ok (.tup (octD (headM a p.length ++ p))) st := fun st => by
    rw [bin_add_tup (by simp [line, octD_len, lh]; omega), octD_app]
  have a2 : ∀ st, binD .add (.tup (octD (headM a p.length ++ p))) (.tup (octD (footM p))) st = .ok (.tup (octD (frameM a p))) st := fun st => by
    rw [bin_add_tup (by simp [line, octD_len, lh, lf]; omega), ← octD_app]; rfl
  have t1 : ∀ st, biD .tuple [.tup (octD p)] st = .ok (.tup (octD p)) st := fun _ => rfl
  rw [callF_at p_frame (by omega), run_at rfl]
  generalize octD (headM a p.length) = h at *
  generalize octD (headM a p.length ++ p) = hp at *
  generalize octD p = O at *
  generalize octD (footM p) = f at *
  generalize octD (frameM a p) = F at *
  generalize ((p.length : Nat) : Int) = n at *
  simp [c_frame, c, c2, a1, a2, ln, t1]
theorem cl_frame {k : Nat} (hk : 3 ≤ k) (a : Nat) (p : List Nat) (hl : p.length ≤ 100000) (st : Store) : callIn (callF prog k) f_frame [.int (a : Nat), .tup (octD p)] [] false st = .ok (.tup (octD (frameM a p))) st :=
  call_pure (by simp [D.pure, octD_pure]) (ev_frame k hk a p hl) (by simp [D.pure, octD_pure])
end K83

namespace PyE
open PySem
theorem e_while (cf : CallF) {c : C} {ws : List Nat} {body : Ss} {en : En} {st : Store} : evS cf (.while_ c ws body) en st = whR (fun en s => (evE cf c en s).bind fun x s1 => opt (truth s1 x) s1) (evSs cf body) ws st.length turns en st := by simp only [evS]
theorem wh_step {test : En → Store → R Bool} {body : En → Store → R (Fl × En)} {ws : List Nat} {n m : Nat} {en : En} {st : Store} : whR test body ws n (m + 1) en st = (test en st).bind fun b s1 => if b = true then (body en s1).bind fun p s2 => (match p.1 with
      | .brk => .ok (.nx, wipe p.2 ws) s2
      | .rt d => .ok (.rt d, p.2) s2
      | _ => whR test body ws n m (wipe p.2 ws) (trim n (wipe p.2 ws) s2)) else .ok (.nx, en) s1 := rfl
theorem sl_mid (xs : List D) (st : Store) {a b : Nat} (h1 : a ≤ b) (h2 : a ≤ xs.length) : slB (.tup xs) (some (a : Int)) (some (b : Int)) st = some (.tup ((xs.drop a).take (b - a))) := by
  show some (D.tup (cut xs (some (a : Int)) (some (b : Int)))) = _
  unfold cut
  rw [HT.sIx_nat, HT.sIx_nat, Nat.min_eq_left h2]
  congr 2
  by_cases h : b ≤ xs.length
  · rw [Nat.min_eq_left h]
  · rw [Nat.min_eq_right (by omega), List.take_of_length_le (by simp), List.take_of_length_le (by simp; omega)]
end PyE
namespace K83
open PySem PyE
def pyN (os : List Nat) : List PyData := os.map fun (n : Nat) => PyData.int (n : Int)
theorem py_octD : ∀ os : List Nat, D.pyL (octD os) = some (pyN os)
  | [] => rfl
  | o :: os => by
    have := py_octD os
    simp only [octD, List.map_cons, D.pyL, D.py] at *
    rw [this]; rfl
theorem lay_pyN : ∀ os : List Nat, PyData.canLayAll0 (pyN os) = true
  | [] => by simp [pyN, PyData.canLayAll0]
  | o :: os => by
    have := lay_pyN os
    simp only [pyN, List.map_cons, PyData.canLayAll0, PyData.canLay0, Bool.true_and] at *
    exact this
theorem dep_pyN : ∀ os : List Nat, PyData.depthAll (pyN os) ≤ 1
  | [] => by simp [pyN, PyData.depthAll]
  | o :: os => by
    have := dep_pyN os
    simp only [pyN, List.map_cons, PyData.depthAll, PyData.depth] at *
    omega
theorem eqv_pyN : ∀ a b : List Nat, PyData.eqvAll (pyN a) (pyN b) = decide (a = b)
  | [], [] => by simp [pyN, PyData.eqvAll]
  | [], _ :: _ => by simp [pyN, PyData.eqvAll]
  | _ :: _, [] => by simp [pyN, PyData.eqvAll]
  | x :: a, y :: b => by
    have ih := eqv_pyN a b
    simp only [pyN, List.map_cons, PyData.eqvAll] at *
    rw [ih]
    simp only [PyData.eqv]
    rw [Bool.eq_iff_iff]
    simp
    intro _
    omega
theorem ne_oct (a b : List Nat) (st : Store) : cmpD .ne (.tup (octD a)) (.tup (octD b)) st = .ok (.bl (!decide (a = b))) st := by
  have p1 : D.py (.tup (octD a)) = some (.tuple (pyN a)) := by simp [D.py, py_octD]
  have p2 : D.py (.tup (octD b)) = some (.tuple (pyN b)) := by simp [D.py, py_octD]
  have s1 : ∀ c, SeqAt.shaped (.tuple (pyN c)) = true := fun c => by
    have := dep_pyN c
    simp [SeqAt.shaped, PyData.canLay0, lay_pyN, PyData.depth]; omega
  have e : eqD st (.tup (octD a)) (.tup (octD b)) = some (decide (a = b)) := by
    show eqG st (.tup (octD a)) (.tup (octD b)) = _
    unfold eqG
    show (match D.py (.tup (octD a)), D.py (.tup (octD b)) with | some a, some b => if SeqAt.shaped a = true ∧ SeqAt.shaped b = true then some (PyData.eqv a b) else none | _, _ => none) = _
    rw [p1, p2]
    show (if SeqAt.shaped (.tuple (pyN a)) = true ∧ SeqAt.shaped (.tuple (pyN b)) = true then some (PyData.eqv (.tuple (pyN a)) (.tuple (pyN b))) else none) = _
    rw [if_pos ⟨s1 a, s1 b⟩]
    have := eqv_pyN a b
    simp only [PyData.eqv]
    rw [this]
  simp [cmpD, cmpB, e]
inductive Tl where | none | torn | changed
def Tl.d (t : Tl) (n : Nat) : D := match t with
  | .none => .non
  | .torn => .tup [.str (Str.ofString "torn"), .int (n : Nat)]
  | .changed => .tup [.str (Str.ofString "changed"), .int (n : Nat)]
abbrev Frm := Nat × List Nat
def frD (f : Frm) : D := .tup [.int (f.1 : Nat), .tup (octD f.2)]
inductive Fr : List Nat → List Frm → Tl → Prop where
  | nil : Fr [] [] .none
  | tornH {r : List Nat} (h0 : r ≠ []) (h4 : r.length < 4) : Fr r [] .torn
  | chgH {k h l c : Nat} {q : List Nat} (hl : l < 256) (e : chk4 k h l ≠ c) : Fr (k :: h :: l :: c :: q) [] .changed
  | tornB {k h l c : Nat} {q : List Nat} (hl : l < 256) (e : chk4 k h l = c) (s : q.length < h * 256 + l + 3) : Fr (k :: h :: l :: c :: q) [] .torn
  | chgF {k h l c : Nat} {q : List Nat} (hl : l < 256) (e : chk4 k h l = c) (s : h * 256 + l + 3 ≤ q.length) (f : footM (q.take (h * 256 + l)) ≠ (q.drop (h * 256 + l)).take 3) : Fr (k :: h :: l :: c :: q) [] .changed
  | step {k h l c : Nat} {q : List Nat} {fs : List Frm} {t : Tl} (hl : l < 256) (e : chk4 k h l = c) (s : h * 256 + l + 3 ≤ q.length) (f : footM (q.take (h * 256 + l)) = (q.drop (h * 256 + l)).take 3) (n : Fr (q.drop (h * 256 + l + 3)) fs t) : Fr (k :: h :: l :: c :: q) ((k, q.take (h * 256 + l)) :: fs) t
def fEn (os : List Nat) (s : Nat) : En := [some (.tup (octD os)), some (.ref 0), some (.int (s : Nat)), none, none, none, none, none, none, none]
theorem octD_drop (os : List Nat) (n : Nat) : (octD os).drop n = octD (os.drop n) := by simp [octD]
theorem octD_take (os : List Nat) (n : Nat) : (octD os).take n = octD (os.take n) := by simp [octD]
theorem sl_oct (os : List Nat) (st : Store) {a b : Nat} (h1 : a ≤ b) (h2 : a ≤ os.length) : slB (.tup (octD os)) (some (a : Int)) (some (b : Int)) st = some (.tup (octD ((os.drop a).take (b - a)))) := by
  rw [sl_mid _ st h1 (by rw [octD_len]; exact h2), octD_drop, octD_take]
theorem len_oct (os : List Nat) (st : Store) : biD .len [.tup (octD os)] st = .ok (.int (os.length : Nat)) st := by
  show R.ok (D.int ((octD os).length : Nat)) st = _
  rw [octD_len]
/-- what a turn tells when it ends all -/
def retD (acc : List D) (t : Tl) : D := .tup [.tup acc, t.d acc.length]
theorem turn_torn (cf : CallF) (os : List Nat) (s : Nat) (acc : List D) (h : s < os.length) (h4 : os.length < s + 4) : ∃ en, evSs cf b_frames_of_0 (fEn os s) [.lst acc] = .ok (.rt (retD acc .torn), en) [.lst acc] := by
  have ln := len_oct os
  have c : ((os.length : Nat) : Int) - ((s : Nat) : Int) < 4 := by omega
  simp only [fEn, retD, Tl.d]
  generalize octD os = O at *
  exact ⟨_, by simp [b_frames_of_0, ln, c]; rfl⟩
theorem chk_head {k h l : Nat} (hl : l < 256) : headM k (h * 256 + l) = [k, h, l, chk4 k h l] := by
  unfold headM
  rw [show (h * 256 + l) / 256 = h by omega, show (h * 256 + l) % 256 = l by omega]
/-- what a turn reads of the head -/
theorem head_slice {os : List Nat} {s k h l c : Nat} {q : List Nat} (e : os.drop s = k :: h :: l :: c :: q) (hs : s ≤ os.length) (st : Store) : slB (.tup (octD os)) (some (s : Int)) (some ((s : Int) + 4)) st = some (.tup [.int (k : Nat), .int (h : Nat), .int (l : Nat), .int (c : Nat)]) := by
  have := sl_oct os st (a := s) (b := s + 4) (by omega) hs
  rw [e, show s + 4 - s = 4 by omega] at this
  exact this
theorem turn_chgH {k' : Nat} (hk : 2 ≤ k') (os : List Nat) (s : Nat) (acc : List D) {k h l c : Nat} {q : List Nat} (e : os.drop s = k :: h :: l :: c :: q) (hl : l < 256) (hc : chk4 k h l ≠ c) : ∃ en, evSs (callF prog k') b_frames_of_0 (fEn os s) [.lst acc] = .ok (.rt (retD acc .changed), en) [.lst acc] := by
  have hlen := congrArg List.length e
  simp only [List.length_drop, List.length_cons] at hlen
  have ln := len_oct os
  have c4 : ¬ ((os.length : Nat) : Int) - ((s : Nat) : Int) < 4 := by omega
  have sl := fun st => head_slice e (by omega) st
  have mu : ∀ st, binD .mul (.int (h : Int)) (.int 256) st = .ok (.int ((h : Int) * 256)) st := fun st => bin_mul_int (.inr (by decide))
  have hd := fun st => cl_head hk k (h * 256 + l) st
  rw [chk_head hl] at hd
  have el : (((h * 256 + l : Nat)) : Int) = (h : Int) * 256 + (l : Int) := by omega
  rw [el] at hd
  have ix : ∀ st, ixD (.tup (octD [k, h, l, chk4 k h l])) (.int 3) st = .ok (.int (chk4 k h l : Nat)) st := fun _ => rfl
  have nc : ¬ ((chk4 k h l : Nat) : Int) = (c : Int) := by omega
  simp only [fEn, retD, Tl.d]
  generalize octD os = O at *
  generalize octD [k, h, l, chk4 k h l] = HD at *
  generalize ((chk4 k h l : Nat) : Int) = x at *
  exact ⟨_, by simp [b_frames_of_0, ln, c4, sl, mu, hd, ix, nc]; rfl⟩
theorem turn_tornB {k' : Nat} (hk : 2 ≤ k') (os : List Nat) (s : Nat) (acc : List D) {k h l c : Nat} {q : List Nat} (e : os.drop s = k :: h :: l :: c :: q) (hl : l < 256) (hc : chk4 k h l = c) (hq : q.length < h * 256 + l + 3) : ∃ en, evSs (callF prog k') b_frames_of_0 (fEn os s) [.lst acc] = .ok (.rt (retD acc .torn), en) [.lst acc] := by
  have hlen := congrArg List.length e
  simp only [List.length_drop, List.length_cons] at hlen
  have ln := len_oct os
  have c4 : ¬ ((os.length : Nat) : Int) - ((s : Nat) : Int) < 4 := by omega
  have sl := fun st => head_slice e (by omega) st
  have mu : ∀ st, binD .mul (.int (h : Int)) (.int 256) st = .ok (.int ((h : Int) * 256)) st := fun st => bin_mul_int (.inr (by decide))
  have hd := fun st => cl_head hk k (h * 256 + l) st
  rw [chk_head hl] at hd
  have el : (((h * 256 + l : Nat)) : Int) = (h : Int) * 256 + (l : Int) := by omega
  rw [el] at hd
  have ix : ∀ st, ixD (.tup (octD [k, h, l, chk4 k h l])) (.int 3) st = .ok (.int (chk4 k h l : Nat)) st := fun _ => rfl
  have nc : ((chk4 k h l : Nat) : Int) = (c : Int) := by omega
  have bh : ((os.length : Nat) : Int) < (s : Int) + 4 + ((h : Int) * 256 + (l : Int)) + 3 := by omega
  simp only [fEn, retD, Tl.d]
  generalize octD os = O at *
  generalize octD [k, h, l, chk4 k h l] = HD at *
  generalize ((chk4 k h l : Nat) : Int) = x at *
  exact ⟨_, by simp [b_frames_of_0, ln, c4, sl, mu, hd, ix, nc, bh]; rfl⟩
section
variable {os : List Nat} {s k h l c : Nat} {q : List Nat}
theorem drop_at (e : os.drop s = k :: h :: l :: c :: q) (n : Nat) : os.drop (s + 4 + n) = q.drop n := by
  rw [show s + 4 + n = s + (n + 4) by omega, ← List.drop_drop, e]; rfl
theorem pay_slice (e : os.drop s = k :: h :: l :: c :: q) (st : Store) : slB (.tup (octD os)) (some ((s : Int) + 4)) (some ((s : Int) + 4 + ((h : Int) * 256 + (l : Int)))) st = some (.tup (octD (q.take (h * 256 + l)))) := by
  have hlen := congrArg List.length e
  simp only [List.length_drop, List.length_cons] at hlen
  have := sl_oct os st (a := s + 4) (b := s + 4 + (h * 256 + l)) (by omega) (by omega)
  rw [drop_at e 0, show s + 4 + (h * 256 + l) - (s + 4) = h * 256 + l by omega, List.drop_zero] at this
  have ea : (((s + 4 : Nat)) : Int) = (s : Int) + 4 := by omega
  have eb : (((s + 4 + (h * 256 + l) : Nat)) : Int) = (s : Int) + 4 + ((h : Int) * 256 + (l : Int)) := by omega
  rw [ea, eb] at this
  exact this
theorem foot_slice (e : os.drop s = k :: h :: l :: c :: q) (hq : h * 256 + l + 3 ≤ q.length) (st : Store) : slB (.tup (octD os)) (some ((s : Int) + 4 + ((h : Int) * 256 + (l : Int)) + 3 - 3)) (some ((s : Int) + 4 + ((h : Int) * 256 + (l : Int)) + 3)) st = some (.tup (octD ((q.drop (h * 256 + l)).take 3))) := by
  have hlen := congrArg List.length e
  simp only [List.length_drop, List.length_cons] at hlen
  have := sl_oct os st (a := s + 4 + (h * 256 + l)) (b := s + 4 + (h * 256 + l) + 3) (by omega) (by omega)
  rw [drop_at e (h * 256 + l), show s + 4 + (h * 256 + l) + 3 - (s + 4 + (h * 256 + l)) = 3 by omega] at this
  have ea : (((s + 4 + (h * 256 + l) : Nat)) : Int) = (s : Int) + 4 + ((h : Int) * 256 + (l : Int)) + 3 - 3 := by omega
  have eb : (((s + 4 + (h * 256 + l) + 3 : Nat)) : Int) = (s : Int) + 4 + ((h : Int) * 256 + (l : Int)) + 3 := by omega
  rw [ea, eb] at this
  exact this
end
theorem turn_chgF {k' : Nat} (hk : 2 ≤ k') (os : List Nat) (hb : os.length ≤ 100000) (s : Nat) (acc : List D) {k h l c : Nat} {q : List Nat} (e : os.drop s = k :: h :: l :: c :: q) (hl : l < 256) (hc : chk4 k h l = c) (hq : h * 256 + l + 3 ≤ q.length) (hf : footM (q.take (h * 256 + l)) ≠ (q.drop (h * 256 + l)).take 3) : ∃ en, evSs (callF prog k') b_frames_of_0 (fEn os s) [.lst acc] = .ok (.rt (retD acc .changed), en) [.lst acc] := by
  have hlen := congrArg List.length e
  simp only [List.length_drop, List.length_cons] at hlen
  have ln := len_oct os
  have c4 : ¬ ((os.length : Nat) : Int) - ((s : Nat) : Int) < 4 := by omega
  have sl := fun st => head_slice e (by omega) st
  have mu : ∀ st, binD .mul (.int (h : Int)) (.int 256) st = .ok (.int ((h : Int) * 256)) st := fun st => bin_mul_int (.inr (by decide))
  have hd := fun st => cl_head hk k (h * 256 + l) st
  rw [chk_head hl] at hd
  have el : (((h * 256 + l : Nat)) : Int) = (h : Int) * 256 + (l : Int) := by omega
  rw [el] at hd
  have ix : ∀ st, ixD (.tup (octD [k, h, l, chk4 k h l])) (.int 3) st = .ok (.int (chk4 k h l : Nat)) st := fun _ => rfl
  have nc : ((chk4 k h l : Nat) : Int) = (c : Int) := by omega
  have bh : ¬ ((os.length : Nat) : Int) < (s : Int) + 4 + ((h : Int) * 256 + (l : Int)) + 3 := by omega
  have ps := fun st => pay_slice e st
  have fs := fun st => foot_slice e hq st
  have ft := fun st => cl_foot hk (q.take (h * 256 + l)) (by rw [List.length_take]; omega) st
  have ne := fun st => ne_oct (footM (q.take (h * 256 + l))) ((q.drop (h * 256 + l)).take 3) st
  rw [decide_eq_false hf] at ne
  simp only [fEn, retD, Tl.d]
  generalize octD os = O at *
  generalize octD [k, h, l, chk4 k h l] = HD at *
  generalize octD (q.take (h * 256 + l)) = P at *
  generalize octD (footM (q.take (h * 256 + l))) = F1 at *
  generalize octD ((q.drop (h * 256 + l)).take 3) = F2 at *
  generalize ((chk4 k h l : Nat) : Int) = x at *
  generalize hB : (s : Int) + 4 + ((h : Int) * 256 + (l : Int)) + 3 = B at *
  exact ⟨_, by simp [b_frames_of_0, ln, c4, sl, mu, hd, ix, nc, hB, bh, ps, fs, ft, ne]; rfl⟩
end K83

namespace K83
open PySem PyE
theorem turn_step {k' : Nat} (hk : 2 ≤ k') (os : List Nat) (hb : os.length ≤ 100000) (s : Nat) (acc : List D) (ha : acc.length ≤ 100000) {k h l c : Nat} {q : List Nat} (e : os.drop s = k :: h :: l :: c :: q) (hl : l < 256) (hc : chk4 k h l = c) (hq : h * 256 + l + 3 ≤ q.length) (hf : footM (q.take (h * 256 + l)) = (q.drop (h * 256 + l)).take 3) :
    ∃ en, evSs (callF prog k') b_frames_of_0 (fEn os s) [.lst acc] = .ok (.nx, en) [.lst (acc ++ [frD (k, q.take (h * 256 + l))])] ∧ wipe en [4, 9, 7, 6, 3, 8, 5] = fEn os (s + 4 + (h * 256 + l) + 3) := by
  have hlen := congrArg List.length e
  simp only [List.length_drop, List.length_cons] at hlen
  have ln := len_oct os
  have c4 : ¬ ((os.length : Nat) : Int) - ((s : Nat) : Int) < 4 := by omega
  have sl := fun st => head_slice e (by omega) st
  have mu : ∀ st, binD .mul (.int (h : Int)) (.int 256) st = .ok (.int ((h : Int) * 256)) st := fun st => bin_mul_int (.inr (by decide))
  have hd := fun st => cl_head hk k (h * 256 + l) st
  rw [chk_head hl] at hd
  have el : (((h * 256 + l : Nat)) : Int) = (h : Int) * 256 + (l : Int) := by omega
  rw [el] at hd
  have ix : ∀ st, ixD (.tup (octD [k, h, l, chk4 k h l])) (.int 3) st = .ok (.int (chk4 k h l : Nat)) st := fun _ => rfl
  have nc : ((chk4 k h l : Nat) : Int) = (c : Int) := by omega
  have bh : ¬ ((os.length : Nat) : Int) < (s : Int) + 4 + ((h : Int) * 256 + (l : Int)) + 3 := by omega
  have ps := fun st => pay_slice e st
  have fs := fun st => foot_slice e hq st
  have ft := fun st => cl_foot hk (q.take (h * 256 + l)) (by rw [List.length_take]; omega) st
  have ne := fun st => ne_oct (footM (q.take (h * 256 + l))) ((q.drop (h * 256 + l)).take 3) st
  rw [decide_eq_true hf] at ne
  have al : acc.length < 16777216 := by omega
  have eB : ((s + 4 + (h * 256 + l) + 3 : Nat) : Int) = (s : Int) + 4 + ((h : Int) * 256 + (l : Int)) + 3 := by omega
  simp only [fEn, frD]
  rw [eB]
  generalize octD os = O at *
  generalize octD [k, h, l, chk4 k h l] = HD at *
  generalize octD (q.take (h * 256 + l)) = P at *
  generalize octD (footM (q.take (h * 256 + l))) = F1 at *
  generalize octD ((q.drop (h * 256 + l)).take 3) = F2 at *
  generalize ((chk4 k h l : Nat) : Int) = x at *
  generalize hB : (s : Int) + 4 + ((h : Int) * 256 + (l : Int)) + 3 = B at *
  refine ⟨[some (D.tup O), some (D.ref 0), some (D.int B), some (.int ((h : Int) * 256 + (l : Int))), some (.int B), some (.tup P), some (.int (k : Int)), some (.int (h : Int)), some (.int (l : Int)), some (.int (c : Int))], ?_, rfl⟩
  simp [b_frames_of_0, ln, c4, sl, mu, hd, ix, nc, hB, bh, ps, fs, ft, ne, mtD, apB, lstAt, guardB, line, al]
theorem Fr.len {r : List Nat} {fs : List Frm} {t : Tl} (h : Fr r fs t) : 7 * fs.length ≤ r.length := by
  induction h with
  | step hl e s f n ih => rw [List.length_drop] at ih; simp only [List.length_cons]; omega
  | _ => simp
def isWh (cf : CallF) : En → Store → R Bool := fun en s => (evE cf (.cmp .lt (.var 2) (.bi .len (.cons (.var 0) .nil))) en s).bind fun x s1 => opt (truth s1 x) s1
theorem wh_test (cf : CallF) (os : List Nat) (s : Nat) (st : Store) : isWh cf (fEn os s) st = .ok (decide (s < os.length)) st := by
  have ln := len_oct os
  simp only [fEn]
  generalize octD os = O at *
  simp [isWh, ln]
def FrEnd (os : List Nat) (A : List D) (f : Fl) (en : En) : Tl → Prop
  | .none => f = .nx ∧ en = fEn os os.length
  | .torn => f = .rt (retD A .torn)
  | .changed => f = .rt (retD A .changed)
/-- the loop over octets -/
theorem frames_loop {k' : Nat} (hk : 2 ≤ k') (os : List Nat) (hb : os.length ≤ 100000) {r : List Nat} {fs : List Frm} {t : Tl} (h : Fr r fs t) : ∀ (s m : Nat) (acc : List D), os.drop s = r → s ≤ os.length → acc.length + fs.length ≤ 100000 → fs.length < m →
    ∃ f en, whR (isWh (callF prog k')) (evSs (callF prog k') b_frames_of_0) [4, 9, 7, 6, 3, 8, 5] 1 m (fEn os s) [.lst acc] = .ok (f, en) [.lst (acc ++ fs.map frD)] ∧ FrEnd os (acc ++ fs.map frD) f en t := by
  have stop : ∀ (s m : Nat) (acc : List D) (r : D), os.drop s ≠ [] → 0 < m → (∃ en, evSs (callF prog k') b_frames_of_0 (fEn os s) [.lst acc] = .ok (.rt r, en) [.lst acc]) → ∃ en, whR (isWh (callF prog k')) (evSs (callF prog k') b_frames_of_0) [4, 9, 7, 6, 3, 8, 5] 1 m (fEn os s) [.lst acc] = .ok (.rt r, en) [.lst acc] := fun s m acc r h0 hm ⟨en, he⟩ => by
    cases m with
    | zero => omega
    | succ m =>
      have hs : s < os.length := by
        cases Nat.lt_or_ge s os.length with
        | inl h => exact h
        | inr h => exact absurd (List.drop_eq_nil_of_le h) h0
      refine ⟨en, ?_⟩
      rw [wh_step, wh_test, decide_eq_true hs]
      simp only [rb_ok, ↓reduceIte]
      rw [he]
      rfl
  induction h with
  | nil =>
    intro s m acc e hs _ hm
    have : s = os.length := by
      have := congrArg List.length e
      simp only [List.length_drop, List.length_nil] at this
      omega
    subst this
    cases m with
    | zero => simp at hm
    | succ m =>
      refine ⟨.nx, _, ?_, ⟨rfl, rfl⟩⟩
      rw [wh_step, wh_test, decide_eq_false (by omega)]
      simp
  | tornH h0 h4 =>
    intro s m acc e hs _ hm
    have hl := congrArg List.length e
    simp only [List.length_drop] at hl
    have h0' := List.length_pos_iff.mpr h0
    obtain ⟨en, he⟩ := stop s m acc _ (by rw [e]; exact h0) (by simpa using hm) (turn_torn _ os s acc (by omega) (by omega))
    exact ⟨_, en, by simpa using he, by simp [FrEnd]⟩
  | chgH hl hc =>
    intro s m acc e hs _ hm
    obtain ⟨en, he⟩ := stop s m acc _ (by rw [e]; simp) (by simpa using hm) (turn_chgH hk os s acc e hl hc)
    exact ⟨_, en, by simpa using he, by simp [FrEnd]⟩
  | tornB hl hc hq =>
    intro s m acc e hs _ hm
    obtain ⟨en, he⟩ := stop s m acc _ (by rw [e]; simp) (by simpa using hm) (turn_tornB hk os s acc e hl hc hq)
    exact ⟨_, en, by simpa using he, by simp [FrEnd]⟩
  | chgF hl hc hq hf =>
    intro s m acc e hs _ hm
    obtain ⟨en, he⟩ := stop s m acc _ (by rw [e]; simp) (by simpa using hm) (turn_chgF hk os hb s acc e hl hc hq hf)
    exact ⟨_, en, by simpa using he, by simp [FrEnd]⟩
  | @step k h l c q fs t hl hc hq hf n ih =>
    intro s m acc e hs ha hm
    cases m with
    | zero => simp at hm
    | succ m =>
      simp only [List.length_cons] at ha hm
      obtain ⟨en, he, hw⟩ := turn_step hk os hb s acc (by omega) e hl hc hq hf
      have hlen := congrArg List.length e
      simp only [List.length_drop, List.length_cons] at hlen
      obtain ⟨f, en', h1, h2⟩ := ih (s + 4 + (h * 256 + l) + 3) m (acc ++ [frD (k, q.take (h * 256 + l))]) (by rw [show s + 4 + (h * 256 + l) + 3 = s + 4 + (h * 256 + l + 3) by omega, drop_at e]) (by omega) (by simp; omega) (by omega)
      have eA : acc ++ [frD (k, q.take (h * 256 + l))] ++ fs.map frD = acc ++ ((k, q.take (h * 256 + l)) :: fs).map frD := by simp
      rw [eA] at h1 h2
      refine ⟨f, en', ?_, h2⟩
      rw [wh_step, wh_test, decide_eq_true (by omega)]
      simp only [rb_ok, ↓reduceIte]
      rw [he]
      show whR _ _ _ _ _ (wipe en [4, 9, 7, 6, 3, 8, 5]) (trim 1 (wipe en [4, 9, 7, 6, 3, 8, 5]) _) = _
      rw [trim_same (by simp), hw]
      exact h1
theorem fr_pure (fs : List Frm) : D.pureL (fs.map frD) = true := pureL_map _ (fun f => by simp [frD, D.pure, D.pureL, octD_pure]) fs
theorem tl_pure (t : Tl) (n : Nat) : (t.d n).pure = true := by cases t <;> rfl
theorem ev_frames (k : Nat) (hk : 3 ≤ k) (os : List Nat) (hb : os.length ≤ 100000) {fs : List Frm} {t : Tl} (h : Fr os fs t) : ∃ st', callF prog k f_frames_of [.tup (octD os)] [] = .ok (.tup [.tup (fs.map frD), t.d fs.length]) st' := by
  have hl := h.len
  obtain ⟨f, en, h1, h2⟩ := frames_loop (k' := k - 1) (by omega) os hb h 0 turns [] rfl (by omega) (by simp; omega) (by simp [turns]; omega)
  rw [callF_at p_frames_of (by omega), run_at rfl]
  have wh : ∀ st, st.length = 1 → evS (callF prog (k - 1)) (.while_ (.cmp .lt (.var 2) (.bi .len (.cons (.var 0) .nil))) [4, 9, 7, 6, 3, 8, 5] b_frames_of_0) (fEn os 0) st = whR (isWh (callF prog (k - 1))) (evSs (callF prog (k - 1)) b_frames_of_0) [4, 9, 7, 6, 3, 8, 5] 1 turns (fEn os 0) st := fun st hs => by rw [e_while, hs]; rfl
  have w1 := (wh [.lst []] rfl).trans h1
  have t1 : ∀ st, biD .tuple [.tup (octD os)] st = .ok (.tup (octD os)) st := fun _ => rfl
  rw [List.nil_append] at w1 h2
  cases t with
  | none =>
    obtain ⟨rfl, rfl⟩ := h2
    simp only [fEn] at w1
    rw [show ((0 : Nat) : Int) = (0 : Int) from rfl] at w1
    generalize octD os = O at *
    generalize fs.map frD = A at *
    exact ⟨_, by simp [c_frames_of, t1, w1, Tl.d]; rfl⟩
  | torn =>
    have h2 : f = _ := h2
    subst h2
    simp only [fEn] at w1
    rw [show ((0 : Nat) : Int) = (0 : Int) from rfl] at w1
    generalize octD os = O at *
    exact ⟨_, by simp [c_frames_of, t1, w1, Tl.d, retD]; rfl⟩
  | changed =>
    have h2 : f = _ := h2
    subst h2
    simp only [fEn] at w1
    rw [show ((0 : Nat) : Int) = (0 : Int) from rfl] at w1
    generalize octD os = O at *
    exact ⟨_, by simp [c_frames_of, t1, w1, Tl.d, retD]; rfl⟩
theorem cl_frames {k : Nat} (hk : 3 ≤ k) (os : List Nat) (hb : os.length ≤ 100000) {fs : List Frm} {t : Tl} (h : Fr os fs t) (st : Store) : callIn (callF prog k) f_frames_of [.tup (octD os)] [] false st = .ok (.tup [.tup (fs.map frD), t.d fs.length]) st := by
  obtain ⟨st', e⟩ := ev_frames k hk os hb h
  exact call_pure (by simp [D.pure, octD_pure]) e (by simp [D.pure, D.pureL, fr_pure, tl_pure])
end K83

namespace K83
open PySem PyE
theorem isOk_ok {r : R D} {v : D} (h : isOk r v = true) : ∃ st, r = .ok v st := by
  unfold isOk at h
  split at h
  · rename_i d st
    exact ⟨st, by rw [PyE.beq_eq h]⟩
  · cases h
structure BsOk (d : D) : Prop where
  pack : ∃ st, callF prog 28 f_packed [.tup (tailD d)] [] = .ok (.tup (octD (payD d))) st
  row : ∃ st, callF prog 28 f_row_of_frame [.int (kindN d : Nat), .tup (octD (payD d))] [] = .ok d st
  len : (payD d).length ≤ 60
  oct : ∀ n ∈ payD d, n < 256
  kind : posS (wordD d) kindsS 0 = some (kindN d)
  shape : d = .tup (.str (wordD d) :: tailD d)
theorem bs_ok {d : D} (h : d ∈ base) : BsOk d := by
  have h := List.all_eq_true.mp base_ok d h
  unfold chkD at h
  simp only [Bool.and_eq_true] at h
  obtain ⟨⟨⟨⟨⟨h1, h2⟩, h3⟩, h4⟩, h5⟩, h6⟩ := h
  refine ⟨isOk_ok h1, isOk_ok h2, of_decide_eq_true h3, fun n hn => of_decide_eq_true (List.all_eq_true.mp h4 n hn), ?_, PyE.beq_eq h6⟩
  have h5 := of_decide_eq_true h5
  unfold kindN
  obtain ⟨x, hx⟩ := Option.isSome_iff_exists.mp h5
  rw [hx]; rfl
def fM (d : D) : List Nat := frameM (kindN d) (payD d)
def fr (d : D) : Frm := (kindN d, payD d)
def KD : D := .tup (kindsS.map .str)
theorem kinds_strs : strsOf (kindsS.map D.str) = some kindsS := rfl
theorem jo_body : b_journal_octets_0 = (.cons (.expr (.mt .extend (.var 1) (.cons (.call f_frame (.cons (.mt .tindex (.lit KD) (.cons (.ix (.var 2) (.lit (.int 0))) .nil)) (.cons (.call f_packed (.cons (.sl (.var 2) (.some (.lit (.int 1))) .none) .nil) [] false) .nil)) [] false) .nil))) .nil) := rfl
theorem kd_ty (st : Store) : mtTy .tindex (view st KD) = true := rfl
theorem kd_ix {d : D} {j : Nat} (h : posS (wordD d) kindsS 0 = some j) (st : Store) : mtD .tindex KD [.str (wordD d)] st = .ok (.int (j : Nat)) st := by
  show (match strsOf (kindsS.map D.str) with
    | some ss => opt ((posS (wordD d) ss 0).map fun (k : Nat) => D.int (k : Int)) st
    | none => .bad) = _
  rw [kinds_strs]
  dsimp only
  rw [h]; rfl
theorem fM_len {d : D} (h : d ∈ base) : (fM d).length = (payD d).length + 7 := by
  have lh : (headM (kindN d) (payD d).length).length = 4 := rfl
  have lf : (footM (payD d)).length = 3 := rfl
  simp only [fM, frameM, List.length_append, lh, lf]; omega
theorem flat_len : ∀ {ds : List D}, (∀ d ∈ ds, d ∈ base) → (ds.flatMap fM).length ≤ 67 * ds.length
  | [], _ => by simp
  | d :: ds, h => by
    have h1 := (bs_ok (h d List.mem_cons_self)).len
    have h2 := fM_len (h d List.mem_cons_self)
    have h3 := flat_len fun x hx => h x (List.mem_cons_of_mem _ hx)
    rw [List.flatMap_cons, List.length_append, List.length_cons]; omega
theorem jo_loop (X : D) : ∀ (ds : List D) (acc : List Nat), (∀ d ∈ ds, d ∈ base) → acc.length + 67 * ds.length ≤ 100000 →
    forR (asT (callF prog 28) (.name 2)) (evSs (callF prog 28) b_journal_octets_0) [2] 1 [] ds [some X, some (.ref 0), none] [.lst (octD acc)] = .ok (.nx, [some X, some (.ref 0), none]) [.lst (octD (acc ++ ds.flatMap fM))]
  | [], acc, _, _ => by simp [forR]
  | d :: ds, acc, h, hl => by
    have hd := h d List.mem_cons_self
    have b := bs_ok hd
    rw [List.length_cons] at hl
    have ix : ∀ st, ixD d (.int 0) st = .ok (.str (wordD d)) st := fun st => by
      have : ixD (.tup (.str (wordD d) :: tailD d)) (.int 0) st = .ok (.str (wordD d)) st := by rw [ix_tup, atI_0]; rfl
      rw [← b.shape] at this
      exact this
    have sl : ∀ st, slB d (some 1) none st = some (.tup (tailD d)) := fun st => by
      have := sl_drop (.str (wordD d) :: tailD d) st (i := 1) (by decide)
      rw [← b.shape] at this
      exact this
    obtain ⟨s0, e0⟩ := b.pack
    have pk : ∀ st, callIn (callF prog 28) f_packed [.tup (tailD d)] [] false st = .ok (.tup (octD (payD d))) st := fun st => by
      have hp : (D.tup (tailD d)).pure = true := by
        have h2 : ∀ x ∈ base, (D.tup (tailD x)).pure = true := by decide +kernel
        exact h2 d hd
      exact call_pure (by simp [hp]) e0 (by simp [D.pure, octD_pure])
    have ki := fun st => kd_ix b.kind st
    have cf := fun st => cl_frame (k := 28) (by decide) (kindN d) (payD d) (by have := b.len; omega) st
    have fl := fM_len hd
    have hl2 := b.len
    have ex : mtD .extend (.ref 0) [.tup (octD (fM d))] [.lst (octD acc)] = .ok .non [.lst (octD (acc ++ fM d))] := by
      show guardB (decide ((octD acc).length + (octD (fM d)).length ≤ line)) (R.ok D.non [.lst (octD acc ++ octD (fM d))]) = _
      rw [decide_eq_true (by rw [octD_len, octD_len]; simp [line]; omega), octD_app]; rfl
    have ty : ∀ xs, mtTy .extend (.lst xs) = true := fun _ => rfl
    have ih := jo_loop X ds (acc ++ fM d) (fun x hx => h x (List.mem_cons_of_mem _ hx)) (by rw [List.length_append]; omega)
    rw [show acc ++ fM d ++ ds.flatMap fM = acc ++ (d :: ds).flatMap fM by simp] at ih
    rw [for_step (en' := [some X, some (.ref 0), none]) (st' := [.lst (octD (acc ++ fM d))]) ?h]
    · exact ih
    · have cf : ∀ st, callIn (callF prog 28) f_frame [.int (kindN d : Nat), .tup (octD (payD d))] [] false st = .ok (.tup (octD (fM d))) st := cf
      clear ih
      generalize octD (fM d) = F at *
      generalize octD (payD d) = P at *
      generalize octD (acc ++ fM d) = A2 at *
      generalize octD acc = A at *
      generalize ((kindN d : Nat) : Int) = kn at *
      simp [stepR, jo_body, ix, sl, pk, ki, cf, ex, ty, kd_ty]
theorem flat_map_pure (ds : List D) (h : ∀ d ∈ ds, d ∈ base) : D.pureL ds = true := by
  have hb : ∀ x ∈ base, x.pure = true := by decide +kernel
  exact pureL_iff.mpr fun d hd => hb d (h d hd)
theorem ev_octets (ds : List D) (h : ∀ d ∈ ds, d ∈ base) (hl : ds.length ≤ 1000) : ∃ st', callF prog 29 f_journal_octets [.tup ds] [] = .ok (.tup (octD (ds.flatMap fM))) st' := by
  have lp := jo_loop (.tup ds) ds [] h (by simp; omega)
  rw [callF_at p_journal_octets (by omega), run_at rfl]
  have e0 : D.lst (octD []) = D.lst [] := rfl
  rw [e0, List.nil_append] at lp
  generalize octD (ds.flatMap fM) = A at *
  exact ⟨_, by simp [c_journal_octets, lp]; rfl⟩
theorem cl_octets (ds : List D) (h : ∀ d ∈ ds, d ∈ base) (hl : ds.length ≤ 1000) (st : Store) : callIn (callF prog 29) f_journal_octets [.tup ds] [] false st = .ok (.tup (octD (ds.flatMap fM))) st := by
  obtain ⟨st', e⟩ := ev_octets ds h hl
  exact call_pure (by simp [D.pure, flat_map_pure ds h]) e (by simp [D.pure, octD_pure])
theorem rj_loop (X T : D) (Fs : List D) : ∀ (ds acc : List D) (i : Nat), (∀ d ∈ ds, d ∈ base) → acc.length + ds.length ≤ 1000 →
    forR (asT (callF prog 28) (.tup (.cons (.name 2) (.cons (.tup (.cons (.name 6) (.cons (.name 7) .nil))) .nil)))) (evSs (callF prog 28) b_read_journal_0) [6, 2, 7, 3] 1 [] (pairs i (ds.map fun d => frD (fr d))) [some X, some (.ref 0), none, none, some (.tup Fs), some T, none, none] [.lst acc] = .ok (.nx, [some X, some (.ref 0), none, none, some (.tup Fs), some T, none, none]) [.lst (acc ++ ds)]
  | [], acc, _, _, _ => by simp [forR, pairs]
  | d :: ds, acc, i, h, hl => by
    have hd := h d List.mem_cons_self
    have b := bs_ok hd
    rw [List.length_cons] at hl
    obtain ⟨s0, e0⟩ := b.row
    have hp : d.pure = true := by
      have hb : ∀ x ∈ base, x.pure = true := by decide +kernel
      exact hb d hd
    have rw' : ∀ st, callIn (callF prog 28) f_row_of_frame [.int (kindN d : Nat), .tup (octD (payD d))] [] false st = .ok d st := fun st => call_pure (by simp [D.pure, octD_pure]) e0 hp
    have nn : isNon d = false := by rw [b.shape]; rfl
    have ih := rj_loop X T Fs ds (acc ++ [d]) (i + 1) (fun x hx => h x (List.mem_cons_of_mem _ hx)) (by rw [List.length_append, List.length_singleton]; omega)
    rw [show acc ++ [d] ++ ds = acc ++ d :: ds by simp] at ih
    have al : acc.length < 16777216 := by omega
    have ap : mtD .append (.ref 0) [d] [.lst acc] = .ok .non [.lst (acc ++ [d])] := by
      show guardB (decide (acc.length < line)) (R.ok D.non [.lst (acc ++ [d])]) = _
      rw [decide_eq_true (by simp [line]; omega)]; rfl
    show forR _ _ _ _ _ (D.tup [.int (i : Nat), frD (fr d)] :: pairs (i + 1) (ds.map fun d => frD (fr d))) _ _ = _
    rw [for_step (en' := [some X, some (.ref 0), none, none, some (.tup Fs), some T, none, none]) (st' := [.lst (acc ++ [d])]) ?h]
    · exact ih
    · clear ih
      simp only [frD, fr]
      generalize octD (payD d) = P at *
      generalize ((kindN d : Nat) : Int) = kn at *
      simp [stepR, b_read_journal_0, rw', nn, ap]
theorem ev_read (os : List Nat) (hb : os.length ≤ 100000) (ds : List D) (h : ∀ d ∈ ds, d ∈ base) (hl : ds.length ≤ 1000) {t : Tl} (hf : Fr os (ds.map fr) t) : ∃ st', callF prog 29 f_read_journal [.tup (octD os)] [] = .ok (.tup [.tup ds, t.d ds.length]) st' := by
  have c := fun st => cl_frames (k := 28) (by decide) os hb hf st
  rw [List.map_map, List.length_map] at c
  have lp := rj_loop (.tup (octD os)) (t.d ds.length) (ds.map fun d => frD (fr d)) ds [] 0 h (by simp; omega)
  rw [List.nil_append] at lp
  rw [callF_at p_read_journal (by omega), run_at rfl]
  have c : ∀ st, callIn (callF prog 28) f_frames_of [.tup (octD os)] [] false st = .ok (.tup [.tup (ds.map fun d => frD (fr d)), t.d ds.length]) st := c
  generalize octD os = O at *
  generalize t.d ds.length = T at *
  generalize (ds.map fun d => frD (fr d)) = A at *
  exact ⟨_, by simp [c_read_journal, c, lp]; rfl⟩
theorem cl_read (os : List Nat) (hb : os.length ≤ 100000) (ds : List D) (h : ∀ d ∈ ds, d ∈ base) (hl : ds.length ≤ 1000) {t : Tl} (hf : Fr os (ds.map fr) t) (st : Store) : callIn (callF prog 29) f_read_journal [.tup (octD os)] [] false st = .ok (.tup [.tup ds, t.d ds.length]) st := by
  obtain ⟨st', e⟩ := ev_read os hb ds h hl hf
  exact call_pure (by simp [D.pure, octD_pure]) e (by simp [D.pure, D.pureL, flat_map_pure ds h, tl_pure])
end K83

namespace K83
open PySem PyE
theorem xor_from : ∀ (os : List Nat) (t : Nat), os.foldl (fun t o => t ^^^ o) t = t ^^^ xorM os
  | [], t => by simp [xorM]
  | o :: os, t => by
    have h1 := xor_from os (t ^^^ o)
    have h2 := xor_from os (0 ^^^ o)
    unfold xorM
    rw [List.foldl_cons, List.foldl_cons, h1, h2, Nat.zero_xor, Nat.xor_assoc]
theorem xor_inj_l {a b c : Nat} (h : a ^^^ b = a ^^^ c) : b = c := by
  have := congrArg (a ^^^ ·) h
  simp only [← Nat.xor_assoc, Nat.xor_self, Nat.zero_xor] at this
  exact this
theorem xor_inj_r {a b c : Nat} (h : b ^^^ a = c ^^^ a) : b = c := by
  rw [Nat.xor_comm b, Nat.xor_comm c] at h
  exact xor_inj_l h
theorem xorM_cons (o : Nat) (os : List Nat) : xorM (o :: os) = o ^^^ xorM os := by
  have := xor_from os (0 ^^^ o)
  unfold xorM at *
  rw [List.foldl_cons, this, Nat.zero_xor]
theorem xorM_set : ∀ {os : List Nat} {i v x : Nat}, os[i]? = some x → v ≠ x → xorM (os.set i v) ≠ xorM os
  | [], i, v, x, h, _ => by simp at h
  | o :: os, 0, v, x, h, hv => by
    simp at h
    subst h
    rw [List.set_cons_zero, xorM_cons, xorM_cons]
    exact fun e => hv (xor_inj_r e)
  | o :: os, i + 1, v, x, h, hv => by
    rw [List.set_cons_succ, xorM_cons, xorM_cons]
    exact fun e => xorM_set (by simpa using h) hv (xor_inj_l e)
theorem chk_k {k k' h l : Nat} (hk : k ≠ k') : chk4 k h l ≠ chk4 k' h l := fun e => by
  unfold chk4 at e
  exact hk (by simpa using xor_inj_l (xor_inj_r (xor_inj_r e)))
theorem chk_h {k h h' l : Nat} (hh : h ≠ h') : chk4 k h l ≠ chk4 k h' l := fun e => by
  unfold chk4 at e
  exact hh (xor_inj_l (xor_inj_r e))
theorem chk_l {k h l l' : Nat} (hl : l ≠ l') : chk4 k h l ≠ chk4 k h l' := fun e => by
  unfold chk4 at e
  exact hl (xor_inj_l e)
section
variable {k : Nat} {p rest : List Nat} {fs : List Frm} {t : Tl}
theorem len_split (n : Nat) : n / 256 * 256 + n % 256 = n := by omega
theorem foot_len (p : List Nat) : (footM p).length = 3 := rfl
theorem Fr.step' (n : Fr rest fs t) : Fr (frameM k p ++ rest) ((k, p) :: fs) t := by
  have e : frameM k p ++ rest = k :: (p.length / 256) :: (p.length % 256) :: chk4 k (p.length / 256) (p.length % 256) :: (p ++ footM p ++ rest) := by
    simp [frameM, headM]
  rw [e]
  have t1 : (p ++ footM p ++ rest).take (p.length / 256 * 256 + p.length % 256) = p := by rw [len_split, List.append_assoc, List.take_left]
  have t2 : (p ++ footM p ++ rest).drop (p.length / 256 * 256 + p.length % 256) = footM p ++ rest := by rw [len_split, List.append_assoc, List.drop_left]
  have t3 : (p ++ footM p ++ rest).drop (p.length / 256 * 256 + p.length % 256 + 3) = rest := by
    rw [← List.drop_drop, t2]
    show (footM p ++ rest).drop (footM p).length = rest
    rw [List.drop_left]
  have f := Fr.step (k := k) (h := p.length / 256) (l := p.length % 256) (c := chk4 k (p.length / 256) (p.length % 256)) (q := p ++ footM p ++ rest) (fs := fs) (t := t) (by omega) rfl
    (by simp only [List.length_append, foot_len]; omega) (by rw [t1, t2]; exact (List.take_left (l₁ := footM p) (l₂ := rest)).symm) (by rw [t3]; exact n)
  rw [t1] at f
  exact f
/-- a frame with one octet changed -/
theorem Fr.chg {v x i : Nat} (hp : p.length < 65536) (hx : (frameM k p)[i]? = some x) (hv : v ≠ x) (h8 : v < 256) : Fr ((frameM k p).set i v ++ rest) [] .changed := by
  have e : frameM k p = k :: (p.length / 256) :: (p.length % 256) :: chk4 k (p.length / 256) (p.length % 256) :: (p ++ footM p) := by
    simp [frameM, headM]
  rw [e] at hx ⊢
  match i, hx with
  | 0, hx =>
    simp at hx
    subst hx
    exact .chgH (by omega) (chk_k hv)
  | 1, hx =>
    simp at hx
    subst hx
    exact .chgH (by omega) (chk_h hv)
  | 2, hx =>
    simp at hx
    subst hx
    exact .chgH h8 (chk_l hv)
  | 3, hx =>
    simp at hx
    subst hx
    exact .chgH (by omega) (Ne.symm hv)
  | i + 4, hx =>
    have hx : (p ++ footM p)[i]? = some x := by simpa using hx
    show Fr (k :: (p.length / 256) :: (p.length % 256) :: chk4 k (p.length / 256) (p.length % 256) :: ((p ++ footM p).set i v ++ rest)) [] .changed
    have hlen : ((p ++ footM p).set i v ++ rest).length = p.length + 3 + rest.length := by simp [foot_len]
    refine .chgF (by omega) rfl (by rw [hlen]; omega) ?_
    rw [len_split]
    by_cases hi : i < p.length
    · have e1 : (p ++ footM p).set i v = p.set i v ++ footM p := by rw [List.set_append_left _ _ hi]
      have l1 : (p.set i v).length = p.length := List.length_set
      rw [e1, List.append_assoc]
      have t1 : (p.set i v ++ (footM p ++ rest)).take p.length = p.set i v := by rw [← l1, List.take_left]
      have t2 : (p.set i v ++ (footM p ++ rest)).drop p.length = footM p ++ rest := by rw [← l1, List.drop_left]
      rw [t1, t2]
      show footM (p.set i v) ≠ (footM p ++ rest).take (footM p).length
      rw [List.take_left]
      rw [List.getElem?_append_left hi] at hx
      exact fun z => xorM_set hx hv (List.cons.inj z).1
    · have hi' : p.length ≤ i := Nat.not_lt.mp hi
      have e1 : (p ++ footM p).set i v = p ++ (footM p).set (i - p.length) v := by rw [List.set_append_right _ _ hi']
      rw [e1, List.append_assoc, List.take_left, List.drop_left]
      have l1 : ((footM p).set (i - p.length) v).length = 3 := by rw [List.length_set]; rfl
      have t2 : ((footM p).set (i - p.length) v ++ rest).take 3 = (footM p).set (i - p.length) v := by rw [← l1, List.take_left]
      rw [t2]
      rw [List.getElem?_append_right hi'] at hx
      intro z
      have this : (footM p)[i - p.length]? = ((footM p).set (i - p.length) v)[i - p.length]? := congrArg (fun l : List Nat => l[i - p.length]?) z
      rw [hx, List.getElem?_set_self (by have := (List.getElem?_eq_some_iff.mp hx).1; exact this)] at this
      exact hv (Option.some.inj this).symm
/-- a frame that is cut off -/
theorem Fr.cut {c : Nat} (hp : p.length < 65536) (h0 : 0 < c) (hc : c < (frameM k p).length) : Fr ((frameM k p).take c) [] .torn := by
  have e : frameM k p = k :: (p.length / 256) :: (p.length % 256) :: chk4 k (p.length / 256) (p.length % 256) :: (p ++ footM p) := by
    simp [frameM, headM]
  by_cases h4 : c < 4
  · refine .tornH (fun z => ?_) (by rw [List.length_take]; omega)
    have := congrArg List.length z
    rw [List.length_take, List.length_nil] at this
    omega
  · obtain ⟨c', rfl⟩ : ∃ c', c = c' + 4 := ⟨c - 4, by omega⟩
    rw [e] at hc ⊢
    show Fr (k :: (p.length / 256) :: (p.length % 256) :: chk4 k (p.length / 256) (p.length % 256) :: ((p ++ footM p).take c')) [] .torn
    refine .tornB (by omega) rfl ?_
    rw [List.length_take]
    simp only [List.length_cons, List.length_append, foot_len] at hc ⊢
    omega
end
theorem fr_whole : ∀ ds : List D, Fr (ds.flatMap fM) (ds.map fr) .none
  | [] => .nil
  | d :: ds => by
    rw [List.flatMap_cons, List.map_cons]
    exact (fr_whole ds).step'
/-- how many frames are whole ahead of c, whether c is an end -/
def cutM : List D → Nat → Nat × Bool
  | [], c => (0, decide (c = 0))
  | d :: ds, c => if (fM d).length ≤ c then ((cutM ds (c - (fM d).length)).1 + 1, (cutM ds (c - (fM d).length)).2) else (0, decide (c = 0))
def cutT (b : Bool) : Tl := if b = true then .none else .torn
theorem pay_lt {d : D} (h : d ∈ base) : (payD d).length < 65536 := by have := (bs_ok h).len; omega
theorem fr_cut : ∀ (ds : List D) (c : Nat), (∀ d ∈ ds, d ∈ base) → c ≤ (ds.flatMap fM).length → Fr ((ds.flatMap fM).take c) ((ds.take (cutM ds c).1).map fr) (cutT (cutM ds c).2)
  | [], c, _, h => by
    have h0 : c = 0 := by simpa using h
    subst h0
    exact .nil
  | d :: ds, c, hb, h => by
    have hd := hb d List.mem_cons_self
    unfold cutM
    by_cases hc : (fM d).length ≤ c
    · rw [if_pos hc, List.flatMap_cons, List.take_append, List.take_of_length_le hc]
      simp only [List.take_succ_cons, List.map_cons]
      refine Fr.step' (fr_cut ds (c - (fM d).length) (fun x hx => hb x (List.mem_cons_of_mem _ hx)) ?_)
      rw [List.flatMap_cons, List.length_append] at h
      omega
    · rw [if_neg hc, List.flatMap_cons, List.take_append_of_le_length (by omega)]
      by_cases h0 : c = 0
      · subst h0
        exact .nil
      · rw [decide_eq_false h0]
        exact Fr.cut (pay_lt hd) (by omega) (by have : (fM d).length = (frameM (kindN d) (payD d)).length := rfl; omega)
theorem fr_chg : ∀ (ds : List D) (s v x : Nat), (∀ d ∈ ds, d ∈ base) → (ds.flatMap fM)[s]? = some x → v ≠ x → v < 256 → Fr ((ds.flatMap fM).set s v) ((ds.take (cutM ds s).1).map fr) .changed
  | [], s, v, x, _, h, _, _ => by simp at h
  | d :: ds, s, v, x, hb, h, hv, h8 => by
    have hd := hb d List.mem_cons_self
    unfold cutM
    rw [List.flatMap_cons] at h ⊢
    by_cases hc : (fM d).length ≤ s
    · rw [if_pos hc, List.set_append_right _ _ hc]
      simp only [List.take_succ_cons, List.map_cons]
      rw [List.getElem?_append_right hc] at h
      exact Fr.step' (fr_chg ds (s - (fM d).length) v x (fun x hx => hb x (List.mem_cons_of_mem _ hx)) h hv h8)
    · rw [if_neg hc, List.set_append_left _ _ (by omega)]
      rw [List.getElem?_append_left (by omega)] at h
      exact Fr.chg (pay_lt hd) h hv h8
/-- the ends of the frames, behind s -/
def endsM : Nat → List D → List Nat
  | _, [] => []
  | s, d :: ds => (s + (fM d).length) :: endsM (s + (fM d).length) ds
theorem ends_len : ∀ (ds : List D) (s : Nat), (endsM s ds).length = ds.length
  | [], _ => rfl
  | d :: ds, s => by unfold endsM; rw [List.length_cons, List.length_cons, ends_len ds]
theorem ends_ge : ∀ (ds : List D) (s e : Nat), e ∈ endsM s ds → s ≤ e
  | [], _, _, h => by cases h
  | d :: ds, s, e, h => by
    unfold endsM at h
    rcases List.mem_cons.mp h with rfl | h
    · omega
    · have := ends_ge ds _ e h; omega
theorem ends_cut : ∀ (ds : List D) (s c : Nat), (∀ d ∈ ds, d ∈ base) → ((endsM s ds).filter fun e => decide (e ≤ s + c)).length = (cutM ds c).1 ∧ (c ≤ (ds.flatMap fM).length → decide ((s + c) ∈ s :: endsM s ds) = (cutM ds c).2)
  | [], s, c, _ => by
    refine ⟨rfl, fun h => ?_⟩
    have h0 : c = 0 := by simpa using h
    subst h0
    simp [endsM, cutM]
  | d :: ds, s, c, hb => by
    have hd := hb d List.mem_cons_self
    have hl := fM_len hd
    unfold endsM cutM
    by_cases hc : (fM d).length ≤ c
    · obtain ⟨h1, h2⟩ := ends_cut ds (s + (fM d).length) (c - (fM d).length) fun x hx => hb x (List.mem_cons_of_mem _ hx)
      have e : s + (fM d).length + (c - (fM d).length) = s + c := by omega
      rw [e] at h1 h2
      rw [if_pos hc]
      refine ⟨?_, fun h => ?_⟩
      · rw [List.filter_cons_of_pos (by simp; omega), List.length_cons, h1]
      · rw [List.flatMap_cons, List.length_append] at h
        have h3 := h2 (by omega)
        show _ = (cutM ds (c - (fM d).length)).2
        rw [← h3]
        have : ¬ (s + c = s) := by omega
        simp [this]
        intro h0
        omega
    · rw [if_neg hc]
      refine ⟨?_, fun _ => ?_⟩
      · have : ((s + (fM d).length) :: endsM (s + (fM d).length) ds).filter (fun e => decide (e ≤ s + c)) = [] := by
          rw [List.filter_eq_nil_iff]
          intro e he
          have : s + (fM d).length ≤ e := by
            rcases List.mem_cons.mp he with rfl | he
            · omega
            · exact ends_ge ds _ e he
          simp; omega
        rw [this]; rfl
      · rw [Bool.eq_iff_iff]
        simp only [decide_eq_true_eq, List.mem_cons]
        constructor
        · rintro (h | h | h)
          · omega
          · omega
          · have := ends_ge ds _ _ h; omega
        · intro h; left; omega
theorem cut_le : ∀ (ds : List D) (c : Nat), (cutM ds c).1 ≤ ds.length
  | [], _ => Nat.le_refl _
  | d :: ds, c => by
    unfold cutM
    split
    · have := cut_le ds (c - (fM d).length)
      simp only [List.length_cons]; omega
    · simp
end K83

namespace K83
open PySem PyE
def LD : D := .tup [(.int 2), (.int 5), (.int 3), (.int 2), (.int 2), (.int 5), (.int 6), (.int 3), (.int 1), (.int 1)]
def longsC : C := (.dict [(.str (Str.ofString "event")), (.str (Str.ofString "ask")), (.str (Str.ofString "facts")), (.str (Str.ofString "slipped")), (.str (Str.ofString "blame")), (.str (Str.ofString "plan")), (.str (Str.ofString "watch")), (.str (Str.ofString "told")), (.str (Str.ofString "seal")), (.str (Str.ofString "cut"))] (.cons (.lit (.int 2)) (.cons (.lit (.int 5)) (.cons (.lit (.int 3)) (.cons (.lit (.int 2)) (.cons (.lit (.int 2)) (.cons (.lit (.int 5)) (.cons (.lit (.int 6)) (.cons (.lit (.int 3)) (.cons (.lit (.int 1)) (.cons (.lit (.int 1)) .nil)))))))))))
theorem ir_body : c_is_row = ⟨1, 1, (.cons (.ife (.or (.not (.call f_is_tuple (.cons (.var 0) (.cons (.lit .non) .nil)) [] false)) (.or (.cmp .eq (.bi .len (.cons (.var 0) .nil)) (.lit (.int 0))) (.or (.not (.isi (.ix (.var 0) (.lit (.int 0))) [.str])) (.cmp .notin (.ix (.var 0) (.lit (.int 0))) (.lit KD))))) (.cons (.ret (.lit (.bl false))) .nil) .nil) (.cons (.ife (.cmp .ne (.bi .len (.cons (.var 0) .nil)) (.ix (.lit LD) (.mt .tindex (.lit KD) (.cons (.ix (.var 0) (.lit (.int 0))) .nil)))) (.cons (.ret (.lit (.bl false))) .nil) .nil) (.cons (.ife (.cmp .eq (.ix (.var 0) (.lit (.int 0))) (.lit (.str (Str.ofString "ask")))) (.cons (.ret (.call f_is_between (.cons (.sl (.var 0) (.some (.lit (.int 1))) (.some (.lit (.int 4)))) .nil) [] false)) .nil) .nil) (.cons (.ife (.cmp .eq (.ix (.var 0) (.lit (.int 0))) (.lit (.str (Str.ofString "watch")))) (.cons (.ret (.and (.call f_is_between (.cons (.sl (.var 0) (.some (.lit (.int 1))) (.some (.lit (.int 4)))) .nil) [] false) (.and (.call f_is_number (.cons (.ix (.var 0) (.lit (.int 4))) (.cons (.lit (.int 0)) (.cons (.lit .non) .nil))) [] false) (.call f_is_sure_told (.cons (.ix (.var 0) (.lit (.int 5))) .nil) [] false)))) .nil) .nil) (.cons (.ife (.cmp .eq (.ix (.var 0) (.lit (.int 0))) (.lit (.str (Str.ofString "told")))) (.cons (.ret (.and (.call f_is_number (.cons (.ix (.var 0) (.lit (.int 1))) (.cons (.lit (.int 0)) (.cons (.lit .non) .nil))) [] false) (.or (.cmp .is (.ix (.var 0) (.lit (.int 2))) (.lit .non)) (.call f_is_sure_told (.cons (.ix (.var 0) (.lit (.int 2))) .nil) [] false)))) .nil) .nil) (.cons (.ife (.cmp .eq (.ix (.var 0) (.lit (.int 0))) (.lit (.str (Str.ofString "plan")))) (.cons (.ret (.and (.call f_is_tuple (.cons (.ix (.var 0) (.lit (.int 1))) (.cons (.lit .non) .nil)) [] false) (.and (.call f_is_number (.cons (.ix (.var 0) (.lit (.int 2))) (.cons (.lit (.int 0)) (.cons (.lit .non) .nil))) [] false) (.call f_is_number (.cons (.ix (.var 0) (.lit (.int 3))) (.cons (.lit (.int 0)) (.cons (.lit .non) .nil))) [] false)))) .nil) .nil) (.cons (.ret (.or (.cmp .ne (.ix (.var 0) (.lit (.int 0))) (.lit (.str (Str.ofString "facts")))) (.call f_is_number (.cons (.ix (.var 0) (.lit (.int 1))) (.cons (.lit (.int 0)) (.cons (.lit .non) .nil))) [] false))) .nil)))))))⟩ := rfl
theorem lr_body : c__law_is_row = ⟨1, 2, (.cons (.asg (.name 1) longsC) (.cons (.ife (.or (.not (.isi (.var 0) [.tuple])) (.or (.cmp .eq (.var 0) (.tup .nil)) (.or (.not (.isi (.ix (.var 0) (.lit (.int 0))) [.str])) (.cmp .ne (.mt .get (.var 1) (.cons (.ix (.var 0) (.lit (.int 0))) (.cons (.lit (.int 0)) .nil))) (.bi .len (.cons (.var 0) .nil)))))) (.cons (.ret (.lit (.bl false))) .nil) .nil) (.cons (.ife (.cmp .in_ (.ix (.var 0) (.lit (.int 0))) (.tup (.cons (.lit (.str (Str.ofString "ask"))) (.cons (.lit (.str (Str.ofString "watch"))) .nil)))) (.cons (.ife (.or (.not (.call f__law_is_number (.cons (.ix (.var 0) (.lit (.int 1))) (.cons (.lit (.int 0)) .nil)) [] false)) (.or (.not (.call f__law_is_number (.cons (.ix (.var 0) (.lit (.int 2))) (.cons (.bin .sub (.lit (.int 0)) (.lit (.int 1))) .nil)) [] false)) (.and (.cmp .isnot (.ix (.var 0) (.lit (.int 3))) (.lit .non)) (.not (.call f__law_is_number (.cons (.ix (.var 0) (.lit (.int 3))) (.cons (.lit (.int 0)) .nil)) [] false))))) (.cons (.ret (.lit (.bl false))) .nil) .nil) (.cons (.ret (.or (.cmp .eq (.ix (.var 0) (.lit (.int 0))) (.lit (.str (Str.ofString "ask")))) (.and (.call f__law_is_number (.cons (.ix (.var 0) (.lit (.int 4))) (.cons (.lit (.int 0)) .nil)) [] false) (.call f__law_is_sure (.cons (.ix (.var 0) (.lit (.int 5))) .nil) [] false)))) .nil)) .nil) (.cons (.ife (.cmp .eq (.ix (.var 0) (.lit (.int 0))) (.lit (.str (Str.ofString "told")))) (.cons (.ret (.and (.call f__law_is_number (.cons (.ix (.var 0) (.lit (.int 1))) (.cons (.lit (.int 0)) .nil)) [] false) (.or (.cmp .is (.ix (.var 0) (.lit (.int 2))) (.lit .non)) (.call f__law_is_sure (.cons (.ix (.var 0) (.lit (.int 2))) .nil) [] false)))) .nil) .nil) (.cons (.ife (.cmp .eq (.ix (.var 0) (.lit (.int 0))) (.lit (.str (Str.ofString "plan")))) (.cons (.ret (.and (.isi (.ix (.var 0) (.lit (.int 1))) [.tuple]) (.and (.call f__law_is_number (.cons (.ix (.var 0) (.lit (.int 2))) (.cons (.lit (.int 0)) .nil)) [] false) (.call f__law_is_number (.cons (.ix (.var 0) (.lit (.int 3))) (.cons (.lit (.int 0)) .nil)) [] false)))) .nil) .nil) (.cons (.ret (.or (.cmp .ne (.ix (.var 0) (.lit (.int 0))) (.lit (.str (Str.ofString "facts")))) (.call f__law_is_number (.cons (.ix (.var 0) (.lit (.int 1))) (.cons (.lit (.int 0)) .nil)) [] false))) .nil))))))⟩ := rfl

def betw (a b c : D) : Bool := isNum 0 none a && (isNum (-1) none b && (isNon c || isNum 0 none c))
def sure : D → Bool
  | .tup [a, .bl _] => isNon a || isNum 0 none a
  | _ => false
theorem cl_num0 {k : Nat} (hk : 2 ≤ k) {n : Nat} {d : D} (h : okv n d = true) (lo : Int) (st : Store) : callIn (callF prog k) f_is_number [d, .int lo, .non] [] false st = .ok (.bl (isNum lo none d)) st := cl_is_number hk d h lo none st
theorem ev_between (k : Nat) (hk : 3 ≤ k) {n : Nat} {a b c : D} (ha : okv n a = true) (hb : okv n b = true) (hc : okv n c = true) : callF prog k f_is_between [.tup [a, b, c]] [] = .ok (.bl (betw a b c)) [] := by
  have ca := fun st => cl_num0 (k := k - 1) (by omega) ha 0 st
  have cb := fun st => cl_num0 (k := k - 1) (by omega) hb (-1) st
  have cc := fun st => cl_num0 (k := k - 1) (by omega) hc 0 st
  have i0 : ∀ st, ixD (.tup [a, b, c]) (.int 0) st = .ok a st := fun _ => rfl
  have i1 : ∀ st, ixD (.tup [a, b, c]) (.int 1) st = .ok b st := fun _ => rfl
  have i2 : ∀ st, ixD (.tup [a, b, c]) (.int 2) st = .ok c st := fun _ => rfl
  rw [callF_at p_is_between (by omega), run_at rfl]
  generalize D.tup [a, b, c] = V at *
  cases h1 : isNum 0 none a <;> cases h2 : isNum (-1) none b <;> cases h3 : isNon c <;> simp [c_is_between, ca, cb, cc, i0, i1, i2, h1, h2, h3, betw]
theorem cl_between {k : Nat} (hk : 3 ≤ k) {n : Nat} {a b c : D} (ha : okv n a = true) (hb : okv n b = true) (hc : okv n c = true) (st : Store) : callIn (callF prog k) f_is_between [.tup [a, b, c]] [] false st = .ok (.bl (betw a b c)) st :=
  call_pure (by simp [D.pure, D.pureL, okv_pure n a ha, okv_pure n b hb, okv_pure n c hc]) (ev_between k hk ha hb hc) rfl
def isBlD : D → Bool
  | .bl _ => true
  | _ => false
theorem isTy_bool {n : Nat} {d : D} (h : okv n d = true) (st : Store) : isTy (view st d) .bool = isBlD d := by
  rw [vw_okv h]
  cases n with
  | zero => cases h
  | succ n => cases d <;> first | rfl | cases h
theorem sure_two (a b : D) : sure (.tup [a, b]) = (isBlD b && (isNon a || isNum 0 none a)) := by cases b <;> rfl
theorem sure_len {xs : List D} (h : xs.length ≠ 2) : sure (.tup xs) = false := by
  rcases xs with _ | ⟨a, _ | ⟨b, _ | ⟨c, xs⟩⟩⟩
  · rfl
  · rfl
  · simp at h
  · cases b <;> rfl
theorem two_of {xs : List D} (h : xs.length = 2) : ∃ a b, xs = [a, b] := by
  rcases xs with _ | ⟨a, _ | ⟨b, _ | ⟨c, xs⟩⟩⟩ <;> first | (simp at h; done) | exact ⟨a, b, rfl⟩
theorem ev_sure_told (k : Nat) (hk : 3 ≤ k) {n : Nat} {d : D} (h : okv n d = true) : callF prog k f_is_sure_told [d] [] = .ok (.bl (sure d)) [] := by
  have ct := cl_is_tuple (k := k - 1) (by omega) d h (some 2)
  simp only [oD_some] at ct
  rw [callF_at p_is_sure_told (by omega), run_at rfl]
  by_cases ht : ∃ xs, d = .tup xs
  · obtain ⟨xs, rfl⟩ := ht
    obtain ⟨n, rfl⟩ : ∃ m, n = m + 1 := by cases n with | zero => cases h | succ m => exact ⟨m, rfl⟩
    by_cases hl : xs.length = 2
    · obtain ⟨a, b, rfl⟩ := two_of hl
      have ka := okv_el h (i := 0) rfl
      have kb := okv_el h (i := 1) rfl
      have e1 : isTup (some 2) (.tup [a, b]) = true := rfl
      rw [e1] at ct
      have i0 : ∀ st, ixD (.tup [a, b]) (.int 0) st = .ok a st := fun _ => rfl
      have i1 : ∀ st, ixD (.tup [a, b]) (.int 1) st = .ok b st := fun _ => rfl
      have ca := fun st => cl_num0 (k := k - 1) (by omega) ka 0 st
      have pb := okv_pl kb
      have vb := fun st => vw_okv kb st
      have tb := isTy_bool kb []
      rw [vw_okv kb] at tb
      rw [sure_two]
      generalize D.tup [a, b] = V at *
      cases h1 : isBlD b <;> cases h2 : isNon a <;> simp [c_is_sure_told, ct, i0, i1, ca, pb, vb, tb, h1, h2]
    · have e1 : isTup (some 2) (.tup xs) = false := by
        show decide ((xs.length : Int) = 2) = false
        exact decide_eq_false (by omega)
      rw [e1] at ct
      rw [sure_len hl]
      generalize D.tup xs = V at *
      simp [c_is_sure_told, ct]
  · have e1 : isTup (some 2) d = false := by cases d <;> first | rfl | exact absurd ⟨_, rfl⟩ ht
    have e2 : sure d = false := by cases d <;> first | rfl | exact absurd ⟨_, rfl⟩ ht
    rw [e1] at ct
    rw [e2]
    simp [c_is_sure_told, ct]
theorem cl_sure_told {k : Nat} (hk : 3 ≤ k) {n : Nat} {d : D} (h : okv n d = true) (st : Store) : callIn (callF prog k) f_is_sure_told [d] [] false st = .ok (.bl (sure d)) st :=
  call_pure (by simp [okv_pure n d h]) (ev_sure_told k hk h) rfl
theorem ev_lnum (k : Nat) (hk : 1 ≤ k) {n : Nat} (d : D) (h : okv n d = true) (lo : Int) : callF prog k f__law_is_number [d, .int lo] [] = .ok (.bl (isNum lo none d)) [] := by
  have hp := okv_pl h
  rw [callF_at p__law_is_number (by omega), run_at rfl]
  cases d <;> simp [c__law_is_number, hp, isTy, isPl, isNum] <;> first | (cases n <;> cases h; done) | skip
theorem cl_lnum {k : Nat} (hk : 1 ≤ k) {n : Nat} {d : D} (h : okv n d = true) (lo : Int) (st : Store) : callIn (callF prog k) f__law_is_number [d, .int lo] [] false st = .ok (.bl (isNum lo none d)) st :=
  call_pure (by simp [okv_pure n d h]; rfl) (ev_lnum k hk d h lo) rfl
theorem ev_lsure (k : Nat) (hk : 2 ≤ k) {n : Nat} {d : D} (h : okv n d = true) : callF prog k f__law_is_sure [d] [] = .ok (.bl (sure d)) [] := by
  rw [callF_at p__law_is_sure (by omega), run_at rfl]
  have hp := okv_pl h
  by_cases ht : ∃ xs, d = .tup xs
  · obtain ⟨xs, rfl⟩ := ht
    obtain ⟨n, rfl⟩ : ∃ m, n = m + 1 := by cases n with | zero => cases h | succ m => exact ⟨m, rfl⟩
    have ln : ∀ st, biD .len [.tup xs] st = .ok (.int (xs.length : Nat)) st := fun _ => rfl
    by_cases hl : xs.length = 2
    · rw [hl] at ln
      obtain ⟨a, b, rfl⟩ := two_of hl
      have ka := okv_el h (i := 0) rfl
      have kb := okv_el h (i := 1) rfl
      have i0 : ∀ st, ixD (.tup [a, b]) (.int 0) st = .ok a st := fun _ => rfl
      have i1 : ∀ st, ixD (.tup [a, b]) (.int 1) st = .ok b st := fun _ => rfl
      have ca := fun st => cl_lnum (k := k - 1) (by omega) ka 0 st
      have pb := okv_pl kb
      have vb := fun st => vw_okv kb st
      have tb := isTy_bool kb []
      rw [vw_okv kb] at tb
      have ty : ∀ st, isTy (view st (.tup [a, b])) .tuple = true := fun _ => rfl
      have vp : ∀ st, isPl (view st (.tup [a, b])) = true := fun _ => rfl
      rw [sure_two]
      clear hp hl h
      generalize D.tup [a, b] = V at *
      cases h1 : isBlD b <;> cases h2 : isNon a <;> cases h3 : isNum 0 none a <;> simp [c__law_is_sure, ln, i0, i1, ca, pb, vb, tb, h1, h2, h3, ty, vp]
    · have hl' : ¬ ((xs.length : Nat) : Int) = 2 := by omega
      have ty : ∀ st, isTy (view st (.tup xs)) .tuple = true := fun _ => rfl
      have vp : ∀ st, isPl (view st (.tup xs)) = true := fun _ => rfl
      rw [sure_len hl]
      clear hp h
      generalize D.tup xs = V at *
      generalize ((xs.length : Nat) : Int) = m at *
      simp [c__law_is_sure, ln, hl', ty, vp]
  · have e2 : sure d = false := by cases d <;> first | rfl | exact absurd ⟨_, rfl⟩ ht
    rw [e2]
    cases d <;> first | (simp [c__law_is_sure, isPl, isTy]; done) | exact absurd ⟨_, rfl⟩ ht | (cases n <;> cases h; done)
theorem cl_lsure {k : Nat} (hk : 2 ≤ k) {n : Nat} {d : D} (h : okv n d = true) (st : Store) : callIn (callF prog k) f__law_is_sure [d] [] false st = .ok (.bl (sure d)) st :=
  call_pure (by simp [okv_pure n d h]) (ev_lsure k hk h) rfl
end K83

namespace K83
open PySem PyE
def longsD : List D := [.tup [sS "event", .int 2], .tup [sS "ask", .int 5], .tup [sS "facts", .int 3], .tup [sS "slipped", .int 2], .tup [sS "blame", .int 2], .tup [sS "plan", .int 5], .tup [sS "watch", .int 6], .tup [sS "told", .int 3], .tup [sS "seal", .int 1], .tup [sS "cut", .int 1]]
theorem longs_ev (cf : CallF) (en : En) (st : Store) : evE cf longsC en st = .ok (.dct longsD) st := by
  simp [longsC, dictD, isKey, dput, isK, keq, longsD, sS]
structure KF (w : Str) (j L : Nat) : Prop where
  nk : ∀ st, cmpD .notin (.str w) KD st = .ok (.bl false) st
  ti : ∀ st, mtD .tindex KD [.str w] st = .ok (.int (j : Nat)) st
  li : ∀ st, ixD LD (.int (j : Nat)) st = .ok (.int (L : Nat)) st
  ge : ∀ st, mtD .get (.dct longsD) [.str w, .int 0] st = .ok (.int (L : Nat)) st
theorem kf_event : KF (Str.ofString "event") 0 2 := ⟨fun st => by kernel_rfl, fun st => by kernel_rfl, fun st => by kernel_rfl, fun st => by kernel_rfl⟩
theorem kf_ask : KF (Str.ofString "ask") 1 5 := ⟨fun st => by kernel_rfl, fun st => by kernel_rfl, fun st => by kernel_rfl, fun st => by kernel_rfl⟩
theorem kf_facts : KF (Str.ofString "facts") 2 3 := ⟨fun st => by kernel_rfl, fun st => by kernel_rfl, fun st => by kernel_rfl, fun st => by kernel_rfl⟩
theorem kf_slipped : KF (Str.ofString "slipped") 3 2 := ⟨fun st => by kernel_rfl, fun st => by kernel_rfl, fun st => by kernel_rfl, fun st => by kernel_rfl⟩
theorem kf_blame : KF (Str.ofString "blame") 4 2 := ⟨fun st => by kernel_rfl, fun st => by kernel_rfl, fun st => by kernel_rfl, fun st => by kernel_rfl⟩
theorem kf_plan : KF (Str.ofString "plan") 5 5 := ⟨fun st => by kernel_rfl, fun st => by kernel_rfl, fun st => by kernel_rfl, fun st => by kernel_rfl⟩
theorem kf_watch : KF (Str.ofString "watch") 6 6 := ⟨fun st => by kernel_rfl, fun st => by kernel_rfl, fun st => by kernel_rfl, fun st => by kernel_rfl⟩
theorem kf_told : KF (Str.ofString "told") 7 3 := ⟨fun st => by kernel_rfl, fun st => by kernel_rfl, fun st => by kernel_rfl, fun st => by kernel_rfl⟩
theorem kf_seal : KF (Str.ofString "seal") 8 1 := ⟨fun st => by kernel_rfl, fun st => by kernel_rfl, fun st => by kernel_rfl, fun st => by kernel_rfl⟩
theorem kf_cut : KF (Str.ofString "cut") 9 1 := ⟨fun st => by kernel_rfl, fun st => by kernel_rfl, fun st => by kernel_rfl, fun st => by kernel_rfl⟩
theorem str_beq (a b : Str) : (a == b) = decide (a = b) := by rw [Bool.eq_iff_iff]; simp
theorem pl_str (w : Str) : isPl (.str w) = true := rfl
theorem ty_str' (w : Str) : isTy (.str w) .str = true := rfl
theorem get_ty (es : List D) : mtTy .get (.dct es) = true := rfl
/-- both tell the same -/
def Same (k : Nat) (v : D) : Prop := ∃ b, callF prog k f_is_row [v] [] = .ok (.bl b) [] ∧ callF prog k f__law_is_row [v] [] = .ok (.bl b) []
section
variable {k n : Nat} {w : Str} {r : List D} {j L : Nat}
theorem same_mis (hk : 5 ≤ k) (h : okv (n + 1) (.tup (.str w :: r)) = true) (hn : n ≤ 18) (f : KF w j L) (hl : r.length + 1 ≠ L) : Same k (.tup (.str w :: r)) := by
  refine ⟨false, ?_, ?_⟩
  · have ct := cl_is_tuple (k := k - 1) (by omega) _ h none
    simp only [oD_none] at ct
    have e1 : isTup none (.tup (.str w :: r)) = true := rfl
    rw [e1] at ct
    have ln : ∀ st, biD .len [.tup (.str w :: r)] st = .ok (.int ((r.length : Nat) + 1 : Int)) st := fun _ => rfl
    have i0 : ∀ st, ixD (.tup (.str w :: r)) (.int 0) st = .ok (.str w) st := fun st => by rw [ix_tup, atI_0]; rfl
    have h0 : ¬ ((r.length : Nat) + 1 : Int) = 0 := by omega
    have h1 : ¬ ((r.length : Nat) + 1 : Int) = (L : Int) := by omega
    have nk := f.nk; have ti := f.ti; have li := f.li
    rw [callF_at p_is_row (by omega), run_at rfl]
    clear h
    generalize D.tup (.str w :: r) = V at *
    generalize ((r.length : Nat) + 1 : Int) = m at *
    simp [ir_body, ct, ln, i0, h0, h1, nk, ti, li, kd_ty, pl_str, ty_str']
  · have e0 := fun st => eq_tup0 h (by omega) st
    have ln : ∀ st, biD .len [.tup (.str w :: r)] st = .ok (.int ((r.length : Nat) + 1 : Int)) st := fun _ => rfl
    have i0 : ∀ st, ixD (.tup (.str w :: r)) (.int 0) st = .ok (.str w) st := fun st => by rw [ix_tup, atI_0]; rfl
    have ty : ∀ st, isTy (view st (.tup (.str w :: r))) .tuple = true := fun _ => rfl
    have vp : ∀ st, isPl (view st (.tup (.str w :: r))) = true := fun _ => rfl
    have h1 : ¬ (L : Int) = ((r.length : Nat) + 1 : Int) := by omega
    have ge := f.ge
    have em : (D.str w :: r).isEmpty = false := rfl
    rw [em] at e0
    rw [callF_at p__law_is_row (by omega), run_at rfl]
    clear h em
    generalize D.tup (.str w :: r) = V at *
    generalize ((r.length : Nat) + 1 : Int) = m at *
    simp [lr_body, longs_ev, e0, ln, i0, ty, vp, h1, ge, get_ty, pl_str, ty_str']
theorem same_seal (hk : 5 ≤ k) {n : Nat} (h : okv (n + 1) (.tup [.str (Str.ofString "seal")]) = true) (hn : n ≤ 18) : Same k (.tup [.str (Str.ofString "seal")]) := by
  have f := kf_seal
  refine ⟨true, ?_, ?_⟩
  · have ct := cl_is_tuple (k := k - 1) (by omega) _ h none
    simp only [oD_none] at ct
    have e1 : isTup none (.tup [.str (Str.ofString "seal")]) = true := rfl
    rw [e1] at ct
    have ln : ∀ st, biD .len [.tup [.str (Str.ofString "seal")]] st = .ok (.int 1) st := fun _ => rfl
    have i0 : ∀ st, ixD (.tup [.str (Str.ofString "seal")]) (.int 0) st = .ok (.str (Str.ofString "seal")) st := fun st => by rw [ix_tup, atI_0]; rfl
    have nk := f.nk; have ti := f.ti; have li := f.li
    simp only [Int.ofNat_eq_natCast, Int.cast_ofNat_Int] at li
    rw [callF_at p_is_row (by omega), run_at rfl]
    clear h
    generalize D.tup [.str (Str.ofString "seal")] = V at *
    simp [ir_body, ct, ln, i0, nk, ti, li, kd_ty, pl_str, ty_str']
  · have e0 := fun st => eq_tup0 h (by omega) st
    have ln : ∀ st, biD .len [.tup [.str (Str.ofString "seal")]] st = .ok (.int 1) st := fun _ => rfl
    have i0 : ∀ st, ixD (.tup [.str (Str.ofString "seal")]) (.int 0) st = .ok (.str (Str.ofString "seal")) st := fun st => by rw [ix_tup, atI_0]; rfl
    have ty : ∀ st, isTy (view st (.tup [.str (Str.ofString "seal")])) .tuple = true := fun _ => rfl
    have vp : ∀ st, isPl (view st (.tup [.str (Str.ofString "seal")])) = true := fun _ => rfl
    have ge := f.ge
    have em : ([.str (Str.ofString "seal")] : List D).isEmpty = false := rfl
    rw [em] at e0
    rw [callF_at p__law_is_row (by omega), run_at rfl]
    clear h em
    generalize D.tup [.str (Str.ofString "seal")] = V at *
    simp [lr_body, longs_ev, e0, ln, i0, ty, vp, ge, get_ty, pl_str, ty_str', inD_def, flatD, eqF, str_beq]
theorem same_cut (hk : 5 ≤ k) {n : Nat} (h : okv (n + 1) (.tup [.str (Str.ofString "cut")]) = true) (hn : n ≤ 18) : Same k (.tup [.str (Str.ofString "cut")]) := by
  have f := kf_cut
  refine ⟨true, ?_, ?_⟩
  · have ct := cl_is_tuple (k := k - 1) (by omega) _ h none
    simp only [oD_none] at ct
    have e1 : isTup none (.tup [.str (Str.ofString "cut")]) = true := rfl
    rw [e1] at ct
    have ln : ∀ st, biD .len [.tup [.str (Str.ofString "cut")]] st = .ok (.int 1) st := fun _ => rfl
    have i0 : ∀ st, ixD (.tup [.str (Str.ofString "cut")]) (.int 0) st = .ok (.str (Str.ofString "cut")) st := fun st => by rw [ix_tup, atI_0]; rfl
    have nk := f.nk; have ti := f.ti; have li := f.li
    simp only [Int.ofNat_eq_natCast, Int.cast_ofNat_Int] at li
    rw [callF_at p_is_row (by omega), run_at rfl]
    clear h
    generalize D.tup [.str (Str.ofString "cut")] = V at *
    simp [ir_body, ct, ln, i0, nk, ti, li, kd_ty, pl_str, ty_str']
  · have e0 := fun st => eq_tup0 h (by omega) st
    have ln : ∀ st, biD .len [.tup [.str (Str.ofString "cut")]] st = .ok (.int 1) st := fun _ => rfl
    have i0 : ∀ st, ixD (.tup [.str (Str.ofString "cut")]) (.int 0) st = .ok (.str (Str.ofString "cut")) st := fun st => by rw [ix_tup, atI_0]; rfl
    have ty : ∀ st, isTy (view st (.tup [.str (Str.ofString "cut")])) .tuple = true := fun _ => rfl
    have vp : ∀ st, isPl (view st (.tup [.str (Str.ofString "cut")])) = true := fun _ => rfl
    have ge := f.ge
    have em : ([.str (Str.ofString "cut")] : List D).isEmpty = false := rfl
    rw [em] at e0
    rw [callF_at p__law_is_row (by omega), run_at rfl]
    clear h em
    generalize D.tup [.str (Str.ofString "cut")] = V at *
    simp [lr_body, longs_ev, e0, ln, i0, ty, vp, ge, get_ty, pl_str, ty_str', inD_def, flatD, eqF, str_beq]
theorem same_event (hk : 5 ≤ k) {n : Nat} {a : D} (h : okv (n + 1) (.tup [.str (Str.ofString "event"), a]) = true) (hn : n ≤ 18) : Same k (.tup [.str (Str.ofString "event"), a]) := by
  have f := kf_event
  have k1 := okv_el h (i := 1) rfl
  refine ⟨true, ?_, ?_⟩
  · have ct := cl_is_tuple (k := k - 1) (by omega) _ h none
    simp only [oD_none] at ct
    have e1 : isTup none (.tup [.str (Str.ofString "event"), a]) = true := rfl
    rw [e1] at ct
    have ln : ∀ st, biD .len [.tup [.str (Str.ofString "event"), a]] st = .ok (.int 2) st := fun _ => rfl
    have i0 : ∀ st, ixD (.tup [.str (Str.ofString "event"), a]) (.int 0) st = .ok (.str (Str.ofString "event")) st := fun st => by rw [ix_tup, atI_0]; rfl
    have i1 : ∀ st, ixD (.tup [.str (Str.ofString "event"), a]) (.int 1) st = .ok a st := fun st => by rw [ix_tup, atI_1]; rfl
    have nk := f.nk; have ti := f.ti; have li := f.li
    simp only [Int.ofNat_eq_natCast, Int.cast_ofNat_Int] at li
    rw [callF_at p_is_row (by omega), run_at rfl]
    clear h
    generalize D.tup [.str (Str.ofString "event"), a] = V at *
    simp [ir_body, ct, ln, i0, i1, nk, ti, li, kd_ty, pl_str, ty_str']
  · have e0 := fun st => eq_tup0 h (by omega) st
    have ln : ∀ st, biD .len [.tup [.str (Str.ofString "event"), a]] st = .ok (.int 2) st := fun _ => rfl
    have i0 : ∀ st, ixD (.tup [.str (Str.ofString "event"), a]) (.int 0) st = .ok (.str (Str.ofString "event")) st := fun st => by rw [ix_tup, atI_0]; rfl
    have i1 : ∀ st, ixD (.tup [.str (Str.ofString "event"), a]) (.int 1) st = .ok a st := fun st => by rw [ix_tup, atI_1]; rfl
    have ty : ∀ st, isTy (view st (.tup [.str (Str.ofString "event"), a])) .tuple = true := fun _ => rfl
    have vp : ∀ st, isPl (view st (.tup [.str (Str.ofString "event"), a])) = true := fun _ => rfl
    have ge := f.ge
    have em : ([.str (Str.ofString "event"), a] : List D).isEmpty = false := rfl
    rw [em] at e0
    rw [callF_at p__law_is_row (by omega), run_at rfl]
    clear h em
    generalize D.tup [.str (Str.ofString "event"), a] = V at *
    simp [lr_body, longs_ev, e0, ln, i0, i1, ty, vp, ge, get_ty, pl_str, ty_str', inD_def, flatD, eqF, str_beq]
theorem same_slipped (hk : 5 ≤ k) {n : Nat} {a : D} (h : okv (n + 1) (.tup [.str (Str.ofString "slipped"), a]) = true) (hn : n ≤ 18) : Same k (.tup [.str (Str.ofString "slipped"), a]) := by
  have f := kf_slipped
  have k1 := okv_el h (i := 1) rfl
  refine ⟨true, ?_, ?_⟩
  · have ct := cl_is_tuple (k := k - 1) (by omega) _ h none
    simp only [oD_none] at ct
    have e1 : isTup none (.tup [.str (Str.ofString "slipped"), a]) = true := rfl
    rw [e1] at ct
    have ln : ∀ st, biD .len [.tup [.str (Str.ofString "slipped"), a]] st = .ok (.int 2) st := fun _ => rfl
    have i0 : ∀ st, ixD (.tup [.str (Str.ofString "slipped"), a]) (.int 0) st = .ok (.str (Str.ofString "slipped")) st := fun st => by rw [ix_tup, atI_0]; rfl
    have i1 : ∀ st, ixD (.tup [.str (Str.ofString "slipped"), a]) (.int 1) st = .ok a st := fun st => by rw [ix_tup, atI_1]; rfl
    have nk := f.nk; have ti := f.ti; have li := f.li
    simp only [Int.ofNat_eq_natCast, Int.cast_ofNat_Int] at li
    rw [callF_at p_is_row (by omega), run_at rfl]
    clear h
    generalize D.tup [.str (Str.ofString "slipped"), a] = V at *
    simp [ir_body, ct, ln, i0, i1, nk, ti, li, kd_ty, pl_str, ty_str']
  · have e0 := fun st => eq_tup0 h (by omega) st
    have ln : ∀ st, biD .len [.tup [.str (Str.ofString "slipped"), a]] st = .ok (.int 2) st := fun _ => rfl
    have i0 : ∀ st, ixD (.tup [.str (Str.ofString "slipped"), a]) (.int 0) st = .ok (.str (Str.ofString "slipped")) st := fun st => by rw [ix_tup, atI_0]; rfl
    have i1 : ∀ st, ixD (.tup [.str (Str.ofString "slipped"), a]) (.int 1) st = .ok a st := fun st => by rw [ix_tup, atI_1]; rfl
    have ty : ∀ st, isTy (view st (.tup [.str (Str.ofString "slipped"), a])) .tuple = true := fun _ => rfl
    have vp : ∀ st, isPl (view st (.tup [.str (Str.ofString "slipped"), a])) = true := fun _ => rfl
    have ge := f.ge
    have em : ([.str (Str.ofString "slipped"), a] : List D).isEmpty = false := rfl
    rw [em] at e0
    rw [callF_at p__law_is_row (by omega), run_at rfl]
    clear h em
    generalize D.tup [.str (Str.ofString "slipped"), a] = V at *
    simp [lr_body, longs_ev, e0, ln, i0, i1, ty, vp, ge, get_ty, pl_str, ty_str', inD_def, flatD, eqF, str_beq]
theorem same_blame (hk : 5 ≤ k) {n : Nat} {a : D} (h : okv (n + 1) (.tup [.str (Str.ofString "blame"), a]) = true) (hn : n ≤ 18) : Same k (.tup [.str (Str.ofString "blame"), a]) := by
  have f := kf_blame
  have k1 := okv_el h (i := 1) rfl
  refine ⟨true, ?_, ?_⟩
  · have ct := cl_is_tuple (k := k - 1) (by omega) _ h none
    simp only [oD_none] at ct
    have e1 : isTup none (.tup [.str (Str.ofString "blame"), a]) = true := rfl
    rw [e1] at ct
    have ln : ∀ st, biD .len [.tup [.str (Str.ofString "blame"), a]] st = .ok (.int 2) st := fun _ => rfl
    have i0 : ∀ st, ixD (.tup [.str (Str.ofString "blame"), a]) (.int 0) st = .ok (.str (Str.ofString "blame")) st := fun st => by rw [ix_tup, atI_0]; rfl
    have i1 : ∀ st, ixD (.tup [.str (Str.ofString "blame"), a]) (.int 1) st = .ok a st := fun st => by rw [ix_tup, atI_1]; rfl
    have nk := f.nk; have ti := f.ti; have li := f.li
    simp only [Int.ofNat_eq_natCast, Int.cast_ofNat_Int] at li
    rw [callF_at p_is_row (by omega), run_at rfl]
    clear h
    generalize D.tup [.str (Str.ofString "blame"), a] = V at *
    simp [ir_body, ct, ln, i0, i1, nk, ti, li, kd_ty, pl_str, ty_str']
  · have e0 := fun st => eq_tup0 h (by omega) st
    have ln : ∀ st, biD .len [.tup [.str (Str.ofString "blame"), a]] st = .ok (.int 2) st := fun _ => rfl
    have i0 : ∀ st, ixD (.tup [.str (Str.ofString "blame"), a]) (.int 0) st = .ok (.str (Str.ofString "blame")) st := fun st => by rw [ix_tup, atI_0]; rfl
    have i1 : ∀ st, ixD (.tup [.str (Str.ofString "blame"), a]) (.int 1) st = .ok a st := fun st => by rw [ix_tup, atI_1]; rfl
    have ty : ∀ st, isTy (view st (.tup [.str (Str.ofString "blame"), a])) .tuple = true := fun _ => rfl
    have vp : ∀ st, isPl (view st (.tup [.str (Str.ofString "blame"), a])) = true := fun _ => rfl
    have ge := f.ge
    have em : ([.str (Str.ofString "blame"), a] : List D).isEmpty = false := rfl
    rw [em] at e0
    rw [callF_at p__law_is_row (by omega), run_at rfl]
    clear h em
    generalize D.tup [.str (Str.ofString "blame"), a] = V at *
    simp [lr_body, longs_ev, e0, ln, i0, i1, ty, vp, ge, get_ty, pl_str, ty_str', inD_def, flatD, eqF, str_beq]
theorem same_facts (hk : 5 ≤ k) {n : Nat} {a : D} {b : D} (h : okv (n + 1) (.tup [.str (Str.ofString "facts"), a, b]) = true) (hn : n ≤ 18) : Same k (.tup [.str (Str.ofString "facts"), a, b]) := by
  have f := kf_facts
  have k1 := okv_el h (i := 1) rfl
  have k2 := okv_el h (i := 2) rfl
  refine ⟨isNum 0 none a, ?_, ?_⟩
  · have ct := cl_is_tuple (k := k - 1) (by omega) _ h none
    simp only [oD_none] at ct
    have e1 : isTup none (.tup [.str (Str.ofString "facts"), a, b]) = true := rfl
    rw [e1] at ct
    have ln : ∀ st, biD .len [.tup [.str (Str.ofString "facts"), a, b]] st = .ok (.int 3) st := fun _ => rfl
    have i0 : ∀ st, ixD (.tup [.str (Str.ofString "facts"), a, b]) (.int 0) st = .ok (.str (Str.ofString "facts")) st := fun st => by rw [ix_tup, atI_0]; rfl
    have i1 : ∀ st, ixD (.tup [.str (Str.ofString "facts"), a, b]) (.int 1) st = .ok a st := fun st => by rw [ix_tup, atI_1]; rfl
    have i2 : ∀ st, ixD (.tup [.str (Str.ofString "facts"), a, b]) (.int 2) st = .ok b st := fun st => by rw [ix_tup, atI_2]; rfl
    have nk := f.nk; have ti := f.ti; have li := f.li
    simp only [Int.ofNat_eq_natCast, Int.cast_ofNat_Int] at li
    have na := fun st => cl_num0 (k := k - 1) (by omega) k1 0 st
    rw [callF_at p_is_row (by omega), run_at rfl]
    clear h
    generalize D.tup [.str (Str.ofString "facts"), a, b] = V at *
    simp [ir_body, ct, ln, i0, i1, i2, nk, ti, li, kd_ty, pl_str, ty_str', na]
  · have e0 := fun st => eq_tup0 h (by omega) st
    have ln : ∀ st, biD .len [.tup [.str (Str.ofString "facts"), a, b]] st = .ok (.int 3) st := fun _ => rfl
    have i0 : ∀ st, ixD (.tup [.str (Str.ofString "facts"), a, b]) (.int 0) st = .ok (.str (Str.ofString "facts")) st := fun st => by rw [ix_tup, atI_0]; rfl
    have i1 : ∀ st, ixD (.tup [.str (Str.ofString "facts"), a, b]) (.int 1) st = .ok a st := fun st => by rw [ix_tup, atI_1]; rfl
    have i2 : ∀ st, ixD (.tup [.str (Str.ofString "facts"), a, b]) (.int 2) st = .ok b st := fun st => by rw [ix_tup, atI_2]; rfl
    have ty : ∀ st, isTy (view st (.tup [.str (Str.ofString "facts"), a, b])) .tuple = true := fun _ => rfl
    have vp : ∀ st, isPl (view st (.tup [.str (Str.ofString "facts"), a, b])) = true := fun _ => rfl
    have ge := f.ge
    have em : ([.str (Str.ofString "facts"), a, b] : List D).isEmpty = false := rfl
    rw [em] at e0
    have na := fun st => cl_lnum (k := k - 1) (by omega) k1 0 st
    rw [callF_at p__law_is_row (by omega), run_at rfl]
    clear h em
    generalize D.tup [.str (Str.ofString "facts"), a, b] = V at *
    simp [lr_body, longs_ev, e0, ln, i0, i1, i2, ty, vp, ge, get_ty, pl_str, ty_str', inD_def, flatD, eqF, str_beq, na]
end
end K83

namespace K83
open PySem PyE
theorem isTy_tup {n : Nat} {d : D} (h : okv n d = true) : isTy d .tuple = isTup none d := by
  cases n with
  | zero => cases h
  | succ n => cases d <;> first | rfl | cases h
section
variable {k n : Nat} {w : Str} {r : List D} {j L : Nat}
theorem same_ask (hk : 5 ≤ k) {n : Nat} {a : D} {b : D} {c : D} {d : D} (h : okv (n + 1) (.tup [.str (Str.ofString "ask"), a, b, c, d]) = true) (hn : n ≤ 18) : Same k (.tup [.str (Str.ofString "ask"), a, b, c, d]) := by
  have f := kf_ask
  have k1 := okv_el h (i := 1) rfl
  have k2 := okv_el h (i := 2) rfl
  have k3 := okv_el h (i := 3) rfl
  have k4 := okv_el h (i := 4) rfl
  refine ⟨betw a b c, ?_, ?_⟩
  · have ct := cl_is_tuple (k := k - 1) (by omega) _ h none
    simp only [oD_none] at ct
    have e1 : isTup none (.tup [.str (Str.ofString "ask"), a, b, c, d]) = true := rfl
    rw [e1] at ct
    have ln : ∀ st, biD .len [.tup [.str (Str.ofString "ask"), a, b, c, d]] st = .ok (.int 5) st := fun _ => rfl
    have i0 : ∀ st, ixD (.tup [.str (Str.ofString "ask"), a, b, c, d]) (.int 0) st = .ok (.str (Str.ofString "ask")) st := fun st => by rw [ix_tup, atI_0]; rfl
    have i1 : ∀ st, ixD (.tup [.str (Str.ofString "ask"), a, b, c, d]) (.int 1) st = .ok a st := fun st => by rw [ix_tup, atI_1]; rfl
    have i2 : ∀ st, ixD (.tup [.str (Str.ofString "ask"), a, b, c, d]) (.int 2) st = .ok b st := fun st => by rw [ix_tup, atI_2]; rfl
    have i3 : ∀ st, ixD (.tup [.str (Str.ofString "ask"), a, b, c, d]) (.int 3) st = .ok c st := fun st => by rw [ix_tup, atI_3]; rfl
    have i4 : ∀ st, ixD (.tup [.str (Str.ofString "ask"), a, b, c, d]) (.int 4) st = .ok d st := fun st => by rw [ix_tup, atI_4]; rfl
    have nk := f.nk; have ti := f.ti; have li := f.li
    simp only [Int.ofNat_eq_natCast, Int.cast_ofNat_Int] at li
    have sl : ∀ st, slB (.tup [.str (Str.ofString "ask"), a, b, c, d]) (some 1) (some 4) st = some (.tup [a, b, c]) := fun _ => rfl
    have cb := fun st => cl_between (k := k - 1) (by omega) k1 k2 k3 st
    rw [callF_at p_is_row (by omega), run_at rfl]
    clear h
    generalize D.tup [.str (Str.ofString "ask"), a, b, c, d] = V at *
    simp [ir_body, ct, ln, i0, i1, i2, i3, i4, nk, ti, li, kd_ty, pl_str, ty_str', sl, cb]
  · have e0 := fun st => eq_tup0 h (by omega) st
    have ln : ∀ st, biD .len [.tup [.str (Str.ofString "ask"), a, b, c, d]] st = .ok (.int 5) st := fun _ => rfl
    have i0 : ∀ st, ixD (.tup [.str (Str.ofString "ask"), a, b, c, d]) (.int 0) st = .ok (.str (Str.ofString "ask")) st := fun st => by rw [ix_tup, atI_0]; rfl
    have i1 : ∀ st, ixD (.tup [.str (Str.ofString "ask"), a, b, c, d]) (.int 1) st = .ok a st := fun st => by rw [ix_tup, atI_1]; rfl
    have i2 : ∀ st, ixD (.tup [.str (Str.ofString "ask"), a, b, c, d]) (.int 2) st = .ok b st := fun st => by rw [ix_tup, atI_2]; rfl
    have i3 : ∀ st, ixD (.tup [.str (Str.ofString "ask"), a, b, c, d]) (.int 3) st = .ok c st := fun st => by rw [ix_tup, atI_3]; rfl
    have i4 : ∀ st, ixD (.tup [.str (Str.ofString "ask"), a, b, c, d]) (.int 4) st = .ok d st := fun st => by rw [ix_tup, atI_4]; rfl
    have ty : ∀ st, isTy (view st (.tup [.str (Str.ofString "ask"), a, b, c, d])) .tuple = true := fun _ => rfl
    have vp : ∀ st, isPl (view st (.tup [.str (Str.ofString "ask"), a, b, c, d])) = true := fun _ => rfl
    have ge := f.ge
    have em : ([.str (Str.ofString "ask"), a, b, c, d] : List D).isEmpty = false := rfl
    rw [em] at e0
    have na := fun st => cl_lnum (k := k - 1) (by omega) k1 (0) st
    have nb := fun st => cl_lnum (k := k - 1) (by omega) k2 (-1) st
    have nc := fun st => cl_lnum (k := k - 1) (by omega) k3 (0) st
    rw [callF_at p__law_is_row (by omega), run_at rfl]
    clear h em
    generalize D.tup [.str (Str.ofString "ask"), a, b, c, d] = V at *
    cases c0 : isNum 0 none a <;> cases c1 : isNum (-1) none b <;> cases c2 : isNon c <;> cases c3 : isNum 0 none c <;> simp [lr_body, longs_ev, e0, ln, i0, i1, i2, i3, i4, ty, vp, ge, get_ty, pl_str, ty_str', inD_def, flatD, eqF, str_beq, na, nb, nc, betw, c0, c1, c2, c3]
theorem same_told (hk : 5 ≤ k) {n : Nat} {a : D} {b : D} (h : okv (n + 1) (.tup [.str (Str.ofString "told"), a, b]) = true) (hn : n ≤ 18) : Same k (.tup [.str (Str.ofString "told"), a, b]) := by
  have f := kf_told
  have k1 := okv_el h (i := 1) rfl
  have k2 := okv_el h (i := 2) rfl
  refine ⟨isNum 0 none a && (isNon b || sure b), ?_, ?_⟩
  · have ct := cl_is_tuple (k := k - 1) (by omega) _ h none
    simp only [oD_none] at ct
    have e1 : isTup none (.tup [.str (Str.ofString "told"), a, b]) = true := rfl
    rw [e1] at ct
    have ln : ∀ st, biD .len [.tup [.str (Str.ofString "told"), a, b]] st = .ok (.int 3) st := fun _ => rfl
    have i0 : ∀ st, ixD (.tup [.str (Str.ofString "told"), a, b]) (.int 0) st = .ok (.str (Str.ofString "told")) st := fun st => by rw [ix_tup, atI_0]; rfl
    have i1 : ∀ st, ixD (.tup [.str (Str.ofString "told"), a, b]) (.int 1) st = .ok a st := fun st => by rw [ix_tup, atI_1]; rfl
    have i2 : ∀ st, ixD (.tup [.str (Str.ofString "told"), a, b]) (.int 2) st = .ok b st := fun st => by rw [ix_tup, atI_2]; rfl
    have nk := f.nk; have ti := f.ti; have li := f.li
    simp only [Int.ofNat_eq_natCast, Int.cast_ofNat_Int] at li
    have na := fun st => cl_num0 (k := k - 1) (by omega) k1 0 st
    have sb := fun st => cl_sure_told (k := k - 1) (by omega) k2 st
    rw [callF_at p_is_row (by omega), run_at rfl]
    clear h
    generalize D.tup [.str (Str.ofString "told"), a, b] = V at *
    cases c0 : isNum 0 none a <;> cases c1 : isNon b <;> simp [ir_body, ct, ln, i0, i1, i2, nk, ti, li, kd_ty, pl_str, ty_str', na, sb, c0, c1]
  · have e0 := fun st => eq_tup0 h (by omega) st
    have ln : ∀ st, biD .len [.tup [.str (Str.ofString "told"), a, b]] st = .ok (.int 3) st := fun _ => rfl
    have i0 : ∀ st, ixD (.tup [.str (Str.ofString "told"), a, b]) (.int 0) st = .ok (.str (Str.ofString "told")) st := fun st => by rw [ix_tup, atI_0]; rfl
    have i1 : ∀ st, ixD (.tup [.str (Str.ofString "told"), a, b]) (.int 1) st = .ok a st := fun st => by rw [ix_tup, atI_1]; rfl
    have i2 : ∀ st, ixD (.tup [.str (Str.ofString "told"), a, b]) (.int 2) st = .ok b st := fun st => by rw [ix_tup, atI_2]; rfl
    have ty : ∀ st, isTy (view st (.tup [.str (Str.ofString "told"), a, b])) .tuple = true := fun _ => rfl
    have vp : ∀ st, isPl (view st (.tup [.str (Str.ofString "told"), a, b])) = true := fun _ => rfl
    have ge := f.ge
    have em : ([.str (Str.ofString "told"), a, b] : List D).isEmpty = false := rfl
    rw [em] at e0
    have na := fun st => cl_lnum (k := k - 1) (by omega) k1 (0) st
    have sb := fun st => cl_lsure (k := k - 1) (by omega) k2 st
    rw [callF_at p__law_is_row (by omega), run_at rfl]
    clear h em
    generalize D.tup [.str (Str.ofString "told"), a, b] = V at *
    cases c0 : isNum 0 none a <;> cases c1 : isNon b <;> simp [lr_body, longs_ev, e0, ln, i0, i1, i2, ty, vp, ge, get_ty, pl_str, ty_str', inD_def, flatD, eqF, str_beq, na, sb, c0, c1]
theorem same_plan (hk : 5 ≤ k) {n : Nat} {a : D} {b : D} {c : D} {d : D} (h : okv (n + 1) (.tup [.str (Str.ofString "plan"), a, b, c, d]) = true) (hn : n ≤ 18) : Same k (.tup [.str (Str.ofString "plan"), a, b, c, d]) := by
  have f := kf_plan
  have k1 := okv_el h (i := 1) rfl
  have k2 := okv_el h (i := 2) rfl
  have k3 := okv_el h (i := 3) rfl
  have k4 := okv_el h (i := 4) rfl
  refine ⟨isTup none a && (isNum 0 none b && isNum 0 none c), ?_, ?_⟩
  · have ct := cl_is_tuple (k := k - 1) (by omega) _ h none
    simp only [oD_none] at ct
    have e1 : isTup none (.tup [.str (Str.ofString "plan"), a, b, c, d]) = true := rfl
    rw [e1] at ct
    have ln : ∀ st, biD .len [.tup [.str (Str.ofString "plan"), a, b, c, d]] st = .ok (.int 5) st := fun _ => rfl
    have i0 : ∀ st, ixD (.tup [.str (Str.ofString "plan"), a, b, c, d]) (.int 0) st = .ok (.str (Str.ofString "plan")) st := fun st => by rw [ix_tup, atI_0]; rfl
    have i1 : ∀ st, ixD (.tup [.str (Str.ofString "plan"), a, b, c, d]) (.int 1) st = .ok a st := fun st => by rw [ix_tup, atI_1]; rfl
    have i2 : ∀ st, ixD (.tup [.str (Str.ofString "plan"), a, b, c, d]) (.int 2) st = .ok b st := fun st => by rw [ix_tup, atI_2]; rfl
    have i3 : ∀ st, ixD (.tup [.str (Str.ofString "plan"), a, b, c, d]) (.int 3) st = .ok c st := fun st => by rw [ix_tup, atI_3]; rfl
    have i4 : ∀ st, ixD (.tup [.str (Str.ofString "plan"), a, b, c, d]) (.int 4) st = .ok d st := fun st => by rw [ix_tup, atI_4]; rfl
    have nk := f.nk; have ti := f.ti; have li := f.li
    simp only [Int.ofNat_eq_natCast, Int.cast_ofNat_Int] at li
    have nb := fun st => cl_num0 (k := k - 1) (by omega) k2 0 st
    have nc := fun st => cl_num0 (k := k - 1) (by omega) k3 0 st
    have ta := fun st => cl_is_tuple (k := k - 1) (by omega) a k1 none st
    simp only [oD_none] at ta
    rw [callF_at p_is_row (by omega), run_at rfl]
    clear h
    generalize D.tup [.str (Str.ofString "plan"), a, b, c, d] = V at *
    cases c0 : isTup none a <;> cases c1 : isNum 0 none b <;> simp [ir_body, ct, ln, i0, i1, i2, i3, i4, nk, ti, li, kd_ty, pl_str, ty_str', ta, nb, nc, c0, c1]
  · have e0 := fun st => eq_tup0 h (by omega) st
    have ln : ∀ st, biD .len [.tup [.str (Str.ofString "plan"), a, b, c, d]] st = .ok (.int 5) st := fun _ => rfl
    have i0 : ∀ st, ixD (.tup [.str (Str.ofString "plan"), a, b, c, d]) (.int 0) st = .ok (.str (Str.ofString "plan")) st := fun st => by rw [ix_tup, atI_0]; rfl
    have i1 : ∀ st, ixD (.tup [.str (Str.ofString "plan"), a, b, c, d]) (.int 1) st = .ok a st := fun st => by rw [ix_tup, atI_1]; rfl
    have i2 : ∀ st, ixD (.tup [.str (Str.ofString "plan"), a, b, c, d]) (.int 2) st = .ok b st := fun st => by rw [ix_tup, atI_2]; rfl
    have i3 : ∀ st, ixD (.tup [.str (Str.ofString "plan"), a, b, c, d]) (.int 3) st = .ok c st := fun st => by rw [ix_tup, atI_3]; rfl
    have i4 : ∀ st, ixD (.tup [.str (Str.ofString "plan"), a, b, c, d]) (.int 4) st = .ok d st := fun st => by rw [ix_tup, atI_4]; rfl
    have ty : ∀ st, isTy (view st (.tup [.str (Str.ofString "plan"), a, b, c, d])) .tuple = true := fun _ => rfl
    have vp : ∀ st, isPl (view st (.tup [.str (Str.ofString "plan"), a, b, c, d])) = true := fun _ => rfl
    have ge := f.ge
    have em : ([.str (Str.ofString "plan"), a, b, c, d] : List D).isEmpty = false := rfl
    rw [em] at e0
    have nb := fun st => cl_lnum (k := k - 1) (by omega) k2 (0) st
    have nc := fun st => cl_lnum (k := k - 1) (by omega) k3 (0) st
    have ta := isTy_tup k1
    have pa := okv_pl k1
    have va := fun st => vw_okv k1 st
    rw [callF_at p__law_is_row (by omega), run_at rfl]
    clear h em
    generalize D.tup [.str (Str.ofString "plan"), a, b, c, d] = V at *
    cases c0 : isTup none a <;> cases c1 : isNum 0 none b <;> simp [lr_body, longs_ev, e0, ln, i0, i1, i2, i3, i4, ty, vp, ge, get_ty, pl_str, ty_str', inD_def, flatD, eqF, str_beq, ta, pa, va, nb, nc, c0, c1]
theorem same_watch (hk : 5 ≤ k) {n : Nat} {a : D} {b : D} {c : D} {d : D} {e : D} (h : okv (n + 1) (.tup [.str (Str.ofString "watch"), a, b, c, d, e]) = true) (hn : n ≤ 18) : Same k (.tup [.str (Str.ofString "watch"), a, b, c, d, e]) := by
  have f := kf_watch
  have k1 := okv_el h (i := 1) rfl
  have k2 := okv_el h (i := 2) rfl
  have k3 := okv_el h (i := 3) rfl
  have k4 := okv_el h (i := 4) rfl
  have k5 := okv_el h (i := 5) rfl
  refine ⟨betw a b c && (isNum 0 none d && sure e), ?_, ?_⟩
  · have ct := cl_is_tuple (k := k - 1) (by omega) _ h none
    simp only [oD_none] at ct
    have e1 : isTup none (.tup [.str (Str.ofString "watch"), a, b, c, d, e]) = true := rfl
    rw [e1] at ct
    have ln : ∀ st, biD .len [.tup [.str (Str.ofString "watch"), a, b, c, d, e]] st = .ok (.int 6) st := fun _ => rfl
    have i0 : ∀ st, ixD (.tup [.str (Str.ofString "watch"), a, b, c, d, e]) (.int 0) st = .ok (.str (Str.ofString "watch")) st := fun st => by rw [ix_tup, atI_0]; rfl
    have i1 : ∀ st, ixD (.tup [.str (Str.ofString "watch"), a, b, c, d, e]) (.int 1) st = .ok a st := fun st => by rw [ix_tup, atI_1]; rfl
    have i2 : ∀ st, ixD (.tup [.str (Str.ofString "watch"), a, b, c, d, e]) (.int 2) st = .ok b st := fun st => by rw [ix_tup, atI_2]; rfl
    have i3 : ∀ st, ixD (.tup [.str (Str.ofString "watch"), a, b, c, d, e]) (.int 3) st = .ok c st := fun st => by rw [ix_tup, atI_3]; rfl
    have i4 : ∀ st, ixD (.tup [.str (Str.ofString "watch"), a, b, c, d, e]) (.int 4) st = .ok d st := fun st => by rw [ix_tup, atI_4]; rfl
    have i5 : ∀ st, ixD (.tup [.str (Str.ofString "watch"), a, b, c, d, e]) (.int 5) st = .ok e st := fun st => by rw [ix_tup, atI_5]; rfl
    have nk := f.nk; have ti := f.ti; have li := f.li
    simp only [Int.ofNat_eq_natCast, Int.cast_ofNat_Int] at li
    have sl : ∀ st, slB (.tup [.str (Str.ofString "watch"), a, b, c, d, e]) (some 1) (some 4) st = some (.tup [a, b, c]) := fun _ => rfl
    have cb := fun st => cl_between (k := k - 1) (by omega) k1 k2 k3 st
    have nd := fun st => cl_num0 (k := k - 1) (by omega) k4 0 st
    have se := fun st => cl_sure_told (k := k - 1) (by omega) k5 st
    rw [callF_at p_is_row (by omega), run_at rfl]
    clear h
    generalize D.tup [.str (Str.ofString "watch"), a, b, c, d, e] = V at *
    cases c0 : betw a b c <;> cases c1 : isNum 0 none d <;> simp [ir_body, ct, ln, i0, i1, i2, i3, i4, i5, nk, ti, li, kd_ty, pl_str, ty_str', sl, cb, nd, se, c0, c1]
  · have e0 := fun st => eq_tup0 h (by omega) st
    have ln : ∀ st, biD .len [.tup [.str (Str.ofString "watch"), a, b, c, d, e]] st = .ok (.int 6) st := fun _ => rfl
    have i0 : ∀ st, ixD (.tup [.str (Str.ofString "watch"), a, b, c, d, e]) (.int 0) st = .ok (.str (Str.ofString "watch")) st := fun st => by rw [ix_tup, atI_0]; rfl
    have i1 : ∀ st, ixD (.tup [.str (Str.ofString "watch"), a, b, c, d, e]) (.int 1) st = .ok a st := fun st => by rw [ix_tup, atI_1]; rfl
    have i2 : ∀ st, ixD (.tup [.str (Str.ofString "watch"), a, b, c, d, e]) (.int 2) st = .ok b st := fun st => by rw [ix_tup, atI_2]; rfl
    have i3 : ∀ st, ixD (.tup [.str (Str.ofString "watch"), a, b, c, d, e]) (.int 3) st = .ok c st := fun st => by rw [ix_tup, atI_3]; rfl
    have i4 : ∀ st, ixD (.tup [.str (Str.ofString "watch"), a, b, c, d, e]) (.int 4) st = .ok d st := fun st => by rw [ix_tup, atI_4]; rfl
    have i5 : ∀ st, ixD (.tup [.str (Str.ofString "watch"), a, b, c, d, e]) (.int 5) st = .ok e st := fun st => by rw [ix_tup, atI_5]; rfl
    have ty : ∀ st, isTy (view st (.tup [.str (Str.ofString "watch"), a, b, c, d, e])) .tuple = true := fun _ => rfl
    have vp : ∀ st, isPl (view st (.tup [.str (Str.ofString "watch"), a, b, c, d, e])) = true := fun _ => rfl
    have ge := f.ge
    have em : ([.str (Str.ofString "watch"), a, b, c, d, e] : List D).isEmpty = false := rfl
    rw [em] at e0
    have na := fun st => cl_lnum (k := k - 1) (by omega) k1 (0) st
    have nb := fun st => cl_lnum (k := k - 1) (by omega) k2 (-1) st
    have nc := fun st => cl_lnum (k := k - 1) (by omega) k3 (0) st
    have nd := fun st => cl_lnum (k := k - 1) (by omega) k4 (0) st
    have se := fun st => cl_lsure (k := k - 1) (by omega) k5 st
    rw [callF_at p__law_is_row (by omega), run_at rfl]
    clear h em
    generalize D.tup [.str (Str.ofString "watch"), a, b, c, d, e] = V at *
    cases c0 : isNum 0 none a <;> cases c1 : isNum (-1) none b <;> cases c2 : isNon c <;> cases c3 : isNum 0 none c <;> cases c4 : isNum 0 none d <;> simp [lr_body, longs_ev, e0, ln, i0, i1, i2, i3, i4, i5, ty, vp, ge, get_ty, pl_str, ty_str', inD_def, flatD, eqF, str_beq, na, nb, nc, nd, se, betw, c0, c1, c2, c3, c4]
end
end K83

namespace K83
open PySem PyE
section
variable {k n : Nat}
theorem notin_kinds {w : Str} (h : w ∉ kindsS) (st : Store) : cmpD .notin (.str w) KD st = .ok (.bl true) st := by
  show opt (((inD (.str w) (kindsS.map D.str)).map (!·)).map D.bl) st = _
  have h1 : (kindsS.map D.str).all flatD = true := rfl
  have h2 : ((kindsS.map D.str).any fun y => eqF y (.str w)) = false := by
    rw [List.any_eq_false]
    intro y hy
    obtain ⟨s, hs, rfl⟩ := List.mem_map.mp hy
    have : s ≠ w := fun e => h (e ▸ hs)
    simp [eqF, this]
  rw [inD_def, if_pos ⟨rfl, h1⟩, h2]; rfl
theorem get_none {w : Str} (h : w ∉ kindsS) (st : Store) : mtD .get (.dct longsD) [.str w, .int 0] st = .ok (.int 0) st := by
  have hn : ∀ s, s ∈ kindsS → ¬ s = w := fun s hs e => h (e ▸ hs)
  have h0 := hn (Str.ofString "event") (by simp [kindsS])
  have h1 := hn (Str.ofString "ask") (by simp [kindsS])
  have h2 := hn (Str.ofString "facts") (by simp [kindsS])
  have h3 := hn (Str.ofString "slipped") (by simp [kindsS])
  have h4 := hn (Str.ofString "blame") (by simp [kindsS])
  have h5 := hn (Str.ofString "plan") (by simp [kindsS])
  have h6 := hn (Str.ofString "watch") (by simp [kindsS])
  have h7 := hn (Str.ofString "told") (by simp [kindsS])
  have h8 := hn (Str.ofString "seal") (by simp [kindsS])
  have h9 := hn (Str.ofString "cut") (by simp [kindsS])
  have : dget longsD (.str w) = none := by simp [longsD, dget, keq, sS, h0, h1, h2, h3, h4, h5, h6, h7, h8, h9]
  show guardB true (R.ok ((dget longsD (.str w)).getD (.int 0)) st) = _
  rw [this]; rfl
theorem same_out (hk : 5 ≤ k) {w : Str} {r : List D} (h : okv (n + 1) (.tup (.str w :: r)) = true) (hn : n ≤ 18) (hw : w ∉ kindsS) : Same k (.tup (.str w :: r)) := by
  have i0 : ∀ st, ixD (.tup (.str w :: r)) (.int 0) st = .ok (.str w) st := fun st => by rw [ix_tup, atI_0]; rfl
  have ln : ∀ st, biD .len [.tup (.str w :: r)] st = .ok (.int ((r.length : Nat) + 1 : Int)) st := fun _ => rfl
  have h0 : ¬ ((r.length : Nat) + 1 : Int) = 0 := by omega
  have h0' : ¬ 0 = ((r.length : Nat) + 1 : Int) := by omega
  refine ⟨false, ?_, ?_⟩
  · have ct := cl_is_tuple (k := k - 1) (by omega) _ h none
    simp only [oD_none] at ct
    have e1 : isTup none (.tup (.str w :: r)) = true := rfl
    rw [e1] at ct
    have nk := notin_kinds hw
    rw [callF_at p_is_row (by omega), run_at rfl]
    clear h
    generalize D.tup (.str w :: r) = V at *
    generalize ((r.length : Nat) + 1 : Int) = m at *
    simp [ir_body, ct, ln, i0, h0, nk, pl_str, ty_str']
  · have e0 := fun st => eq_tup0 h (by omega) st
    have ty : ∀ st, isTy (view st (.tup (.str w :: r))) .tuple = true := fun _ => rfl
    have vp : ∀ st, isPl (view st (.tup (.str w :: r))) = true := fun _ => rfl
    have ge := get_none hw
    have em : (D.str w :: r).isEmpty = false := rfl
    rw [em] at e0
    rw [callF_at p__law_is_row (by omega), run_at rfl]
    clear h em
    generalize D.tup (.str w :: r) = V at *
    generalize ((r.length : Nat) + 1 : Int) = m at *
    simp [lr_body, longs_ev, e0, ln, i0, ty, vp, h0', ge, get_ty, pl_str, ty_str']
theorem str_of {n : Nat} {y : D} (h : okv n y = true) : (∃ w, y = .str w) ∨ isTy y .str = false := by
  cases n with
  | zero => cases h
  | succ n => cases y <;> first | (exact .inr rfl) | (exact .inl ⟨_, rfl⟩) | cases h
theorem same_nostr (hk : 5 ≤ k) {y : D} {r : List D} (h : okv (n + 1) (.tup (y :: r)) = true) (hn : n ≤ 18) (hy : isTy y .str = false) : Same k (.tup (y :: r)) := by
  have ky := okv_el h (i := 0) rfl
  have py := okv_pl ky
  have vy := fun st => vw_okv ky st
  have i0 : ∀ st, ixD (.tup (y :: r)) (.int 0) st = .ok y st := fun st => by rw [ix_tup, atI_0]; rfl
  have ln : ∀ st, biD .len [.tup (y :: r)] st = .ok (.int ((r.length : Nat) + 1 : Int)) st := fun _ => rfl
  have h0 : ¬ ((r.length : Nat) + 1 : Int) = 0 := by omega
  refine ⟨false, ?_, ?_⟩
  · have ct := cl_is_tuple (k := k - 1) (by omega) _ h none
    simp only [oD_none] at ct
    have e1 : isTup none (.tup (y :: r)) = true := rfl
    rw [e1] at ct
    rw [callF_at p_is_row (by omega), run_at rfl]
    clear h
    generalize D.tup (y :: r) = V at *
    generalize ((r.length : Nat) + 1 : Int) = m at *
    simp [ir_body, ct, ln, i0, h0, py, vy, hy]
  · have e0 := fun st => eq_tup0 h (by omega) st
    have ty : ∀ st, isTy (view st (.tup (y :: r))) .tuple = true := fun _ => rfl
    have vp : ∀ st, isPl (view st (.tup (y :: r))) = true := fun _ => rfl
    have em : (y :: r).isEmpty = false := rfl
    rw [em] at e0
    rw [callF_at p__law_is_row (by omega), run_at rfl]
    clear h em
    generalize D.tup (y :: r) = V at *
    simp [lr_body, longs_ev, e0, i0, ty, vp, py, vy, hy]
theorem same_nil (hk : 5 ≤ k) (hn : n ≤ 18) : Same k (.tup []) := by
  have h : okv 1 (.tup []) = true := rfl
  refine ⟨false, ?_, ?_⟩
  · have ct := cl_is_tuple (k := k - 1) (by omega) _ h none
    simp only [oD_none] at ct
    have e1 : isTup none (.tup []) = true := rfl
    rw [e1] at ct
    have ln : ∀ st, biD .len [.tup []] st = .ok (.int 0) st := fun _ => rfl
    rw [callF_at p_is_row (by omega), run_at rfl]
    generalize D.tup [] = V at *
    simp [ir_body, ct, ln]
  · have e0 := fun st => eq_tup0 h (by omega) st
    have ty : ∀ st, isTy (view st (.tup [])) .tuple = true := fun _ => rfl
    have vp : ∀ st, isPl (view st (.tup [])) = true := fun _ => rfl
    have em : ([] : List D).isEmpty = true := rfl
    rw [em] at e0
    rw [callF_at p__law_is_row (by omega), run_at rfl]
    simp [lr_body, longs_ev, e0, ty, vp, isPl, isTy]
theorem same_other (hk : 5 ≤ k) {v : D} (h : okv n v = true) (ht : ∀ xs, v ≠ .tup xs) : Same k v := by
  have pv := okv_pl h
  have vv := fun st => vw_okv h st
  have e1 : isTup none v = false := by cases v <;> first | rfl | exact absurd rfl (ht _)
  have e2 : isTy v .tuple = false := by rw [isTy_tup h, e1]
  refine ⟨false, ?_, ?_⟩
  · have ct := cl_is_tuple (k := k - 1) (by omega) _ h none
    simp only [oD_none] at ct
    rw [e1] at ct
    rw [callF_at p_is_row (by omega), run_at rfl]
    simp [ir_body, ct]
  · rw [callF_at p__law_is_row (by omega), run_at rfl]
    simp [lr_body, longs_ev, pv, vv, e2]
theorem same_all (hk : 5 ≤ k) {v : D} (h : okv (n + 1) v = true) (hn : n ≤ 18) : Same k v := by
  by_cases ht : ∃ xs, v = .tup xs
  · obtain ⟨xs, rfl⟩ := ht
    cases xs with
    | nil => exact same_nil (n := n) hk hn
    | cons y r =>
      rcases str_of (okv_el h (i := 0) rfl) with ⟨w, rfl⟩ | hy
      · by_cases hw : w ∈ kindsS
        · simp only [kindsS, List.map_cons, List.map_nil, List.mem_cons, List.not_mem_nil, or_false] at hw
          rcases hw with rfl | rfl | rfl | rfl | rfl | rfl | rfl | rfl | rfl | rfl
          · by_cases hl : r.length + 1 = 2
            · rcases r with _ | ⟨a, _ | ⟨z, r⟩⟩ <;> first | (simp at hl; done) | exact same_event hk h hn
            · exact same_mis hk h hn kf_event hl
          · by_cases hl : r.length + 1 = 5
            · rcases r with _ | ⟨a, _ | ⟨b, _ | ⟨c, _ | ⟨d, _ | ⟨z, r⟩⟩⟩⟩⟩ <;> first | (simp at hl; done) | exact same_ask hk h hn
            · exact same_mis hk h hn kf_ask hl
          · by_cases hl : r.length + 1 = 3
            · rcases r with _ | ⟨a, _ | ⟨b, _ | ⟨z, r⟩⟩⟩ <;> first | (simp at hl; done) | exact same_facts hk h hn
            · exact same_mis hk h hn kf_facts hl
          · by_cases hl : r.length + 1 = 2
            · rcases r with _ | ⟨a, _ | ⟨z, r⟩⟩ <;> first | (simp at hl; done) | exact same_slipped hk h hn
            · exact same_mis hk h hn kf_slipped hl
          · by_cases hl : r.length + 1 = 2
            · rcases r with _ | ⟨a, _ | ⟨z, r⟩⟩ <;> first | (simp at hl; done) | exact same_blame hk h hn
            · exact same_mis hk h hn kf_blame hl
          · by_cases hl : r.length + 1 = 5
            · rcases r with _ | ⟨a, _ | ⟨b, _ | ⟨c, _ | ⟨d, _ | ⟨z, r⟩⟩⟩⟩⟩ <;> first | (simp at hl; done) | exact same_plan hk h hn
            · exact same_mis hk h hn kf_plan hl
          · by_cases hl : r.length + 1 = 6
            · rcases r with _ | ⟨a, _ | ⟨b, _ | ⟨c, _ | ⟨d, _ | ⟨e, _ | ⟨z, r⟩⟩⟩⟩⟩⟩ <;> first | (simp at hl; done) | exact same_watch hk h hn
            · exact same_mis hk h hn kf_watch hl
          · by_cases hl : r.length + 1 = 3
            · rcases r with _ | ⟨a, _ | ⟨b, _ | ⟨z, r⟩⟩⟩ <;> first | (simp at hl; done) | exact same_told hk h hn
            · exact same_mis hk h hn kf_told hl
          · by_cases hl : r.length + 1 = 1
            · rcases r with _ | ⟨z, r⟩ <;> first | (simp at hl; done) | exact same_seal hk h hn
            · exact same_mis hk h hn kf_seal hl
          · by_cases hl : r.length + 1 = 1
            · rcases r with _ | ⟨z, r⟩ <;> first | (simp at hl; done) | exact same_cut hk h hn
            · exact same_mis hk h hn kf_cut hl
        · exact same_out hk h hn hw
      · exact same_nostr hk h hn hy
  · exact same_other hk h fun xs e => ht ⟨xs, e⟩
end
end K83

namespace K83
open PySem PyE
def oddsC : C := (.list (.cons (.lit .non) (.cons (.lit (.bl true)) (.cons (.lit (.bl false)) (.cons (.lit (.int 0)) (.cons (.lit (.int 1)) (.cons (.lit (.int 2)) (.cons (.bin .sub (.lit (.int 0)) (.lit (.int 1))) (.cons (.lit (.int 7)) (.cons (.tup .nil) (.cons (.tup (.cons (.lit (.int 0)) .nil)) (.cons (.tup (.cons (.lit (.int 1)) .nil)) (.cons (.tup (.cons (.tup .nil) .nil)) (.cons (.lit (.str (Str.ofString "leaf"))) (.cons (.lit (.str (Str.ofString "x"))) (.cons (.list (.cons (.lit (.int 0)) .nil)) .nil))))))))))))))))
theorem bent_body : c__law_bent = ⟨2, 5, (.cons (.asg (.name 2) (.call f__law_pick (.cons (.var 0) (.cons oddsC .nil)) [0] false)) (.cons (.ife (.or (.not (.isi (.var 1) [.tuple])) (.or (.cmp .eq (.var 1) (.tup .nil)) (.cmp .eq (.call f__law_take (.cons (.var 0) (.cons (.lit (.int 5)) .nil)) [0] false) (.lit (.int 0))))) (.cons (.ret (.var 2)) .nil) .nil) (.cons (.asg (.tup (.cons (.name 3) (.cons (.name 4) .nil))) (.tup (.cons (.call f__law_take (.cons (.var 0) (.cons (.bi .len (.cons (.var 1) .nil)) .nil)) [0] false) (.cons (.call f__law_take (.cons (.var 0) (.cons (.lit (.int 8)) .nil)) [0] false) .nil)))) (.cons (.ife (.cmp .eq (.var 4) (.lit (.int 0))) (.cons (.ret (.bin .add (.sl (.var 1) .none (.some (.var 3))) (.sl (.var 1) (.some (.bin .add (.var 3) (.lit (.int 1)))) .none))) .nil) .nil) (.cons (.ife (.cmp .eq (.var 4) (.lit (.int 1))) (.cons (.ret (.bin .add (.bin .add (.sl (.var 1) .none (.some (.var 3))) (.tup (.cons (.ix (.var 1) (.var 3)) .nil))) (.sl (.var 1) (.some (.var 3)) .none))) .nil) .nil) (.cons (.ife (.cmp .eq (.var 4) (.lit (.int 2))) (.cons (.ret (.bin .add (.bin .add (.sl (.var 1) .none (.some (.var 3))) (.tup (.cons (.ix (.var 1) (.call f__law_take (.cons (.var 0) (.cons (.bi .len (.cons (.var 1) .nil)) .nil)) [0] false)) .nil))) (.sl (.var 1) (.some (.bin .add (.var 3) (.lit (.int 1)))) .none))) .nil) .nil) (.cons (.ret (.bin .add (.bin .add (.sl (.var 1) .none (.some (.var 3))) (.tup (.cons (.call f__law_bent (.cons (.var 0) (.cons (.ix (.var 1) (.var 3)) .nil)) [0] false) .nil))) (.sl (.var 1) (.some (.bin .add (.var 3) (.lit (.int 1)))) .none))) .nil)))))))⟩ := rfl
def oddsL : List D := [.non, .bl true, .bl false, .int 0, .int 1, .int 2, .int (-1), .int 7, .tup [], .tup [.int 0], .tup [.int 1], .tup [.tup []], sS "leaf", sS "x", .lst [.int 0]]
theorem mkLst_15 (a b c d e f g h i j k l m n o : D) (st : Store) : mkLst [a, b, c, d, e, f, g, h, i, j, k, l, m, n, o] st = .ok (.lst [a, b, c, d, e, f, g, h, i, j, k, l, m, n, o]) st := mkLst_ok (by simp [line])
theorem odds_ev (cf : CallF) (en : En) (st : Store) : evE cf oddsC en st = .ok (.lst oddsL) st := by
  simp [oddsC, mkLst_15, oddsL, sS]
theorem odds_ok {x : D} (h : x ∈ oddsL) : okv 3 x = true := by
  have : oddsL.all (okv 3) = true := by decide +kernel
  exact List.all_eq_true.mp this x h
/-- what is bent: not long -/
def okr : Nat → D → Bool
  | 0, _ => false
  | n + 1, .tup xs => decide (xs.length ≤ 50) && xs.all (okr n)
  | _ + 1, .int i => decide (-10 ≤ i) && decide (i ≤ 1000)
  | _ + 1, .str s => decide (s.length ≤ 1000) && (PyData.str s).canLay0
  | _ + 1, .non => true
  | _ + 1, .bl _ => true
  | _ + 1, _ => false
theorem okr_okv : ∀ (n : Nat) (d : D), okr n d = true → okv n d = true
  | 0, _, h => by cases h
  | n + 1, .tup xs, h => by
    simp only [okr, Bool.and_eq_true, decide_eq_true_eq] at h
    simp only [okv, Bool.and_eq_true, decide_eq_true_eq]
    exact ⟨by omega, List.all_eq_true.mpr fun x hx => okr_okv n x (List.all_eq_true.mp h.2 x hx)⟩
  | n + 1, .int i, h => h
  | n + 1, .str i, h => h
  | n + 1, .non, h => h
  | n + 1, .bl _, h => h
  | n + 1, .lst _, h => by cases h
  | n + 1, .dct _, h => by cases h
  | n + 1, .ref _, h => by cases h
  | n + 1, .fn _ _, h => by cases h
theorem okv_up3 {n : Nat} {d : D} (h : okv n d = true) : okv (n + 3) d = true := okv_up _ _ (okv_up _ _ (okv_up _ _ h))
theorem okv_ge : ∀ {m n : Nat} {d : D}, m ≤ n → okv m d = true → okv n d = true
  | m, 0, d, hmn, h => by
    have : m = 0 := by omega
    subst this; exact h
  | m, n + 1, d, hmn, h => by
    by_cases e : m = n + 1
    · subst e; exact h
    · exact okv_up _ _ (okv_ge (by omega) h)
theorem okv_of {n : Nat} {xs : List D} (hl : xs.length ≤ 100) (h : ∀ x ∈ xs, okv n x = true) : okv (n + 1) (.tup xs) = true := by
  simp only [okv, Bool.and_eq_true, decide_eq_true_eq]
  exact ⟨hl, List.all_eq_true.mpr h⟩
theorem add_tup (a b : List D) (ha : a.length ≤ 1000) (hb : b.length ≤ 1000) (st : Store) : binD .add (.tup a) (.tup b) st = .ok (.tup (a ++ b)) st := bin_add_tup (by simp [line]; omega)
theorem ev_bent : ∀ (n : Nat) (v : D), okr n v = true → n ≤ 16 → ∀ k, n + 3 ≤ k → ∀ c, IsBox c → ∃ d c', callF prog k f__law_bent [.ref 0, v] [c] = .ok d [c'] ∧ IsBox c' ∧ okv (n + 3) d = true
  | 0, _, h, _, _, _, _, _ => by cases h
  | n + 1, v, h, hn, k, hk, c, hb => by
    have hov := okr_okv _ _ h
    have op : ∀ x ∈ oddsL, x.pure = true := fun x hx => okv_pure 3 x (odds_ok hx)
    obtain ⟨od, c1, p1, b1, m1⟩ := pick0 (k := k - 1) (by omega) hb oddsL (by simp [oddsL]) (by simp [oddsL]) op
    have ok3 := odds_ok m1
    by_cases ht : ∃ xs, v = .tup xs
    · obtain ⟨xs, rfl⟩ := ht
      have e0 := fun st => eq_tup0 hov (by omega) st
      have ty : ∀ st, isTy (view st (.tup xs)) .tuple = true := fun _ => rfl
      have vp : ∀ st, isPl (view st (.tup xs)) = true := fun _ => rfl
      by_cases hx : xs = []
      · subst hx
        refine ⟨od, c1, ?_, b1, okv_ge (by omega) ok3⟩
        have em : ([] : List D).isEmpty = true := rfl
        rw [em] at e0
        rw [callF_at p__law_bent (by omega), run_at rfl]
        simp [bent_body, odds_ev, p1, e0, ty, vp, isPl, isTy]
      · have em : xs.isEmpty = false := by cases xs <;> first | rfl | exact absurd rfl hx
        rw [em] at e0
        obtain ⟨f, c2, p2, b2, _, _⟩ := take0 (k := k - 1) (by omega) b1 5 (by decide) (by decide)
        by_cases hf : f = 0
        · subst hf
          refine ⟨od, c2, ?_, b2, okv_ge (by omega) ok3⟩
          rw [callF_at p__law_bent (by omega), run_at rfl]
          clear h hov
          generalize D.tup xs = V at *
          simp [bent_body, odds_ev, p1, e0, ty, vp, p2]
        · simp only [okr, Bool.and_eq_true, decide_eq_true_eq] at h
          obtain ⟨hl, ha⟩ := h
          have ha : ∀ x ∈ xs, okr n x = true := List.all_eq_true.mp ha
          have ha3 : ∀ x ∈ xs, okv (n + 3) x = true := fun x hx => okv_up3 (okr_okv n x (ha x hx))
          have hl0 : 0 < xs.length := List.length_pos_iff.mpr hx
          have ln : ∀ st, biD .len [.tup xs] st = .ok (.int (xs.length : Nat)) st := fun _ => rfl
          obtain ⟨s0, c3, p3, b3, s1, s2⟩ := take0 (k := k - 1) (by omega) b2 ((xs.length : Nat) : Int) (by omega) (by omega)
          obtain ⟨s, rfl⟩ : ∃ s : Nat, s0 = s := ⟨s0.toNat, by omega⟩
          obtain ⟨w, c4, p4, b4, w1, w2⟩ := take0 (k := k - 1) (by omega) b3 8 (by decide) (by decide)
          have hs : s < xs.length := by omega
          have tk : ∀ st, slB (.tup xs) none (some (s : Int)) st = some (.tup (xs.take s)) := fun st => by
            have := sl_take xs st (i := (s : Int)) (by omega)
            rw [Int.toNat_natCast] at this; exact this
          have dp0 : ∀ st, slB (.tup xs) (some (s : Int)) none st = some (.tup (xs.drop s)) := fun st => by
            have := sl_drop xs st (i := (s : Int)) (by omega)
            rw [Int.toNat_natCast] at this; exact this
          have dp : ∀ st, slB (.tup xs) (some ((s : Int) + 1)) none st = some (.tup (xs.drop (s + 1))) := fun st => by
            have := sl_drop xs st (i := (s : Int) + 1) (by omega)
            rw [show ((s : Int) + 1).toNat = s + 1 by omega] at this; exact this
          have ix : ∀ (i : Nat) (hi : i < xs.length) st, ixD (.tup xs) (.int (i : Int)) st = .ok xs[i] st := fun i hi st => by
            rw [ix_tup, atI_nn, List.getElem?_eq_getElem hi]; rfl
          have lt := List.length_take_le s xs
          have ld : (xs.drop s).length ≤ xs.length := by rw [List.length_drop]; omega
          have ld1 : (xs.drop (s + 1)).length ≤ xs.length := by rw [List.length_drop]; omega
          have lt' : (xs.take s).length = s := by rw [List.length_take]; omega
          have mt : ∀ x ∈ xs.take s, okv (n + 3) x = true := fun x hx => ha3 x (List.mem_of_mem_take hx)
          have md : ∀ i, ∀ x ∈ xs.drop i, okv (n + 3) x = true := fun i x hx => ha3 x (List.mem_of_mem_drop hx)
          have fin : ∀ (y : D) (i : Nat), okv (n + 3) y = true → okv (n + 4) (.tup (xs.take s ++ [y] ++ xs.drop i)) = true := fun y i hy => by
            refine okv_of ?_ fun x hx => ?_
            · simp only [List.length_append, List.length_singleton, List.length_drop, lt']; omega
            · rcases List.mem_append.mp hx with hx | hx
              · rcases List.mem_append.mp hx with hx | hx
                · exact mt x hx
                · rw [List.mem_singleton.mp hx]; exact hy
              · exact md i x hx
          have a0 := fun st => add_tup (xs.take s) (xs.drop (s + 1)) (by omega) (by omega) st
          have a1 := fun y st => add_tup (xs.take s) [y] (by omega) (by simp) st
          have a2 := fun y i st => add_tup (xs.take s ++ [y]) (xs.drop i) (by simp; omega) (by rw [List.length_drop]; omega) st
          have hy := ha3 _ (List.getElem_mem hs)
          have ixs := ix s hs
          rw [callF_at p__law_bent (by omega), run_at rfl]
          by_cases w0 : w = 0
          · subst w0
            refine ⟨.tup (xs.take s ++ xs.drop (s + 1)), c4, ?_, b4, ?_⟩
            · clear hov
              generalize xs.take s = A at *
              generalize xs.drop (s + 1) = B at *
              generalize D.tup xs = V at *
              generalize ((xs.length : Nat) : Int) = m at *
              simp [bent_body, odds_ev, p1, e0, ty, vp, p2, hf, ln, p3, p4, tk, dp, a0]
            · refine okv_of (by simp only [List.length_append, List.length_drop, lt']; omega) fun x hx => ?_
              rcases List.mem_append.mp hx with hx | hx
              · exact mt x hx
              · exact md _ x hx
          · by_cases w1' : w = 1
            · subst w1'
              have hfin := fin _ s hy
              refine ⟨.tup (xs.take s ++ [xs[s]] ++ xs.drop s), c4, ?_, b4, hfin⟩
              clear hov hfin fin mt hy
              have a2 := a2 xs[s] s
              have a1 := a1 xs[s]
              generalize xs[s] = y at *
              generalize xs.take s ++ [y] ++ xs.drop s = R at *
              generalize xs.take s ++ [y] = A1 at *
              generalize xs.take s = A at *
              generalize xs.drop s = B at *
              generalize D.tup xs = V at *
              generalize ((xs.length : Nat) : Int) = m at *
              simp [bent_body, odds_ev, p1, e0, ty, vp, p2, hf, ln, p3, p4, tk, dp0, a1, a2, ixs]
            · by_cases w2' : w = 2
              · subst w2'
                obtain ⟨u0, c5, p5, b5, u1, u2⟩ := take0 (k := k - 1) (by omega) b4 ((xs.length : Nat) : Int) (by omega) (by omega)
                obtain ⟨u, rfl⟩ : ∃ u : Nat, u0 = u := ⟨u0.toNat, by omega⟩
                have hu : u < xs.length := by omega
                have hfin := fin _ (s + 1) (ha3 _ (List.getElem_mem hu))
                refine ⟨.tup (xs.take s ++ [xs[u]] ++ xs.drop (s + 1)), c5, ?_, b5, hfin⟩
                have ixu := ix u hu
                clear hov hfin fin mt hy
                have a2 := a2 xs[u] (s + 1)
                have a1 := a1 xs[u]
                generalize xs[u] = y at *
                generalize xs.take s ++ [y] ++ xs.drop (s + 1) = R at *
                generalize xs.take s ++ [y] = A1 at *
                generalize xs.take s = A at *
                generalize xs.drop (s + 1) = B at *
                generalize D.tup xs = V at *
                generalize ((xs.length : Nat) : Int) = m at *
                simp [bent_body, odds_ev, p1, e0, ty, vp, p2, hf, ln, p3, p4, p5, tk, dp, a1, a2, ixu]
              · obtain ⟨z, c5, p5, b5, hz⟩ := ev_bent n xs[s] (ha _ (List.getElem_mem hs)) (by omega) (k - 1) (by omega) c4 b4
                have p5 : callIn (callF prog (k - 1)) f__law_bent [.ref 0, xs[s]] [0] false [c4] = .ok z [c5] :=
                  call_box (st := [c4]) (n := 0) rfl (box_pl b4) (by simp [okv_pure _ _ hy]) p5 rfl (box_pl b5) (okv_pure _ _ hz)
                have hfin := fin z (s + 1) hz
                refine ⟨.tup (xs.take s ++ [z] ++ xs.drop (s + 1)), c5, ?_, b5, hfin⟩
                clear hov hfin fin mt hy
                have a2 := a2 z (s + 1)
                have a1 := a1 z
                generalize xs[s] = y at *
                generalize xs.take s ++ [z] ++ xs.drop (s + 1) = R at *
                generalize xs.take s ++ [z] = A1 at *
                generalize xs.take s = A at *
                generalize xs.drop (s + 1) = B at *
                generalize D.tup xs = V at *
                generalize ((xs.length : Nat) : Int) = m at *
                simp [bent_body, odds_ev, p1, e0, ty, vp, p2, hf, ln, p3, p4, p5, w0, w1', w2', tk, dp, a1, a2, ixs]
    · have pv := okv_pl hov
      have vv := fun st => vw_okv hov st
      have e2 : isTy v .tuple = false := by
        rw [isTy_tup hov]
        cases v <;> first | rfl | exact absurd ⟨_, rfl⟩ ht
      refine ⟨od, c1, ?_, b1, okv_ge (by omega) ok3⟩
      rw [callF_at p__law_bent (by omega), run_at rfl]
      simp [bent_body, odds_ev, p1, pv, vv, e2]
end K83

namespace K83
open PySem PyE
theorem forms_all : (([0, 1, 2, 3] : List Int).all fun n => oth.all fun o => wds.all fun x => (formsOf n o x).all fun d => base.any fun b => D.beq b d) = true := by decide +kernel
theorem forms_base {n : Int} (h0 : 0 ≤ n) (h4 : n < 4) {o x : D} (ho : o ∈ oth) (hx : x ∈ wds) {d : D} (h : d ∈ formsOf n o x) : d ∈ base := by
  have hn : n ∈ ([0, 1, 2, 3] : List Int) := by
    have : n = 0 ∨ n = 1 ∨ n = 2 ∨ n = 3 := by omega
    rcases this with rfl | rfl | rfl | rfl <;> simp
  have h1 := List.all_eq_true.mp forms_all n hn
  have h2 := List.all_eq_true.mp h1 o ho
  have h3 := List.all_eq_true.mp h2 x hx
  have h4 := List.all_eq_true.mp h3 d h
  obtain ⟨b, hb, e⟩ := List.any_eq_true.mp h4
  rw [← PyE.beq_eq e]
  exact hb
theorem base_pl {d : D} (h : d ∈ base) : pl 6 d = true := by
  have : base.all (pl 6) = true := by decide +kernel
  exact List.all_eq_true.mp this d h
theorem base_okr {d : D} (h : d ∈ base) : okr 6 d = true := by
  have : base.all (okr 6) = true := by decide +kernel
  exact List.all_eq_true.mp this d h
theorem add_54 (a b c d e f g h i : D) (st : Store) : binD .add (.lst [a, b, c, d, e]) (.lst [f, g, h, i]) st = .ok (.lst [a, b, c, d, e, f, g, h, i]) st := by rw [bin_add_lst (by simp [line])]; rfl
theorem add_94 (a b c d e f g h i j k l m : D) (st : Store) : binD .add (.lst [a, b, c, d, e, f, g, h, i]) (.lst [j, k, l, m]) st = .ok (.lst [a, b, c, d, e, f, g, h, i, j, k, l, m]) st := by rw [bin_add_lst (by simp [line])]; rfl
theorem ev_form (k : Nat) (hk : 3 ≤ k) {c : D} (hb : IsBox c) : ∃ d c', callF prog k f__law_some_form [.ref 0] [c] = .ok d [c'] ∧ IsBox c' ∧ d ∈ base := by
  obtain ⟨n, c1, p1, b1, n0, n4⟩ := take0 (k := k - 1) (by omega) hb 4 (by decide) (by decide)
  obtain ⟨o, c2, p2, b2, m2⟩ := pick0 (k := k - 1) (by omega) b1 oth (by simp [oth]) (by simp [oth]) (by decide)
  obtain ⟨x, c3, p3, b3, m3⟩ := pick0 (k := k - 1) (by omega) b2 wds (by simp [wds]) (by simp [wds]) (by decide)
  have pf : ∀ d ∈ formsOf n o x, d.pure = true := fun d hd => pl_pure 6 d (base_pl (forms_base n0 n4 m2 m3 hd))
  obtain ⟨d, c4, p4, b4, m4⟩ := pick0 (k := k - 1) (by omega) b3 (formsOf n o x) (by simp [formsOf]) (by simp [formsOf]) pf
  refine ⟨d, c4, ?_, b4, forms_base n0 n4 m2 m3 m4⟩
  rw [callF_at p__law_some_form (by omega), run_at rfl]
  simp only [oth] at p2
  simp only [wds, sS] at p3
  simp only [formsOf, sS] at p4
  simp [c__law_some_form, p1, p2, p3, add_54, add_94, p4]
theorem cl_form {k : Nat} (hk : 3 ≤ k) {c : D} (hb : IsBox c) : ∃ d c', callIn (callF prog k) f__law_some_form [.ref 0] [0] false [c] = .ok d [c'] ∧ IsBox c' ∧ d ∈ base := by
  obtain ⟨d, c', e, b, m⟩ := ev_form k hk hb
  exact ⟨d, c', call_box (st := [c]) (n := 0) rfl (box_pl hb) rfl e rfl (box_pl b) (pl_pure 6 d (base_pl m)), b, m⟩
theorem cl_bent {n : Nat} {v : D} (h : okr n v = true) (hn : n ≤ 16) {k : Nat} (hk : n + 3 ≤ k) {c : D} (hb : IsBox c) : ∃ d c', callIn (callF prog k) f__law_bent [.ref 0, v] [0] false [c] = .ok d [c'] ∧ IsBox c' ∧ okv (n + 3) d = true := by
  obtain ⟨d, c', e, b, m⟩ := ev_bent n v h hn k hk c hb
  exact ⟨d, c', call_box (st := [c]) (n := 0) rfl (box_pl hb) (by simp [okv_pure _ _ (okr_okv _ _ h)]) e rfl (box_pl b) (okv_pure _ _ m), b, m⟩
end K83

namespace K83
open PySem PyE
def sl0 : S := (.asg (.name 2) (.call f__law_box (.cons (.var 0) (.cons (.var 1) .nil)) [] true))
def sl1 : S := (.asg (.name 3) (.bi .tuple (.cons (.lc [13] (.name 13) (.range1 (.bin .add (.lit (.int 1)) (.call f__law_take (.cons (.var 2) (.cons (.lit (.int 6)) .nil)) [0] false))) .none (.call f__law_some_form (.cons (.var 2) .nil) [0] false)) .nil)))
def sl2 : S := (.for_ (.name 4) (.val (.var 3)) [4, 12] b_law_2)
def sl3 : S := (.asg (.name 5) (.call f_journal_octets (.cons (.var 3) .nil) [] false))
def sl4 : S := (.ife (.or (.not (.call f__law_same (.cons (.call f_read_journal (.cons (.var 5) .nil) [] false) (.cons (.tup (.cons (.var 3) (.cons (.lit .non) .nil))) .nil)) [] false)) (.not (.call f__law_same (.cons (.call f_journal_octets (.cons (.tup .nil) .nil) [] false) (.cons (.tup .nil) .nil)) [] false))) (.cons (.ret (.lit (.bl false))) .nil) .nil)
def sl5 : S := (.asg (.name 6) (.mut (.list (.cons (.lit (.int 0)) .nil))))
def sl6 : S := (.for_ (.name 4) (.val (.var 3)) [4] b_law_0)
def sl7 : S := (.ife (.cmp .ne (.ix (.var 6) (.bin .sub (.bi .len (.cons (.var 6) .nil)) (.lit (.int 1)))) (.bi .len (.cons (.var 5) .nil))) (.cons (.ret (.lit (.bl false))) .nil) .nil)
def sl8 : S := (.asg (.name 7) (.call f__law_take (.cons (.var 2) (.cons (.bin .add (.bi .len (.cons (.var 5) .nil)) (.lit (.int 1))) .nil)) [0] false))
def sl9 : S := (.asg (.name 8) (.bi .len (.cons (.lc [14] (.name 14) (.val (.sl (.var 6) (.some (.lit (.int 1))) .none)) (.some (.cmp .le (.var 14) (.var 7))) (.var 14)) .nil)))
def sl10 : S := (.ife (.not (.call f__law_same (.cons (.call f_read_journal (.cons (.sl (.var 5) .none (.some (.var 7))) .nil) [] false) (.cons (.tup (.cons (.sl (.var 3) .none (.some (.var 8))) (.cons (.ife (.cmp .in_ (.var 7) (.var 6)) (.lit .non) (.tup (.cons (.lit (.str (Str.ofString "torn"))) (.cons (.var 8) .nil)))) .nil))) .nil)) [] false)) (.cons (.ret (.lit (.bl false))) .nil) .nil)
def sl11 : S := (.asg (.name 9) (.call f__law_take (.cons (.var 2) (.cons (.bi .len (.cons (.var 5) .nil)) .nil)) [0] false))
def sl12 : S := (.asg (.name 10) (.bin .add (.bin .add (.sl (.var 5) .none (.some (.var 9))) (.tup (.cons (.bin .mod (.bi .int (.cons (.bin .add (.bin .add (.ix (.var 5) (.var 9)) (.lit (.int 1))) (.call f__law_take (.cons (.var 2) (.cons (.lit (.int 255)) .nil)) [0] false)) .nil)) (.lit (.int 256))) .nil))) (.sl (.var 5) (.some (.bin .add (.var 9) (.lit (.int 1)))) .none)))
def sl13 : S := (.asg (.name 11) (.bi .len (.cons (.lc [14] (.name 14) (.val (.sl (.var 6) (.some (.lit (.int 1))) .none)) (.some (.cmp .le (.var 14) (.var 9))) (.var 14)) .nil)))
def sl14 : S := (.ife (.not (.call f__law_same (.cons (.call f_read_journal (.cons (.var 10) .nil) [] false) (.cons (.tup (.cons (.sl (.var 3) .none (.some (.var 11))) (.cons (.tup (.cons (.lit (.str (Str.ofString "changed"))) (.cons (.var 11) .nil))) .nil))) .nil)) [] false)) (.cons (.ret (.lit (.bl false))) .nil) .nil)
theorem b3_eq : b_law_3 = (.cons sl0 (.cons sl1 (.cons sl2 (.cons sl3 (.cons sl4 (.cons sl5 (.cons sl6 (.cons sl7 (.cons sl8 (.cons sl9 (.cons sl10 (.cons sl11 (.cons sl12 (.cons sl13 (.cons sl14 .nil))))))))))))))) := rfl
def LE (S : D) (kk : Nat) (a2 a3 a5 a6 a7 a8 a9 a10 a11 : Option D) : En := [some S, some (.int (kk : Nat)), a2, a3, none, a5, a6, a7, a8, a9, a10, a11, none, none, none]
/-- one value is told the same by both -/
theorem val_step {n : Nat} {v : D} (h : okv (n + 1) v = true) (hn : n ≤ 18) (S : D) (kk : Nat) (a2 a3 a4 a5 a6 a7 a8 a9 a10 a11 : Option D) (st : Store) :
    stepR (asT (callF prog 29) (.name 12)) (evSs (callF prog 29) b_law_1) [12] st.length [] v [some S, some (.int (kk : Nat)), a2, a3, a4, a5, a6, a7, a8, a9, a10, a11, none, none, none] st = .ok [some S, some (.int (kk : Nat)), a2, a3, a4, a5, a6, a7, a8, a9, a10, a11, none, none, none] st := by
  obtain ⟨b, e1, e2⟩ := same_all (k := 29) (by decide) h hn
  have hp := okv_pure _ _ h
  have c1 : ∀ st, callIn (callF prog 29) f_is_row [v] [] false st = .ok (.bl b) st := fun st => call_pure (by simp [hp]) e1 rfl
  have c2 : ∀ st, callIn (callF prog 29) f__law_is_row [v] [] false st = .ok (.bl b) st := fun st => call_pure (by simp [hp]) e2 rfl
  have c3 : ∀ st, callIn (callF prog 29) f__law_same [.bl b, .bl b] [] false st = .ok (.bl true) st := fun st => cl_same (n := 1) (by decide) (.bl b) rfl st
  simp [stepR, b_law_1, c1, c2, c3]
theorem base_shape {d : D} (h : d ∈ base) : ∃ w r, d = .tup (.str w :: r) := ⟨_, _, (bs_ok h).shape⟩
theorem what_okv : okv 10 (.tup [.str (Str.ofString "what")]) = true := by decide +kernel
theorem lst_okv {n : Nat} {xs : List D} (h : okv (n + 1) (.tup xs) = true) : okv (n + 1) (.lst xs) = true := h
theorem row_step {d : D} (hd : d ∈ base) {c : D} (hb : IsBox c) (S : D) (kk : Nat) (a3 a5 a6 a7 a8 a9 a10 a11 : Option D) :
    ∃ c', IsBox c' ∧ stepR (asT (callF prog 29) (.name 4)) (evSs (callF prog 29) b_law_2) [4, 12] 1 [] d (LE S kk (some (.ref 0)) a3 a5 a6 a7 a8 a9 a10 a11) [c] = .ok (LE S kk (some (.ref 0)) a3 a5 a6 a7 a8 a9 a10 a11) [c'] := by
  have h := base_okr hd
  obtain ⟨v1, c1, e1, b1, o1⟩ := cl_bent (k := 29) h (by decide) (by decide) hb
  obtain ⟨v2, c2, e2, b2, o2⟩ := cl_bent (k := 29) h (by decide) (by decide) b1
  obtain ⟨v3, c3, e3, b3, o3⟩ := cl_bent (k := 29) h (by decide) (by decide) b2
  obtain ⟨w, r, rfl⟩ := base_shape hd
  have ov : okv 9 (.tup (.str w :: r)) = true := okv_ge (by decide) (okr_okv _ _ h)
  have ol : okv 9 (.lst (.str w :: r)) = true := lst_okv ov
  have li : ∀ st, biD .list [.tup (.str w :: r)] st = .ok (.lst (.str w :: r)) st := fun _ => rfl
  have lp : forR (asT (callF prog 29) (.name 12)) (evSs (callF prog 29) b_law_1) [12] 1 [] [.tup (.str w :: r), v1, v2, v3, .lst (.str w :: r), .tup [.str (Str.ofString "what")]] [some S, some (.int (kk : Nat)), some (.ref 0), a3, some (.tup (.str w :: r)), a5, a6, a7, a8, a9, a10, a11, none, none, none] [c3] = .ok (.nx, [some S, some (.int (kk : Nat)), some (.ref 0), a3, some (.tup (.str w :: r)), a5, a6, a7, a8, a9, a10, a11, none, none, none]) [c3] := for_same _ fun x hx => by
    simp only [List.mem_cons, List.not_mem_nil, or_false] at hx
    rcases hx with rfl | rfl | rfl | rfl | rfl | rfl
    · exact val_step (n := 8) ov (by decide) _ _ _ _ _ _ _ _ _ _ _ _ [c3]
    · exact val_step (n := 8) o1 (by decide) _ _ _ _ _ _ _ _ _ _ _ _ [c3]
    · exact val_step (n := 8) o2 (by decide) _ _ _ _ _ _ _ _ _ _ _ _ [c3]
    · exact val_step (n := 8) o3 (by decide) _ _ _ _ _ _ _ _ _ _ _ _ [c3]
    · exact val_step (n := 8) ol (by decide) _ _ _ _ _ _ _ _ _ _ _ _ [c3]
    · exact val_step (n := 9) what_okv (by decide) _ _ _ _ _ _ _ _ _ _ _ _ [c3]
  refine ⟨c3, b3, ?_⟩
  clear ov ol o1 o2 o3 h hd
  generalize D.tup (.str w :: r) = V at *
  generalize D.lst (.str w :: r) = W at *
  simp [stepR, b_law_2, LE, e1, e2, e3, li, lp]
theorem st2 {ds : List D} (hd : ∀ d ∈ ds, d ∈ base) {c : D} (hb : IsBox c) (S : D) (kk : Nat) : ∃ c', IsBox c' ∧ evS (callF prog 29) sl2 (LE S kk (some (.ref 0)) (some (.tup ds)) none none none none none none none) [c] = .ok (.nx, LE S kk (some (.ref 0)) (some (.tup ds)) none none none none none none none) [c'] := by
  obtain ⟨en', st', lp, rfl, c', rfl, b'⟩ := for_ex (asg := asT (callF prog 29) (.name 4)) (body := evSs (callF prog 29) b_law_2) (ws := [4, 12]) (n := 1) (g := []) (fun _ en st => en = LE S kk (some (.ref 0)) (some (.tup ds)) none none none none none none none ∧ ∃ c, st = [c] ∧ IsBox c) ds _ [c] ⟨rfl, c, rfl, hb⟩ (fun j x en st hx hi => by
    obtain ⟨rfl, c, rfl, hb⟩ := hi
    obtain ⟨c', b', e⟩ := row_step (hd x (List.mem_of_getElem? hx)) hb S kk (some (.tup ds)) none none none none none none none
    exact ⟨_, [c'], e, rfl, c', rfl, b'⟩)
  refine ⟨c', b', ?_⟩
  simp only [LE] at lp ⊢
  simp [sl2, lp]
theorem st1 {c : D} (hb : IsBox c) (S : D) (kk : Nat) : ∃ ds c', IsBox c' ∧ (∀ d ∈ ds, d ∈ base) ∧ 1 ≤ ds.length ∧ ds.length ≤ 6 ∧ evS (callF prog 29) sl1 (LE S kk (some (.ref 0)) none none none none none none none none) [c] = .ok (.nx, LE S kk (some (.ref 0)) (some (.tup ds)) none none none none none none none) [c'] := by
  obtain ⟨t, c1, e1, b1, t0, t6⟩ := take0 (k := 29) (by decide) hb 6 (by decide) (by decide)
  have rg : rgOk (1 + t) = true := by simp [rgOk]; omega
  have cx : ∃ zs st', evE (callF prog 29) (.lc [13] (.name 13) (.range1 (.bin .add (.lit (.int 1)) (.call f__law_take (.cons (.var 2) (.cons (.lit (.int 6)) .nil)) [0] false))) .none (.call f__law_some_form (.cons (.var 2) .nil) [0] false)) (LE S kk (some (.ref 0)) none none none none none none none none) [c] = .ok (.lst zs) st' ∧ BoxSt st' ∧ (∀ z ∈ zs, z ∈ base) ∧ zs.length = (rangeD 0 (1 + t).toNat).length := by
    simp only [LE]
    simp [e1, rg]
    refine fold_lst1 (items := rangeD 0 (1 + t).toNat) BoxSt (fun z => z ∈ base) (fun _ => True) (fun _ _ => trivial) ⟨c1, rfl, b1⟩ (by simp [rangeD, line]; omega) fun x acc st _ ⟨c, hs, hc⟩ hl' => ?_
    subst hs
    have hl'' : acc.length < 16777216 := hl'
    obtain ⟨d, c2, e2, b2, m2⟩ := cl_form (k := 29) (by decide) hc
    exact ⟨d, [c2], by simp [e2, line, hl''], ⟨c2, rfl, b2⟩, m2⟩
  obtain ⟨zs, st', e2, ⟨c2, rfl, b2⟩, hz, hzl⟩ := cx
  have tp : ∀ st, biD .tuple [.lst zs] st = .ok (.tup zs) st := fun _ => rfl
  refine ⟨zs, c2, b2, hz, by rw [hzl]; simp [rangeD]; omega, by rw [hzl]; simp [rangeD]; omega, ?_⟩
  simp only [LE] at e2 ⊢
  simp [sl1, -e_evE_lc, e2, tp]
end K83

namespace K83
open PySem PyE
section
variable {ds : List D} (hd : ∀ d ∈ ds, d ∈ base) (h1 : 1 ≤ ds.length) (h6 : ds.length ≤ 6)
def FF (ds : List D) : List Nat := ds.flatMap fM
include hd h6 in
theorem FF_len : (FF ds).length ≤ 402 := by
  have := flat_len hd
  unfold FF; omega
include hd h1 in
theorem FF_pos : 0 < (FF ds).length := by
  cases ds with
  | nil => simp at h1
  | cons d ds =>
    have := fM_len (hd d List.mem_cons_self)
    simp only [FF, List.flatMap_cons, List.length_append]; omega
include hd h6 in
theorem st3 (S : D) (kk : Nat) (st : Store) : evS (callF prog 29) sl3 (LE S kk (some (.ref 0)) (some (.tup ds)) none none none none none none none) st = .ok (.nx, LE S kk (some (.ref 0)) (some (.tup ds)) (some (.tup (octD (FF ds)))) none none none none none none) st := by
  have c := fun st => cl_octets ds hd (by omega) st
  have c : ∀ st, callIn (callF prog 29) f_journal_octets [.tup ds] [] false st = .ok (.tup (octD (FF ds))) st := c
  generalize octD (FF ds) = O at *
  simp [sl3, LE, c]
theorem pl_up : ∀ (n : Nat) (d : D), pl n d = true → pl (n + 1) d = true
  | 0, _, h => by cases h
  | n + 1, .tup xs, h => List.all_eq_true.mpr fun x hx => pl_up n x (List.all_eq_true.mp h x hx)
  | n + 1, .non, _ => rfl
  | n + 1, .bl _, _ => rfl
  | n + 1, .int _, _ => rfl
  | n + 1, .str _, _ => rfl
  | n + 1, .lst _, h => by cases h
  | n + 1, .dct _, h => by cases h
  | n + 1, .ref _, h => by cases h
  | n + 1, .fn _ _, h => by cases h
theorem tl_pl (t : Tl) (n : Nat) : pl 7 (t.d n) = true := by cases t <;> rfl
theorem rows_pl {xs : List D} (h : ∀ d ∈ xs, d ∈ base) (t : Tl) (n : Nat) : pl 8 (.tup [.tup xs, t.d n]) = true := by
  have h1 : xs.all (pl 6) = true := List.all_eq_true.mpr fun x hx => base_pl (h x hx)
  have h2 := tl_pl t n
  show ([D.tup xs, t.d n].all (pl 7)) = true
  simp only [List.all_cons, List.all_nil, Bool.and_true, Bool.and_eq_true]
  exact ⟨h1, h2⟩
include hd h6 in
theorem st4 (S : D) (kk : Nat) (st : Store) : evS (callF prog 29) sl4 (LE S kk (some (.ref 0)) (some (.tup ds)) (some (.tup (octD (FF ds)))) none none none none none none) st = .ok (.nx, LE S kk (some (.ref 0)) (some (.tup ds)) (some (.tup (octD (FF ds)))) none none none none none none) st := by
  have hl := FF_len hd h6
  have c := fun st => cl_read (FF ds) (by omega) ds hd (by omega) (fr_whole ds) st
  have c : ∀ st, callIn (callF prog 29) f_read_journal [.tup (octD (FF ds))] [] false st = .ok (.tup [.tup ds, .non]) st := c
  have c2 : ∀ st, callIn (callF prog 29) f_journal_octets [.tup []] [] false st = .ok (.tup []) st := fun st => cl_octets [] (by simp) (by simp) st
  have s1 : ∀ st, callIn (callF prog 29) f__law_same [.tup [.tup ds, .non], .tup [.tup ds, .non]] [] false st = .ok (.bl true) st := fun st => cl_same (n := 8) (by decide) _ (rows_pl hd .none 0) st
  have s2 : ∀ st, callIn (callF prog 29) f__law_same [.tup [], .tup []] [] false st = .ok (.bl true) st := fun st => cl_same (n := 2) (by decide) _ rfl st
  generalize octD (FF ds) = O at *
  simp [sl4, LE, c, c2, s1, s2]
theorem st5 (S : D) (kk : Nat) (c : D) (ds : List D) (O : D) : evS (callF prog 29) sl5 (LE S kk (some (.ref 0)) (some (.tup ds)) (some O) none none none none none none) [c] = .ok (.nx, LE S kk (some (.ref 0)) (some (.tup ds)) (some O) (some (.ref 1)) none none none none none) [c, .lst [.int 0]] := by
  simp [sl5, LE]
end
/-- the ends, told one by one -/
theorem ends_loop (S : D) (kk : Nat) (Rw O c : D) : ∀ (ds : List D) (acc : List Nat) (s : Nat), (∀ d ∈ ds, d ∈ base) → acc.length + ds.length ≤ 1000 →
    forR (asT (callF prog 29) (.name 4)) (evSs (callF prog 29) b_law_0) [4] 2 [] ds (LE S kk (some (.ref 0)) (some Rw) (some O) (some (.ref 1)) none none none none none) [c, .lst (octD (acc ++ [s]))] = .ok (.nx, LE S kk (some (.ref 0)) (some Rw) (some O) (some (.ref 1)) none none none none none) [c, .lst (octD (acc ++ [s] ++ endsM s ds))]
  | [], acc, s, _, _ => by simp [forR, endsM]
  | d :: ds, acc, s, h, hl => by
    rw [List.length_cons] at hl
    have hd := h d List.mem_cons_self
    have ih := ends_loop S kk Rw O c ds (acc ++ [s]) (s + (fM d).length) (fun x hx => h x (List.mem_cons_of_mem _ hx)) (by simp; omega)
    have e1 : acc ++ [s] ++ [s + (fM d).length] ++ endsM (s + (fM d).length) ds = acc ++ [s] ++ endsM s (d :: ds) := by simp [endsM]
    rw [e1] at ih
    rw [for_step (en' := LE S kk (some (.ref 0)) (some Rw) (some O) (some (.ref 1)) none none none none none) (st' := [c, .lst (octD (acc ++ [s] ++ [s + (fM d).length]))]) ?h]
    · exact ih
    · have co : ∀ st, callIn (callF prog 29) f_journal_octets [.tup [d]] [] false st = .ok (.tup (octD (fM d))) st := fun st => by
        have := cl_octets [d] (by simpa using hd) (by simp) st
        simpa using this
      have ln := len_oct (fM d)
      have al : (acc ++ [s]).length < 16777216 := by simp; omega
      have le : ∀ (xs : List D), biD .len [.ref 1] [c, .lst xs] = .ok (.int (xs.length : Nat)) [c, .lst xs] := fun _ => rfl
      have le' := le (octD (acc ++ [s]))
      rw [octD_len] at le'
      have ei : (((acc ++ [s]).length : Nat) : Int) - 1 = (acc.length : Nat) := by simp
      have ix : ixD (.ref 1) (.int (acc.length : Nat)) [c, .lst (octD (acc ++ [s]))] = .ok (.int (s : Nat)) [c, .lst (octD (acc ++ [s]))] := by
        show opt (L2.atI (octD (acc ++ [s])) (acc.length : Int)) _ = _
        rw [atI_nn]
        simp [octD]
      have ap : mtD .append (.ref 1) [.int ((s : Int) + ((fM d).length : Int))] [c, .lst (octD (acc ++ [s]))] = .ok .non [c, .lst (octD (acc ++ [s] ++ [s + (fM d).length]))] := by
        show guardB (decide ((octD (acc ++ [s])).length < line)) (R.ok D.non [c, .lst (octD (acc ++ [s]) ++ [.int ((s : Int) + ((fM d).length : Int))])]) = _
        rw [decide_eq_true (by rw [octD_len]; simp [line]; omega), octD_app _ [s + _]]
        rfl
      simp only [LE]
      clear ih e1
      generalize octD (acc ++ [s] ++ [s + (fM d).length]) = A2 at *
      generalize octD (acc ++ [s]) = A at *
      generalize octD (fM d) = P at *
      generalize (((acc ++ [s]).length : Nat) : Int) = m at *
      simp [stepR, b_law_0, co, ln, le', ei, ix, ap]
end K83

namespace K83
open PySem PyE
def EN (ds : List D) : List Nat := 0 :: endsM 0 ds
theorem EN_len (ds : List D) : (EN ds).length = ds.length + 1 := by simp [EN, ends_len]
theorem ends_last : ∀ (ds : List D) (s : Nat), (s :: endsM s ds)[ds.length]? = some (s + (ds.flatMap fM).length)
  | [], s => by simp
  | d :: ds, s => by
    have := ends_last ds (s + (fM d).length)
    unfold endsM
    rw [List.length_cons, List.getElem?_cons_succ, this, List.flatMap_cons, List.length_append]
    congr 1; omega
abbrev LP (S : D) (kk : Nat) (ds : List D) (a7 a8 a9 a10 a11 : Option D) : En := LE S kk (some (.ref 0)) (some (.tup ds)) (some (.tup (octD (FF ds)))) (some (.ref 1)) a7 a8 a9 a10 a11
abbrev LS (c : D) (ds : List D) : Store := [c, .lst (octD (EN ds))]
section
variable {ds : List D} (hd : ∀ d ∈ ds, d ∈ base) (h1 : 1 ≤ ds.length) (h6 : ds.length ≤ 6)
include hd h6 in
theorem st6 (S : D) (kk : Nat) (c : D) : evS (callF prog 29) sl6 (LP S kk ds none none none none none) [c, .lst [.int 0]] = .ok (.nx, LP S kk ds none none none none none) (LS c ds) := by
  have lp := ends_loop S kk (.tup ds) (.tup (octD (FF ds))) c ds [] 0 hd (by simp; omega)
  have e0 : octD ([] ++ [0]) = [D.int 0] := rfl
  have e1 : octD ([] ++ [0] ++ endsM 0 ds) = octD (EN ds) := rfl
  rw [e0, e1] at lp
  simp only [LP, LS, LE] at lp ⊢
  generalize octD (EN ds) = E at *
  generalize octD (FF ds) = O at *
  simp [sl6, lp]
theorem st7 (S : D) (kk : Nat) (c : D) : evS (callF prog 29) sl7 (LP S kk ds none none none none none) (LS c ds) = .ok (.nx, LP S kk ds none none none none none) (LS c ds) := by
  have le : biD .len [.ref 1] (LS c ds) = .ok (.int ((ds.length : Nat) + 1 : Int)) (LS c ds) := by
    show R.ok (D.int ((octD (EN ds)).length : Nat)) _ = _
    rw [octD_len, EN_len]; rfl
  have ix : ixD (.ref 1) (.int (ds.length : Nat)) (LS c ds) = .ok (.int ((FF ds).length : Nat)) (LS c ds) := by
    show opt (L2.atI (octD (EN ds)) (ds.length : Int)) _ = _
    rw [atI_nn]
    have := ends_last ds 0
    have h2 : (octD (EN ds))[ds.length]? = some (.int ((FF ds).length : Nat)) := by
      simp only [octD, EN, List.getElem?_map]
      rw [this, Nat.zero_add]; rfl
    rw [h2]; rfl
  have ln := len_oct (FF ds)
  simp only [LP, LE]
  generalize LS c ds = st at *
  generalize octD (FF ds) = O at *
  generalize (((FF ds).length : Nat) : Int) = t at *
  generalize ((ds.length : Nat) : Int) = m at *
  have em : m + 1 - 1 = m := by omega
  simp [sl7, le, em, ix, ln]
theorem st8 (S : D) (kk : Nat) {c : D} (hb : IsBox c) (hF : (FF ds).length ≤ 1000) : ∃ (cut : Nat) (c' : D), IsBox c' ∧ cut ≤ (FF ds).length ∧ evS (callF prog 29) sl8 (LP S kk ds none none none none none) (LS c ds) = .ok (.nx, LP S kk ds (some (.int (cut : Nat))) none none none none) (LS c' ds) := by
  obtain ⟨d, c', e, b, d0, d1⟩ := take_ok (k := 29) (by decide) (st := LS c ds) (n := 0) rfl hb (((FF ds).length : Nat) + 1 : Int) (by omega) (by omega)
  obtain ⟨n, rfl⟩ : ∃ n : Nat, d = n := ⟨d.toNat, by omega⟩
  have e : callIn (callF prog 29) f__law_take [.ref 0, .int (((FF ds).length : Nat) + 1 : Int)] [0] false (LS c ds) = .ok (.int (n : Nat)) (LS c' ds) := e
  refine ⟨n, c', b, by omega, ?_⟩
  have ln := len_oct (FF ds)
  simp only [LP, LE]
  generalize LS c ds = st at *
  generalize LS c' ds = st' at *
  generalize octD (FF ds) = O at *
  generalize (((FF ds).length : Nat) : Int) = t at *
  simp [sl8, e, ln]
def cnt (ds : List D) (n : Nat) : Nat := ((endsM 0 ds).filter fun e => decide (e ≤ n)).length
theorem sl_ends (c : D) (ds : List D) : slB (.ref 1) (some 1) none (LS c ds) = some (.lst (octD (endsM 0 ds))) := by
  show some (D.lst (cut (octD (EN ds)) (some 1) none)) = _
  rw [cut_drop _ (by decide)]
  rfl
theorem cnt_map (n : Nat) (ds : List D) : ((endsM 0 ds).filterMap fun e => if decide (e ≤ n) = true then some e else none).length = cnt ds n := by
  rw [filterMap_if]; rfl
include h6 in
theorem cnt7 (S : D) (kk : Nat) (n : Nat) (c : D) (a8 a9 a10 a11 : Option D) : evE (callF prog 29) (.lc [14] (.name 14) (.val (.sl (.var 6) (.some (.lit (.int 1))) .none)) (.some (.cmp .le (.var 14) (.var 7))) (.var 14)) (LP S kk ds (some (.int (n : Nat))) a8 a9 a10 a11) (LS c ds) = .ok (.lst (((endsM 0 ds).filterMap fun e => if decide (e ≤ n) = true then some e else none).map fun e => D.int ((e : Nat) : Int))) (LS c ds) := by
  have sl := sl_ends c ds
  have ht : ∀ (e : Nat) st, cmpD .le (.int (e : Int)) (.int (n : Int)) st = .ok (.bl (decide (e ≤ n))) st := fun e st => by
    rw [cmp_le]
    congr 2
    rw [Bool.eq_iff_iff]; simp
  simp only [LP, LE]
  generalize LS c ds = st at *
  generalize octD (FF ds) = O at *
  simp [sl]
  simp only [octD]
  rw [fold_map (α := Nat) (β := Nat) (fun e => D.int ((e : Nat) : Int)) (fun e => D.int ((e : Nat) : Int)) (fun e => if decide (e ≤ n) = true then some e else none) (fun _ => True) ?h (endsM 0 ds) [] (fun _ _ => trivial) (by simp [line, ends_len]; omega)]
  · simp
  · intro e acc _ hl
    have hl' : acc.length < 16777216 := hl
    by_cases he : e ≤ n
    · simp [ht, he, line, hl']
    · simp [ht, he, line, hl']
include h6 in
theorem st9 (S : D) (kk : Nat) (n : Nat) (c : D) : evS (callF prog 29) sl9 (LP S kk ds (some (.int (n : Nat))) none none none none) (LS c ds) = .ok (.nx, LP S kk ds (some (.int (n : Nat))) (some (.int (cnt ds n : Nat))) none none none) (LS c ds) := by
  have c7 := cnt7 h6 S kk n c none none none none
  have ln : ∀ st, biD .len [.lst (((endsM 0 ds).filterMap fun e => if decide (e ≤ n) = true then some e else none).map fun e => D.int ((e : Nat) : Int))] st = .ok (.int (cnt ds n : Nat)) st := fun st => by
    show R.ok (D.int ((List.map _ _).length : Nat)) st = _
    rw [List.length_map, cnt_map]
  simp only [LP, LE] at c7 ⊢
  generalize (((endsM 0 ds).filterMap fun e => if decide (e ≤ n) = true then some e else none).map fun e => D.int ((e : Nat) : Int)) = L at *
  generalize LS c ds = st at *
  generalize octD (FF ds) = O at *
  simp [sl9, -e_evE_lc, c7, ln]
end
end K83

namespace K83
open PySem PyE
section
variable {ds : List D} (hd : ∀ d ∈ ds, d ∈ base) (h1 : 1 ≤ ds.length) (h6 : ds.length ≤ 6)
include hd in
theorem cnt_cut (n : Nat) : cnt ds n = (cutM ds n).1 := by
  have := (ends_cut ds 0 n hd).1
  rw [Nat.zero_add] at this
  exact this
include hd in
theorem in_cut (n : Nat) (hn : n ≤ (FF ds).length) : decide (n ∈ EN ds) = (cutM ds n).2 := by
  have := (ends_cut ds 0 n hd).2 hn
  rw [Nat.zero_add] at this
  exact this
theorem in_oct (n : Nat) (xs : List Nat) : inD (.int (n : Int)) (octD xs) = some (decide (n ∈ xs)) := by
  have h1 : (octD xs).all flatD = true := by
    rw [List.all_eq_true]
    intro y hy
    obtain ⟨m, _, rfl⟩ := List.mem_map.mp hy
    rfl
  rw [inD_def, if_pos ⟨rfl, h1⟩]
  congr 1
  rw [Bool.eq_iff_iff]
  simp only [List.any_eq_true, decide_eq_true_eq]
  constructor
  · rintro ⟨y, hy, e⟩
    obtain ⟨m, hm, rfl⟩ := List.mem_map.mp hy
    have : (m : Int) = n := by simpa [eqF] using e
    have : m = n := by omega
    exact this ▸ hm
  · intro h
    exact ⟨.int (n : Int), List.mem_map.mpr ⟨n, h, rfl⟩, by simp [eqF]⟩
theorem take_oct (os : List Nat) (n : Nat) (st : Store) : slB (.tup (octD os)) none (some (n : Int)) st = some (.tup (octD (os.take n))) := by
  have := sl_take (octD os) st (i := (n : Int)) (by omega)
  rw [Int.toNat_natCast, octD_take] at this
  exact this
theorem take_rows (xs : List D) (n : Nat) (st : Store) : slB (.tup xs) none (some (n : Int)) st = some (.tup (xs.take n)) := by
  have := sl_take xs st (i := (n : Int)) (by omega)
  rw [Int.toNat_natCast] at this
  exact this
theorem mem_take {n : Nat} (hd : ∀ d ∈ ds, d ∈ base) : ∀ d ∈ ds.take n, d ∈ base := fun d h => hd d (List.mem_of_mem_take h)
include hd h6 in
theorem st10 (S : D) (kk : Nat) (n : Nat) (hn : n ≤ (FF ds).length) (c : D) : evS (callF prog 29) sl10 (LP S kk ds (some (.int (n : Nat))) (some (.int (cnt ds n : Nat))) none none none) (LS c ds) = .ok (.nx, LP S kk ds (some (.int (n : Nat))) (some (.int (cnt ds n : Nat))) none none none) (LS c ds) := by
  have hl := FF_len hd h6
  have cw := cnt_cut hd n
  have ci := in_cut hd n hn
  have cl := cut_le ds n
  have f := fr_cut ds n hd hn
  have rd := fun st => cl_read ((FF ds).take n) (by rw [List.length_take]; omega) (ds.take (cnt ds n)) (mem_take hd) (by rw [List.length_take]; omega) (cw ▸ f) st
  have el : (ds.take (cnt ds n)).length = cnt ds n := by rw [List.length_take]; omega
  rw [el] at rd
  have t1 := take_oct (FF ds) n
  have t2 := take_rows ds (cnt ds n)
  have ic : cmpD .in_ (.int (n : Int)) (.ref 1) (LS c ds) = .ok (.bl (cutM ds n).2) (LS c ds) := by
    show opt ((inD (.int (n : Int)) (octD (EN ds))).map D.bl) _ = _
    rw [in_oct, ci]; rfl
  have s1 := fun st => cl_same (k := 29) (n := 8) (by decide) _ (rows_pl (xs := ds.take (cnt ds n)) (mem_take hd) (cutT (cutM ds n).2) (cnt ds n)) st
  clear f ci cw hn el
  simp only [LP, LE] at *
  generalize LS c ds = st at *
  generalize octD ((FF ds).take n) = O2 at *
  generalize octD (FF ds) = O at *
  generalize ds.take (cnt ds n) = ds2 at *
  cases hb : (cutM ds n).2 with
  | true =>
    have hT : (cutT (cutM ds n).2).d (cnt ds n) = .non := by rw [hb]; rfl
    rw [hT] at rd s1
    rw [hb] at ic
    simp [sl10, t1, t2, rd, ic, s1]
  | false =>
    have hT : (cutT (cutM ds n).2).d (cnt ds n) = .tup [.str (Str.ofString "torn"), .int (cnt ds n : Nat)] := by rw [hb]; rfl
    rw [hT] at rd s1
    rw [hb] at ic
    generalize ((cnt ds n : Nat) : Int) = w at *
    simp [sl10, t1, t2, rd, ic, s1]
theorem st11 (S : D) (kk : Nat) (a7 a8 : Option D) {c : D} (hb : IsBox c) (hF : (FF ds).length ≤ 1000) (h0 : 0 < (FF ds).length) : ∃ (s : Nat) (c' : D), IsBox c' ∧ s < (FF ds).length ∧ evS (callF prog 29) sl11 (LP S kk ds a7 a8 none none none) (LS c ds) = .ok (.nx, LP S kk ds a7 a8 (some (.int (s : Nat))) none none) (LS c' ds) := by
  obtain ⟨d, c', e, b, d0, d1⟩ := take_ok (k := 29) (by decide) (st := LS c ds) (n := 0) rfl hb (((FF ds).length : Nat) : Int) (by omega) (by omega)
  obtain ⟨n, rfl⟩ : ∃ n : Nat, d = n := ⟨d.toNat, by omega⟩
  have e : callIn (callF prog 29) f__law_take [.ref 0, .int (((FF ds).length : Nat) : Int)] [0] false (LS c ds) = .ok (.int (n : Nat)) (LS c' ds) := e
  refine ⟨n, c', b, by omega, ?_⟩
  have ln := len_oct (FF ds)
  simp only [LP, LE]
  generalize LS c ds = st at *
  generalize LS c' ds = st' at *
  generalize octD (FF ds) = O at *
  generalize (((FF ds).length : Nat) : Int) = t at *
  simp [sl11, e, ln]
theorem set_at (os : List Nat) (s v : Nat) (h : s < os.length) : os.take s ++ [v] ++ os.drop (s + 1) = os.set s v := by
  rw [List.set_eq_take_append_cons_drop, if_pos h]; simp
theorem st12 (S : D) (kk : Nat) (a7 a8 : Option D) {c : D} (hb : IsBox c) (hF : (FF ds).length ≤ 1000) {s : Nat} (hs : s < (FF ds).length) : ∃ (v : Nat) (c' : D), IsBox c' ∧ v < 256 ∧ v ≠ (FF ds)[s] ∧ evS (callF prog 29) sl12 (LP S kk ds a7 a8 (some (.int (s : Nat))) none none) (LS c ds) = .ok (.nx, LP S kk ds a7 a8 (some (.int (s : Nat))) (some (.tup (octD ((FF ds).set s v)))) none) (LS c' ds) := by
  obtain ⟨d, c', e, b, d0, d1⟩ := take_ok (k := 29) (by decide) (st := LS c ds) (n := 0) rfl hb 255 (by decide) (by decide)
  obtain ⟨t, rfl⟩ : ∃ n : Nat, d = n := ⟨d.toNat, by omega⟩
  have e : callIn (callF prog 29) f__law_take [.ref 0, .int 255] [0] false (LS c ds) = .ok (.int (t : Nat)) (LS c' ds) := e
  generalize hx : (FF ds)[s] = x
  refine ⟨(x + 1 + t) % 256, c', b, by omega, by omega, ?_⟩
  have ix : ∀ st, ixD (.tup (octD (FF ds))) (.int (s : Int)) st = .ok (.int (x : Nat)) st := fun st => by
    rw [ix_tup, atI_nn]
    have : (octD (FF ds))[s]? = some (.int (x : Nat)) := by
      simp only [octD, List.getElem?_map, List.getElem?_eq_getElem hs, hx]; rfl
    rw [this]; rfl
  have md : ∀ st, binD .mod (.int ((x : Int) + 1 + (t : Int))) (.int 256) st = .ok (.int (((x + 1 + t) % 256 : Nat) : Int)) st := fun st => by
    rw [bin_mod_int (by decide)]
    congr 2
  have t1 := take_oct (FF ds) s
  have dr : ∀ st, slB (.tup (octD (FF ds))) (some ((s : Int) + 1)) none st = some (.tup (octD ((FF ds).drop (s + 1)))) := fun st => by
    have := sl_drop (octD (FF ds)) st (i := (s : Int) + 1) (by omega)
    rw [show ((s : Int) + 1).toNat = s + 1 by omega, octD_drop] at this
    exact this
  have a1 : ∀ st, binD .add (.tup (octD ((FF ds).take s))) (.tup [.int (((x + 1 + t) % 256 : Nat) : Int)]) st = .ok (.tup (octD ((FF ds).take s ++ [(x + 1 + t) % 256]))) st := fun st => by
    rw [bin_add_tup (by simp [octD_len, line]; omega), octD_app]; rfl
  have a2 : ∀ st, binD .add (.tup (octD ((FF ds).take s ++ [(x + 1 + t) % 256]))) (.tup (octD ((FF ds).drop (s + 1)))) st = .ok (.tup (octD ((FF ds).set s ((x + 1 + t) % 256)))) st := fun st => by
    rw [bin_add_tup (by simp [octD_len, line]; omega), ← octD_app, set_at _ _ _ hs]
  have it : ∀ (i : Int) st, biD .int [.int i] st = .ok (.int i) st := fun _ _ => rfl
  simp only [LP, LE]
  generalize LS c ds = st at *
  generalize LS c' ds = st' at *
  generalize octD ((FF ds).set s ((x + 1 + t) % 256)) = O4 at *
  generalize octD ((FF ds).take s ++ [(x + 1 + t) % 256]) = O3 at *
  generalize octD ((FF ds).drop (s + 1)) = O2 at *
  generalize octD ((FF ds).take s) = O1 at *
  generalize octD (FF ds) = O at *
  generalize (((x + 1 + t) % 256 : Nat) : Int) = y at *
  simp [sl12, t1, ix, e, it, md, a1, dr, a2]
include h6 in
theorem cnt9 (S : D) (kk : Nat) (n : Nat) (c : D) (a7 a8 a10 a11 : Option D) : evE (callF prog 29) (.lc [14] (.name 14) (.val (.sl (.var 6) (.some (.lit (.int 1))) .none)) (.some (.cmp .le (.var 14) (.var 9))) (.var 14)) (LP S kk ds a7 a8 (some (.int (n : Nat))) a10 a11) (LS c ds) = .ok (.lst (((endsM 0 ds).filterMap fun e => if decide (e ≤ n) = true then some e else none).map fun e => D.int ((e : Nat) : Int))) (LS c ds) := by
  have sl := sl_ends c ds
  have ht : ∀ (e : Nat) st, cmpD .le (.int (e : Int)) (.int (n : Int)) st = .ok (.bl (decide (e ≤ n))) st := fun e st => by
    rw [cmp_le]
    congr 2
    rw [Bool.eq_iff_iff]; simp
  simp only [LP, LE]
  generalize LS c ds = st at *
  generalize octD (FF ds) = O at *
  simp [sl]
  simp only [octD]
  rw [fold_map (α := Nat) (β := Nat) (fun e => D.int ((e : Nat) : Int)) (fun e => D.int ((e : Nat) : Int)) (fun e => if decide (e ≤ n) = true then some e else none) (fun _ => True) ?h (endsM 0 ds) [] (fun _ _ => trivial) (by simp [line, ends_len]; omega)]
  · simp
  · intro e acc _ hl
    have hl' : acc.length < 16777216 := hl
    by_cases he : e ≤ n
    · simp [ht, he, line, hl']
    · simp [ht, he, line, hl']
include h6 in
theorem st13 (S : D) (kk : Nat) (n : Nat) (c : D) (a7 a8 a10 : Option D) : evS (callF prog 29) sl13 (LP S kk ds a7 a8 (some (.int (n : Nat))) a10 none) (LS c ds) = .ok (.nx, LP S kk ds a7 a8 (some (.int (n : Nat))) a10 (some (.int (cnt ds n : Nat)))) (LS c ds) := by
  have c7 := cnt9 h6 S kk n c a7 a8 a10 none
  have ln : ∀ st, biD .len [.lst (((endsM 0 ds).filterMap fun e => if decide (e ≤ n) = true then some e else none).map fun e => D.int ((e : Nat) : Int))] st = .ok (.int (cnt ds n : Nat)) st := fun st => by
    show R.ok (D.int ((List.map _ _).length : Nat)) st = _
    rw [List.length_map, cnt_map]
  simp only [LP, LE] at c7 ⊢
  generalize (((endsM 0 ds).filterMap fun e => if decide (e ≤ n) = true then some e else none).map fun e => D.int ((e : Nat) : Int)) = L at *
  generalize LS c ds = st at *
  generalize octD (FF ds) = O at *
  simp [sl13, -e_evE_lc, c7, ln]
include hd h6 in
theorem st14 (S : D) (kk : Nat) (a7 a8 a9 : Option D) {s v : Nat} (hs : s < (FF ds).length) (hv : v ≠ (FF ds)[s]) (h8 : v < 256) (c : D) : evS (callF prog 29) sl14 (LP S kk ds a7 a8 a9 (some (.tup (octD ((FF ds).set s v)))) (some (.int (cnt ds s : Nat)))) (LS c ds) = .ok (.nx, LP S kk ds a7 a8 a9 (some (.tup (octD ((FF ds).set s v)))) (some (.int (cnt ds s : Nat)))) (LS c ds) := by
  have hl := FF_len hd h6
  have cw := cnt_cut hd s
  have cl := cut_le ds s
  have f := fr_chg ds s v (FF ds)[s] hd (List.getElem?_eq_getElem hs) hv h8
  have rd := fun st => cl_read ((FF ds).set s v) (by rw [List.length_set]; omega) (ds.take (cnt ds s)) (mem_take hd) (by rw [List.length_take]; omega) (cw ▸ f) st
  have el : (ds.take (cnt ds s)).length = cnt ds s := by rw [List.length_take]; omega
  rw [el] at rd
  have t2 := take_rows ds (cnt ds s)
  have s1 := fun st => cl_same (k := 29) (n := 8) (by decide) _ (rows_pl (xs := ds.take (cnt ds s)) (mem_take hd) .changed (cnt ds s)) st
  have hT : Tl.changed.d (cnt ds s) = .tup [.str (Str.ofString "changed"), .int (cnt ds s : Nat)] := rfl
  rw [hT] at rd s1
  clear f cw el hv
  simp only [LP, LE] at *
  generalize LS c ds = st at *
  generalize octD ((FF ds).set s v) = O2 at *
  generalize octD (FF ds) = O at *
  generalize ds.take (cnt ds s) = ds2 at *
  generalize ((cnt ds s : Nat) : Int) = w at *
  simp [sl14, t2, rd, s1]
end
end K83

namespace K83
open PySem PyE
theorem st0 (S : D) (ns : List Int) (hS : S = .lst (ns.map D.int)) (hn : ns.length ≤ 63) (kk : Nat) (h8 : kk < 8) : ∃ c, IsBox c ∧ evS (callF prog 29) sl0 (LE S kk none none none none none none none none none) [] = .ok (.nx, LE S kk (some (.ref 0)) none none none none none none none none) [c] := by
  obtain ⟨c, e, b⟩ := box_ok (m := 28) hn h8 []
  subst hS
  have e : callIn (callF prog 29) f__law_box [.lst (ns.map D.int), .int (kk : Nat)] [] true [] = .ok (.ref 0) [c] := e
  refine ⟨c, b, ?_⟩
  simp only [LE]
  generalize D.lst (ns.map D.int) = S at *
  simp [sl0, e]
abbrev ws3 : List Nat := [11, 2, 7, 6, 1, 5, 10, 4, 3, 9, 12, 8]
abbrev L0 (ns : List Int) : En := [some (.lst (ns.map D.int)), none, none, none, none, none, none, none, none, none, none, none, none, none, none]
theorem law_turn (ns : List Int) (hn : ns.length ≤ 63) (kk : Nat) (h8 : kk < 8) : stepR (asT (callF prog 29) (.name 1)) (evSs (callF prog 29) b_law_3) ws3 0 [] (.int (kk : Nat)) (L0 ns) [] = .ok (L0 ns) [] := by
  obtain ⟨c0, b0, q0⟩ := st0 (.lst (ns.map D.int)) ns rfl hn kk h8
  have tr : ∀ st, trim 0 (L0 ns) st = [] := fun st => by
    unfold trim
    have := belL_ints 0 ns
    simp [L0, D.bel, this]
  generalize hS : D.lst (ns.map D.int) = S at *
  obtain ⟨ds, c1, b1, hd, h1, h6, q1⟩ := st1 b0 S kk
  obtain ⟨c2, b2, q2⟩ := st2 hd b1 S kk
  have hF := FF_len hd h6
  have hF0 := FF_pos hd h1
  have q3 := st3 hd h6 S kk [c2]
  have q4 := st4 hd h6 S kk [c2]
  have q5 := st5 S kk c2 ds (.tup (octD (FF ds)))
  have q6 := st6 hd h6 S kk c2
  have q7 := st7 (ds := ds) S kk c2
  obtain ⟨n, c3, b3, hnn, q8⟩ := st8 (ds := ds) S kk b2 (by omega)
  have q9 := st9 h6 S kk n c3
  have q10 := st10 hd h6 S kk n hnn c3
  obtain ⟨s, c4, b4, hs, q11⟩ := st11 (ds := ds) S kk (some (.int (n : Nat))) (some (.int (cnt ds n : Nat))) b3 (by omega) hF0
  obtain ⟨v, c5, b5, h256, hv, q12⟩ := st12 (ds := ds) S kk (some (.int (n : Nat))) (some (.int (cnt ds n : Nat))) b4 (by omega) hs
  have q13 := st13 h6 S kk s c5 (some (.int (n : Nat))) (some (.int (cnt ds n : Nat))) (some (.tup (octD ((FF ds).set s v))))
  have q14 := st14 hd h6 S kk (some (.int (n : Nat))) (some (.int (cnt ds n : Nat))) (some (.int (s : Nat))) hs hv h256 c5
  have as1 : asT (callF prog 29) (.name 1) (.int (kk : Nat)) (L0 ns) [] = .ok (LE S kk none none none none none none none none none) [] := by
    simp [L0, LE, hS]
  simp only [stepR]
  rw [as1]
  simp only [rb_ok]
  rw [b3_eq]
  simp only [e_evSs_cons, e_evSs_nil, q0, q1, q2, q3, q4, q5, q6, q7, q8, q9, q10, q11, q12, q13, q14, rb_ok]
  show guardB (held [] (LS c5 ds)) (R.ok (wipe (LP S kk ds (some (.int (n : Nat))) (some (.int (cnt ds n : Nat))) (some (.int (s : Nat))) (some (.tup (octD ((FF ds).set s v)))) (some (.int (cnt ds s : Nat)))) ws3) (trim 0 (wipe (LP S kk ds (some (.int (n : Nat))) (some (.int (cnt ds n : Nat))) (some (.int (s : Nat))) (some (.tup (octD ((FF ds).set s v)))) (some (.int (cnt ds s : Nat)))) ws3) (LS c5 ds))) = _
  have wp : wipe (LP S kk ds (some (.int (n : Nat))) (some (.int (cnt ds n : Nat))) (some (.int (s : Nat))) (some (.tup (octD ((FF ds).set s v)))) (some (.int (cnt ds s : Nat)))) ws3 = L0 ns := by
    simp [LP, LE, L0, wipe, hS]
  rw [wp, tr]
  rfl
theorem law_true (ns : List Int) (hn : ns.length ≤ 63) : ∃ st, callF prog 30 28 [.lst (ns.map .int)] [] = .ok (.bl true) st := by
  refine ⟨[], ?_⟩
  obtain ⟨m, hm, h7, em⟩ : ∃ m : Int, 0 ≤ m ∧ m ≤ 7 ∧ (if (if (7 : Int) < (ns.length : Int) then 7 else (ns.length : Int)) > 3 then (if (7 : Int) < (ns.length : Int) then 7 else (ns.length : Int)) else 3) = m := ⟨_, by split <;> split <;> omega, by split <;> split <;> omega, rfl⟩
  have rg : rgOk m = true := by simp [rgOk]; omega
  have lp : forR (asT (callF prog 29) (.name 1)) (evSs (callF prog 29) b_law_3) ws3 0 [] (rangeD 0 m.toNat) (L0 ns) [] = .ok (.nx, L0 ns) [] := for_same _ fun x hx => by
    obtain ⟨i, hi, rfl⟩ := List.mem_map.mp hx
    have := List.mem_range.mp hi
    rw [Int.zero_add]
    exact law_turn ns hn i (by omega)
  have mn : ∀ st, biD .min2 [.int (ns.length : Nat), .int 7] st = .ok (.int (if (7 : Int) < (ns.length : Int) then 7 else (ns.length : Int))) st := fun _ => rfl
  have mx : ∀ (j : Int) st, biD .max2 [.int 3, .int j] st = .ok (.int (if j > 3 then j else 3)) st := fun _ _ => rfl
  rw [show (28 : Nat) = f_law from rfl, callF_at p_law (by omega), run_at rfl]
  simp only [ws3, L0] at lp
  simp [c_law, -bq_max2, -bq_min2, mn, mx, em, rg, lp]
end K83

namespace K83
open PySem PyE
def t_xored : FT := ⟨"xored", ["octets"], [(1, [], [])], none⟩
def n_xored : List Str := ["octets", "total", "octet"]
def t_weighed : FT := ⟨"weighed", ["octets"], [(1, [], [])], none⟩
def n_weighed : List Str := ["octets", "place", "octet"]
def t_head_of : FT := ⟨"head_of", ["kind", "long"], [(2, [], [])], none⟩
def n_head_of : List Str := ["kind", "long", "told"]
def t_foot_of : FT := ⟨"foot_of", ["payload"], [(1, [], [])], none⟩
def n_foot_of : List Str := ["payload", "sums"]
def t_frame : FT := ⟨"frame", ["kind", "payload"], [(2, [], [])], none⟩
def n_frame : List Str := ["kind", "payload"]
def t_frames_of : FT := ⟨"frames_of", ["octets"], [(1, [], [])], none⟩
def n_frames_of : List Str := ["octets", "rows", "spot", "long", "behind", "payload", "kind", "high", "low", "check"]
def t_is_int : FT := ⟨"is_int", ["value"], [(1, [], [])], none⟩
def n_is_int : List Str := ["value"]
def t_is_number : FT := ⟨"is_number", ["value", "least", "most"], [(1, [], [(.int 0), .non]), (2, [], [.non])], none⟩
def n_is_number : List Str := ["value", "least", "most"]
def t_is_tuple : FT := ⟨"is_tuple", ["value", "many"], [(2, [], []), (1, [], [.non])], none⟩
def n_is_tuple : List Str := ["value", "many"]
def t_counted : FT := ⟨"counted", ["number"], [(1, [], [])], none⟩
def n_counted : List Str := ["number", "found"]
def t_packed : FT := ⟨"packed", ["value"], [(1, [], [])], none⟩
def n_packed : List Str := ["value", "found", "left", "one", "sign"]
def t_plain_part : FT := ⟨"plain_part", ["reader", "tag"], [(2, [], [])], none⟩
def n_plain_part : List Str := ["reader", "tag", "number", "turn"]
def t_unpacked : FT := ⟨"unpacked", ["octets"], [(1, [], [])], none⟩
def n_unpacked : List Str := ["octets", "reader", "open_rows", "whole", "tag", "many"]
def t_is_between : FT := ⟨"is_between", ["value"], [(1, [], [])], none⟩
def n_is_between : List Str := ["value"]
def t_is_sure_told : FT := ⟨"is_sure_told", ["value"], [(1, [], [])], none⟩
def n_is_sure_told : List Str := ["value"]
def t_is_row : FT := ⟨"is_row", ["value"], [(1, [], []), (0, ["value"], [])], none⟩
def n_is_row : List Str := ["value"]
def t_journal_octets : FT := ⟨"journal_octets", ["rows"], [(1, [], [])], none⟩
def n_journal_octets : List Str := ["rows", "found", "row"]
def t_row_of_frame : FT := ⟨"row_of_frame", ["kind", "payload"], [(2, [], [])], none⟩
def n_row_of_frame : List Str := ["kind", "payload", "told"]
def t_read_journal : FT := ⟨"read_journal", ["octets"], [(0, ["octets"], []), (1, [], [])], none⟩
def n_read_journal : List Str := ["octets", "found", "number", "row", "frames", "tail", "kind", "payload"]
def t__law_box : FT := ⟨"_law_box", ["script", "k"], [(2, [], [])], none⟩
def n__law_box : List Str := ["script", "k", "cell", "great"]
def t__law_take : FT := ⟨"_law_take", ["box", "many"], [(2, [], [])], none⟩
def n__law_take : List Str := ["box", "many", "raw", "digit"]
def t__law_pick : FT := ⟨"_law_pick", ["box", "some"], [(2, [], [])], none⟩
def n__law_pick : List Str := ["box", "some"]
def t__law_same : FT := ⟨"_law_same", ["told", "due"], [(2, [], [])], none⟩
def n__law_same : List Str := ["told", "due", "one", "other"]
def t__law_bent : FT := ⟨"_law_bent", ["box", "value"], [(2, [], [])], none⟩
def n__law_bent : List Str := ["box", "value", "odd", "spot", "way"]
def t__law_is_number : FT := ⟨"_law_is_number", ["value", "least"], [(2, [], [])], none⟩
def n__law_is_number : List Str := ["value", "least"]
def t__law_is_sure : FT := ⟨"_law_is_sure", ["value"], [(1, [], [])], none⟩
def n__law_is_sure : List Str := ["value"]
def t__law_is_row : FT := ⟨"_law_is_row", ["value"], [(1, [], [])], none⟩
def n__law_is_row : List Str := ["value", "longs"]
def t__law_some_form : FT := ⟨"_law_some_form", ["box"], [(1, [], [])], none⟩
def n__law_some_form : List Str := ["box", "some", "number", "other"]
def t_law : FT := ⟨"law", ["script"], [(1, [], [])], none⟩
def n_law : List Str := ["script", "k", "box", "rows", "row", "octets", "ends", "cut", "whole", "spot", "other", "ahead", "value", "turn", "end"]
def t_Reader_init : FT := ⟨"__init__", ["self", "octets"], [(2, [], [])], some "Reader"⟩
def n_Reader_init : List Str := ["self", "octets"]
def t_Reader_one : FT := ⟨"one", ["self"], [(1, [], [])], some "Reader"⟩
def n_Reader_one : List Str := ["self"]
def t_Reader_number : FT := ⟨"number", ["self"], [(1, [], [])], some "Reader"⟩
def n_Reader_number : List Str := ["self", "total", "times", "octet"]
def t_Reader_sign : FT := ⟨"sign", ["self"], [(1, [], [])], some "Reader"⟩
def n_Reader_sign : List Str := ["self", "number"]
def fns : List FT := [t_xored, t_weighed, t_head_of, t_foot_of, t_frame, t_frames_of, t_is_int, t_is_number, t_is_tuple, t_counted, t_packed, t_plain_part, t_unpacked, t_is_between, t_is_sure_told, t_is_row, t_journal_octets, t_row_of_frame, t_read_journal, t__law_box, t__law_take, t__law_pick, t__law_same, t__law_bent, t__law_is_number, t__law_is_sure, t__law_is_row, t__law_some_form, t_law, t_Reader_init, t_Reader_one, t_Reader_number, t_Reader_sign]
def glb : List (Str × D) := [("HEAD", (.int 4)), ("FOOT", (.int 3)), ("WEIGHED", (.int 65521)), ("NONE", (.int 0)), ("NO", (.int 1)), ("YES", (.int 2)), ("UP", (.int 3)), ("DOWN", (.int 4)), ("TEXT", (.int 5)), ("ROW", (.int 6)), ("SIGNS", (.str (Str.ofString " !\"#$&'()*+,-./0123456789:;<=>?@ABCDEFGHIJKLMNOPQRSTUVWXYZ[\\]^_`abcdefghijklmnopqrstuvwxyz{|}~"))), ("KINDS", (.tup [(.str (Str.ofString "event")), (.str (Str.ofString "ask")), (.str (Str.ofString "facts")), (.str (Str.ofString "slipped")), (.str (Str.ofString "blame")), (.str (Str.ofString "plan")), (.str (Str.ofString "watch")), (.str (Str.ofString "told")), (.str (Str.ofString "seal")), (.str (Str.ofString "cut"))])), ("LONG", (.tup [(.int 2), (.int 5), (.int 3), (.int 2), (.int 2), (.int 5), (.int 6), (.int 3), (.int 1), (.int 1)]))]
def cls : List (Str × List Str) := [("Reader", ["given", "spot"])]
def top (i : Nat) : Stmt := PySem.Challenge.pw_meantlog_k83_journals_as_octets.main.body.getD i (.Pass ⟨0, 0, 0, 0⟩)
def mtop (i j : Nat) : Stmt := match top i with
  | .ClassDef _ _ _ b _ _ _ _ _ _ _ => b.getD j (.Pass ⟨0, 0, 0, 0⟩)
  | s => s
end K83

namespace K83
open PySem PySem.Spec PyProof.Rows L2 PyE
def d_xored : He.DefD := ⟨("xored", none), "xored", "xored", defArgs (top 7), defBody (top 7), defScope (top 7), [], []⟩
def d_weighed : He.DefD := ⟨("weighed", none), "weighed", "weighed", defArgs (top 8), defBody (top 8), defScope (top 8), [], []⟩
def d_head_of : He.DefD := ⟨("head_of", none), "head_of", "head_of", defArgs (top 9), defBody (top 9), defScope (top 9), [], []⟩
def d_foot_of : He.DefD := ⟨("foot_of", none), "foot_of", "foot_of", defArgs (top 10), defBody (top 10), defScope (top 10), [], []⟩
def d_frame : He.DefD := ⟨("frame", none), "frame", "frame", defArgs (top 11), defBody (top 11), defScope (top 11), [], []⟩
def d_frames_of : He.DefD := ⟨("frames_of", none), "frames_of", "frames_of", defArgs (top 12), defBody (top 12), defScope (top 12), [], []⟩
def d_is_int : He.DefD := ⟨("is_int", none), "is_int", "is_int", defArgs (top 14), defBody (top 14), defScope (top 14), [], []⟩
def d_is_number : He.DefD := ⟨("is_number", none), "is_number", "is_number", defArgs (top 15), defBody (top 15), defScope (top 15), [.int 0, .non], []⟩
def d_is_tuple : He.DefD := ⟨("is_tuple", none), "is_tuple", "is_tuple", defArgs (top 16), defBody (top 16), defScope (top 16), [.non], []⟩
def d_counted : He.DefD := ⟨("counted", none), "counted", "counted", defArgs (top 26), defBody (top 26), defScope (top 26), [], []⟩
def d_packed : He.DefD := ⟨("packed", none), "packed", "packed", defArgs (top 27), defBody (top 27), defScope (top 27), [], []⟩
def d_plain_part : He.DefD := ⟨("plain_part", none), "plain_part", "plain_part", defArgs (top 29), defBody (top 29), defScope (top 29), [], []⟩
def d_unpacked : He.DefD := ⟨("unpacked", none), "unpacked", "unpacked", defArgs (top 30), defBody (top 30), defScope (top 30), [], []⟩
def d_is_between : He.DefD := ⟨("is_between", none), "is_between", "is_between", defArgs (top 34), defBody (top 34), defScope (top 34), [], []⟩
def d_is_sure_told : He.DefD := ⟨("is_sure_told", none), "is_sure_told", "is_sure_told", defArgs (top 35), defBody (top 35), defScope (top 35), [], []⟩
def d_is_row : He.DefD := ⟨("is_row", none), "is_row", "is_row", defArgs (top 36), defBody (top 36), defScope (top 36), [], []⟩
def d_journal_octets : He.DefD := ⟨("journal_octets", none), "journal_octets", "journal_octets", defArgs (top 37), defBody (top 37), defScope (top 37), [], []⟩
def d_row_of_frame : He.DefD := ⟨("row_of_frame", none), "row_of_frame", "row_of_frame", defArgs (top 38), defBody (top 38), defScope (top 38), [], []⟩
def d_read_journal : He.DefD := ⟨("read_journal", none), "read_journal", "read_journal", defArgs (top 39), defBody (top 39), defScope (top 39), [], []⟩
def d__law_box : He.DefD := ⟨("_law_box", none), "_law_box", "_law_box", defArgs (top 41), defBody (top 41), defScope (top 41), [], []⟩
def d__law_take : He.DefD := ⟨("_law_take", none), "_law_take", "_law_take", defArgs (top 42), defBody (top 42), defScope (top 42), [], []⟩
def d__law_pick : He.DefD := ⟨("_law_pick", none), "_law_pick", "_law_pick", defArgs (top 43), defBody (top 43), defScope (top 43), [], []⟩
def d__law_same : He.DefD := ⟨("_law_same", none), "_law_same", "_law_same", defArgs (top 44), defBody (top 44), defScope (top 44), [], []⟩
def d__law_bent : He.DefD := ⟨("_law_bent", none), "_law_bent", "_law_bent", defArgs (top 45), defBody (top 45), defScope (top 45), [], []⟩
def d__law_is_number : He.DefD := ⟨("_law_is_number", none), "_law_is_number", "_law_is_number", defArgs (top 46), defBody (top 46), defScope (top 46), [], []⟩
def d__law_is_sure : He.DefD := ⟨("_law_is_sure", none), "_law_is_sure", "_law_is_sure", defArgs (top 47), defBody (top 47), defScope (top 47), [], []⟩
def d__law_is_row : He.DefD := ⟨("_law_is_row", none), "_law_is_row", "_law_is_row", defArgs (top 48), defBody (top 48), defScope (top 48), [], []⟩
def d__law_some_form : He.DefD := ⟨("_law_some_form", none), "_law_some_form", "_law_some_form", defArgs (top 49), defBody (top 49), defScope (top 49), [], []⟩
def d_law : He.DefD := ⟨("law", none), "law", "law", defArgs (top 50), defBody (top 50), defScope (top 50), [], []⟩
def d_Reader_init : He.DefD := ⟨("Reader", some "__init__"), "__init__", "Reader.__init__", defArgs (mtop 28 0), defBody (mtop 28 0), defScope (mtop 28 0), [], []⟩
def d_Reader_one : He.DefD := ⟨("Reader", some "one"), "one", "Reader.one", defArgs (mtop 28 1), defBody (mtop 28 1), defScope (mtop 28 1), [], []⟩
def d_Reader_number : He.DefD := ⟨("Reader", some "number"), "number", "Reader.number", defArgs (mtop 28 2), defBody (mtop 28 2), defScope (mtop 28 2), [], []⟩
def d_Reader_sign : He.DefD := ⟨("Reader", some "sign"), "sign", "Reader.sign", defArgs (mtop 28 3), defBody (mtop 28 3), defScope (mtop 28 3), [], []⟩
def fn : List He.DefD := [d_xored, d_weighed, d_head_of, d_foot_of, d_frame, d_frames_of, d_is_int, d_is_number, d_is_tuple, d_counted, d_packed, d_plain_part, d_unpacked, d_is_between, d_is_sure_told, d_is_row, d_journal_octets, d_row_of_frame, d_read_journal, d__law_box, d__law_take, d__law_pick, d__law_same, d__law_bent, d__law_is_number, d__law_is_sure, d__law_is_row, d__law_some_form, d_law, d_Reader_init, d_Reader_one, d_Reader_number, d_Reader_sign]
def fa : List He.Fa := [.glo "xored", .glo "weighed", .glo "head_of", .glo "foot_of", .glo "frame", .glo "frames_of", .glo "is_int", .glo "is_number", .glo "is_tuple", .glo "counted", .glo "packed", .glo "plain_part", .glo "unpacked", .glo "is_between", .glo "is_sure_told", .glo "is_row", .glo "journal_octets", .glo "row_of_frame", .glo "read_journal", .glo "_law_box", .glo "_law_take", .glo "_law_pick", .glo "_law_same", .glo "_law_bent", .glo "_law_is_number", .glo "_law_is_sure", .glo "_law_is_row", .glo "_law_some_form", .glo "law", .glo "Reader", .cls "Reader", .noat "Reader" "given", .noat "Reader" "spot", .meth "Reader" "__init__", .meth "Reader" "one", .meth "Reader" "number", .meth "Reader" "sign", .mkr "Reader", .free "len", .free "abs", .free "int", .free "max", .free "min", .free "sum", .free "all", .free "any", .free "tuple", .free "list", .free "sorted", .free "str", .free "set", .free "bool", .free "isinstance", .free "range", .free "enumerate", .free "zip"]
abbrev R : PySem.W.OpenRow := PySem.W.OpenLaw.row PySem.Challenge.rw_meantlog_k83_journals_as_octets
abbrev hk : PySem.W.Hook := hookM 6 fa fn glb
def ob (s : PySem.W.SharedT) : He.AlD × Bool := obsM 6 fa fn glb (HandSHeadRun.getT s)
theorem ob_eq (s : PySem.W.SharedT) : ob s = hk.obs s.abs := obsM_eq (HandSHeadRun.getT_eq s)
def loose0 : List Str := ["OwnError", "BadOctets", "HEAD", "FOOT", "WEIGHED", "xored", "weighed", "head_of", "foot_of", "frame", "frames_of", "is_int", "is_number", "is_tuple", "NONE", "NO", "YES", "UP", "DOWN", "TEXT", "ROW", "SIGNS", "counted", "packed", "Reader", "plain_part", "unpacked", "KINDS", "LONG", "is_between"]
def loose1 : List Str := ["is_sure_told", "is_row", "journal_octets", "row_of_frame", "read_journal", "_law_box", "_law_take", "_law_pick", "_law_same", "_law_bent", "_law_is_number", "_law_is_sure", "_law_is_row", "_law_some_form"]
def loose : List Str := loose0 ++ loose1
theorem run (w : World) : HandSHeadRun.RunEq R (PySem.W.view R.prog [50]) hk ob 3000 loose w := by
  intro os
  kernel_rfl
section
variable {K : PySem.W.Frag} {h : Heap} {mg : Str → Option Value} (X : K.In h) (G : h.Ns mainGlobals mg) (c : He.SaysD fa fn K)
include X G c
theorem ok_xored : ∃ fd, DefOk K mg prog glb fns cls 0 t_xored (He.fAd K ("xored", none)) fd := by
  obtain ⟨fd, F⟩ := c.def_ 0 (d := d_xored) rfl
  refine ⟨fd, He.glo_ok X G (c.fact 0 (f := .glo "xored") rfl), ⟨c_xored, n_xored, _, _, _, _, _, _, _, rfl, F, by kernel_rfl, rfl, rfl, by kernel_rfl⟩, ?_⟩
  intro p hp
  cases hp with
  | head => exact pat_kw F 1 [] fun _ _ _ _ _ _ us ws h1 h2 => match us, ws, h1, h2 with | [_], [], _, _ => rfl
  | tail _ hp =>
    cases hp

theorem ok_weighed : ∃ fd, DefOk K mg prog glb fns cls 1 t_weighed (He.fAd K ("weighed", none)) fd := by
  obtain ⟨fd, F⟩ := c.def_ 1 (d := d_weighed) rfl
  refine ⟨fd, He.glo_ok X G (c.fact 1 (f := .glo "weighed") rfl), ⟨c_weighed, n_weighed, _, _, _, _, _, _, _, rfl, F, by kernel_rfl, rfl, rfl, by kernel_rfl⟩, ?_⟩
  intro p hp
  cases hp with
  | head => exact pat_kw F 1 [] fun _ _ _ _ _ _ us ws h1 h2 => match us, ws, h1, h2 with | [_], [], _, _ => rfl
  | tail _ hp =>
    cases hp

theorem ok_head_of : ∃ fd, DefOk K mg prog glb fns cls 2 t_head_of (He.fAd K ("head_of", none)) fd := by
  obtain ⟨fd, F⟩ := c.def_ 2 (d := d_head_of) rfl
  refine ⟨fd, He.glo_ok X G (c.fact 2 (f := .glo "head_of") rfl), ⟨c_head_of, n_head_of, _, _, _, _, _, _, _, rfl, F, by kernel_rfl, rfl, rfl, by kernel_rfl⟩, ?_⟩
  intro p hp
  cases hp with
  | head => exact pat_kw F 2 [] fun _ _ _ _ _ _ us ws h1 h2 => match us, ws, h1, h2 with | [_, _], [], _, _ => rfl
  | tail _ hp =>
    cases hp

theorem ok_foot_of : ∃ fd, DefOk K mg prog glb fns cls 3 t_foot_of (He.fAd K ("foot_of", none)) fd := by
  obtain ⟨fd, F⟩ := c.def_ 3 (d := d_foot_of) rfl
  refine ⟨fd, He.glo_ok X G (c.fact 3 (f := .glo "foot_of") rfl), ⟨c_foot_of, n_foot_of, _, _, _, _, _, _, _, rfl, F, by kernel_rfl, rfl, rfl, by kernel_rfl⟩, ?_⟩
  intro p hp
  cases hp with
  | head => exact pat_kw F 1 [] fun _ _ _ _ _ _ us ws h1 h2 => match us, ws, h1, h2 with | [_], [], _, _ => rfl
  | tail _ hp =>
    cases hp

theorem ok_frame : ∃ fd, DefOk K mg prog glb fns cls 4 t_frame (He.fAd K ("frame", none)) fd := by
  obtain ⟨fd, F⟩ := c.def_ 4 (d := d_frame) rfl
  refine ⟨fd, He.glo_ok X G (c.fact 4 (f := .glo "frame") rfl), ⟨c_frame, n_frame, _, _, _, _, _, _, _, rfl, F, by kernel_rfl, rfl, rfl, by kernel_rfl⟩, ?_⟩
  intro p hp
  cases hp with
  | head => exact pat_kw F 2 [] fun _ _ _ _ _ _ us ws h1 h2 => match us, ws, h1, h2 with | [_, _], [], _, _ => rfl
  | tail _ hp =>
    cases hp

theorem ok_frames_of : ∃ fd, DefOk K mg prog glb fns cls 5 t_frames_of (He.fAd K ("frames_of", none)) fd := by
  obtain ⟨fd, F⟩ := c.def_ 5 (d := d_frames_of) rfl
  refine ⟨fd, He.glo_ok X G (c.fact 5 (f := .glo "frames_of") rfl), ⟨c_frames_of, n_frames_of, _, _, _, _, _, _, _, rfl, F, by kernel_rfl, rfl, rfl, by kernel_rfl⟩, ?_⟩
  intro p hp
  cases hp with
  | head => exact pat_kw F 1 [] fun _ _ _ _ _ _ us ws h1 h2 => match us, ws, h1, h2 with | [_], [], _, _ => rfl
  | tail _ hp =>
    cases hp

theorem ok_is_int : ∃ fd, DefOk K mg prog glb fns cls 6 t_is_int (He.fAd K ("is_int", none)) fd := by
  obtain ⟨fd, F⟩ := c.def_ 6 (d := d_is_int) rfl
  refine ⟨fd, He.glo_ok X G (c.fact 6 (f := .glo "is_int") rfl), ⟨c_is_int, n_is_int, _, _, _, _, _, _, _, rfl, F, by kernel_rfl, rfl, rfl, by kernel_rfl⟩, ?_⟩
  intro p hp
  cases hp with
  | head => exact pat_kw F 1 [] fun _ _ _ _ _ _ us ws h1 h2 => match us, ws, h1, h2 with | [_], [], _, _ => rfl
  | tail _ hp =>
    cases hp

theorem ok_is_number : ∃ fd, DefOk K mg prog glb fns cls 7 t_is_number (He.fAd K ("is_number", none)) fd := by
  obtain ⟨fd, F⟩ := c.def_ 7 (d := d_is_number) rfl
  refine ⟨fd, He.glo_ok X G (c.fact 7 (f := .glo "is_number") rfl), ⟨c_is_number, n_is_number, _, _, _, _, _, _, _, rfl, F, by kernel_rfl, rfl, rfl, by kernel_rfl⟩, ?_⟩
  intro p hp
  cases hp with
  | head => exact pat_df F (fun e => nomatch e) 1 [] [(.int 0), .non] 0 rfl fun _ _ _ _ _ _ _ us ws its h1 h2 h3 => match us, ws, its, h1, h2, h3 with | [_], [], [_, _], _, _, _ => ⟨_, rfl, rfl⟩
  | tail _ hp =>
    cases hp with
    | head => exact pat_df F (fun e => nomatch e) 2 [] [.non] 1 rfl fun _ _ _ _ _ _ _ us ws its h1 h2 h3 => match us, ws, its, h1, h2, h3 with | [_, _], [], [_, _], _, _, _ => ⟨_, rfl, rfl⟩
    | tail _ hp =>
      cases hp

theorem ok_is_tuple : ∃ fd, DefOk K mg prog glb fns cls 8 t_is_tuple (He.fAd K ("is_tuple", none)) fd := by
  obtain ⟨fd, F⟩ := c.def_ 8 (d := d_is_tuple) rfl
  refine ⟨fd, He.glo_ok X G (c.fact 8 (f := .glo "is_tuple") rfl), ⟨c_is_tuple, n_is_tuple, _, _, _, _, _, _, _, rfl, F, by kernel_rfl, rfl, rfl, by kernel_rfl⟩, ?_⟩
  intro p hp
  cases hp with
  | head => exact pat_df F (fun e => nomatch e) 2 [] [] 1 rfl fun _ _ _ _ _ _ _ us ws its h1 h2 h3 => match us, ws, its, h1, h2, h3 with | [_, _], [], [_], _, _, _ => ⟨_, rfl, rfl⟩
  | tail _ hp =>
    cases hp with
    | head => exact pat_df F (fun e => nomatch e) 1 [] [.non] 0 rfl fun _ _ _ _ _ _ _ us ws its h1 h2 h3 => match us, ws, its, h1, h2, h3 with | [_], [], [_], _, _, _ => ⟨_, rfl, rfl⟩
    | tail _ hp =>
      cases hp

theorem ok_counted : ∃ fd, DefOk K mg prog glb fns cls 9 t_counted (He.fAd K ("counted", none)) fd := by
  obtain ⟨fd, F⟩ := c.def_ 9 (d := d_counted) rfl
  refine ⟨fd, He.glo_ok X G (c.fact 9 (f := .glo "counted") rfl), ⟨c_counted, n_counted, _, _, _, _, _, _, _, rfl, F, by kernel_rfl, rfl, rfl, by kernel_rfl⟩, ?_⟩
  intro p hp
  cases hp with
  | head => exact pat_kw F 1 [] fun _ _ _ _ _ _ us ws h1 h2 => match us, ws, h1, h2 with | [_], [], _, _ => rfl
  | tail _ hp =>
    cases hp

theorem ok_packed : ∃ fd, DefOk K mg prog glb fns cls 10 t_packed (He.fAd K ("packed", none)) fd := by
  obtain ⟨fd, F⟩ := c.def_ 10 (d := d_packed) rfl
  refine ⟨fd, He.glo_ok X G (c.fact 10 (f := .glo "packed") rfl), ⟨c_packed, n_packed, _, _, _, _, _, _, _, rfl, F, by kernel_rfl, rfl, rfl, by kernel_rfl⟩, ?_⟩
  intro p hp
  cases hp with
  | head => exact pat_kw F 1 [] fun _ _ _ _ _ _ us ws h1 h2 => match us, ws, h1, h2 with | [_], [], _, _ => rfl
  | tail _ hp =>
    cases hp

theorem ok_plain_part : ∃ fd, DefOk K mg prog glb fns cls 11 t_plain_part (He.fAd K ("plain_part", none)) fd := by
  obtain ⟨fd, F⟩ := c.def_ 11 (d := d_plain_part) rfl
  refine ⟨fd, He.glo_ok X G (c.fact 11 (f := .glo "plain_part") rfl), ⟨c_plain_part, n_plain_part, _, _, _, _, _, _, _, rfl, F, by kernel_rfl, rfl, rfl, by kernel_rfl⟩, ?_⟩
  intro p hp
  cases hp with
  | head => exact pat_kw F 2 [] fun _ _ _ _ _ _ us ws h1 h2 => match us, ws, h1, h2 with | [_, _], [], _, _ => rfl
  | tail _ hp =>
    cases hp

theorem ok_unpacked : ∃ fd, DefOk K mg prog glb fns cls 12 t_unpacked (He.fAd K ("unpacked", none)) fd := by
  obtain ⟨fd, F⟩ := c.def_ 12 (d := d_unpacked) rfl
  refine ⟨fd, He.glo_ok X G (c.fact 12 (f := .glo "unpacked") rfl), ⟨c_unpacked, n_unpacked, _, _, _, _, _, _, _, rfl, F, by kernel_rfl, rfl, rfl, by kernel_rfl⟩, ?_⟩
  intro p hp
  cases hp with
  | head => exact pat_kw F 1 [] fun _ _ _ _ _ _ us ws h1 h2 => match us, ws, h1, h2 with | [_], [], _, _ => rfl
  | tail _ hp =>
    cases hp

theorem ok_is_between : ∃ fd, DefOk K mg prog glb fns cls 13 t_is_between (He.fAd K ("is_between", none)) fd := by
  obtain ⟨fd, F⟩ := c.def_ 13 (d := d_is_between) rfl
  refine ⟨fd, He.glo_ok X G (c.fact 13 (f := .glo "is_between") rfl), ⟨c_is_between, n_is_between, _, _, _, _, _, _, _, rfl, F, by kernel_rfl, rfl, rfl, by kernel_rfl⟩, ?_⟩
  intro p hp
  cases hp with
  | head => exact pat_kw F 1 [] fun _ _ _ _ _ _ us ws h1 h2 => match us, ws, h1, h2 with | [_], [], _, _ => rfl
  | tail _ hp =>
    cases hp

theorem ok_is_sure_told : ∃ fd, DefOk K mg prog glb fns cls 14 t_is_sure_told (He.fAd K ("is_sure_told", none)) fd := by
  obtain ⟨fd, F⟩ := c.def_ 14 (d := d_is_sure_told) rfl
  refine ⟨fd, He.glo_ok X G (c.fact 14 (f := .glo "is_sure_told") rfl), ⟨c_is_sure_told, n_is_sure_told, _, _, _, _, _, _, _, rfl, F, by kernel_rfl, rfl, rfl, by kernel_rfl⟩, ?_⟩
  intro p hp
  cases hp with
  | head => exact pat_kw F 1 [] fun _ _ _ _ _ _ us ws h1 h2 => match us, ws, h1, h2 with | [_], [], _, _ => rfl
  | tail _ hp =>
    cases hp

theorem ok_is_row : ∃ fd, DefOk K mg prog glb fns cls 15 t_is_row (He.fAd K ("is_row", none)) fd := by
  obtain ⟨fd, F⟩ := c.def_ 15 (d := d_is_row) rfl
  refine ⟨fd, He.glo_ok X G (c.fact 15 (f := .glo "is_row") rfl), ⟨c_is_row, n_is_row, _, _, _, _, _, _, _, rfl, F, by kernel_rfl, rfl, rfl, by kernel_rfl⟩, ?_⟩
  intro p hp
  cases hp with
  | head => exact pat_kw F 1 [] fun _ _ _ _ _ _ us ws h1 h2 => match us, ws, h1, h2 with | [_], [], _, _ => rfl
  | tail _ hp =>
    cases hp with
    | head => exact pat_kw F 0 ["value"] fun _ _ _ _ _ _ us ws h1 h2 => match us, ws, h1, h2 with | [], [_], _, _ => rfl
    | tail _ hp =>
      cases hp

theorem ok_journal_octets : ∃ fd, DefOk K mg prog glb fns cls 16 t_journal_octets (He.fAd K ("journal_octets", none)) fd := by
  obtain ⟨fd, F⟩ := c.def_ 16 (d := d_journal_octets) rfl
  refine ⟨fd, He.glo_ok X G (c.fact 16 (f := .glo "journal_octets") rfl), ⟨c_journal_octets, n_journal_octets, _, _, _, _, _, _, _, rfl, F, by kernel_rfl, rfl, rfl, by kernel_rfl⟩, ?_⟩
  intro p hp
  cases hp with
  | head => exact pat_kw F 1 [] fun _ _ _ _ _ _ us ws h1 h2 => match us, ws, h1, h2 with | [_], [], _, _ => rfl
  | tail _ hp =>
    cases hp

theorem ok_row_of_frame : ∃ fd, DefOk K mg prog glb fns cls 17 t_row_of_frame (He.fAd K ("row_of_frame", none)) fd := by
  obtain ⟨fd, F⟩ := c.def_ 17 (d := d_row_of_frame) rfl
  refine ⟨fd, He.glo_ok X G (c.fact 17 (f := .glo "row_of_frame") rfl), ⟨c_row_of_frame, n_row_of_frame, _, _, _, _, _, _, _, rfl, F, by kernel_rfl, rfl, rfl, by kernel_rfl⟩, ?_⟩
  intro p hp
  cases hp with
  | head => exact pat_kw F 2 [] fun _ _ _ _ _ _ us ws h1 h2 => match us, ws, h1, h2 with | [_, _], [], _, _ => rfl
  | tail _ hp =>
    cases hp

theorem ok_read_journal : ∃ fd, DefOk K mg prog glb fns cls 18 t_read_journal (He.fAd K ("read_journal", none)) fd := by
  obtain ⟨fd, F⟩ := c.def_ 18 (d := d_read_journal) rfl
  refine ⟨fd, He.glo_ok X G (c.fact 18 (f := .glo "read_journal") rfl), ⟨c_read_journal, n_read_journal, _, _, _, _, _, _, _, rfl, F, by kernel_rfl, rfl, rfl, by kernel_rfl⟩, ?_⟩
  intro p hp
  cases hp with
  | head => exact pat_kw F 0 ["octets"] fun _ _ _ _ _ _ us ws h1 h2 => match us, ws, h1, h2 with | [], [_], _, _ => rfl
  | tail _ hp =>
    cases hp with
    | head => exact pat_kw F 1 [] fun _ _ _ _ _ _ us ws h1 h2 => match us, ws, h1, h2 with | [_], [], _, _ => rfl
    | tail _ hp =>
      cases hp

theorem ok__law_box : ∃ fd, DefOk K mg prog glb fns cls 19 t__law_box (He.fAd K ("_law_box", none)) fd := by
  obtain ⟨fd, F⟩ := c.def_ 19 (d := d__law_box) rfl
  refine ⟨fd, He.glo_ok X G (c.fact 19 (f := .glo "_law_box") rfl), ⟨c__law_box, n__law_box, _, _, _, _, _, _, _, rfl, F, by kernel_rfl, rfl, rfl, by kernel_rfl⟩, ?_⟩
  intro p hp
  cases hp with
  | head => exact pat_kw F 2 [] fun _ _ _ _ _ _ us ws h1 h2 => match us, ws, h1, h2 with | [_, _], [], _, _ => rfl
  | tail _ hp =>
    cases hp

theorem ok__law_take : ∃ fd, DefOk K mg prog glb fns cls 20 t__law_take (He.fAd K ("_law_take", none)) fd := by
  obtain ⟨fd, F⟩ := c.def_ 20 (d := d__law_take) rfl
  refine ⟨fd, He.glo_ok X G (c.fact 20 (f := .glo "_law_take") rfl), ⟨c__law_take, n__law_take, _, _, _, _, _, _, _, rfl, F, by kernel_rfl, rfl, rfl, by kernel_rfl⟩, ?_⟩
  intro p hp
  cases hp with
  | head => exact pat_kw F 2 [] fun _ _ _ _ _ _ us ws h1 h2 => match us, ws, h1, h2 with | [_, _], [], _, _ => rfl
  | tail _ hp =>
    cases hp

theorem ok__law_pick : ∃ fd, DefOk K mg prog glb fns cls 21 t__law_pick (He.fAd K ("_law_pick", none)) fd := by
  obtain ⟨fd, F⟩ := c.def_ 21 (d := d__law_pick) rfl
  refine ⟨fd, He.glo_ok X G (c.fact 21 (f := .glo "_law_pick") rfl), ⟨c__law_pick, n__law_pick, _, _, _, _, _, _, _, rfl, F, by kernel_rfl, rfl, rfl, by kernel_rfl⟩, ?_⟩
  intro p hp
  cases hp with
  | head => exact pat_kw F 2 [] fun _ _ _ _ _ _ us ws h1 h2 => match us, ws, h1, h2 with | [_, _], [], _, _ => rfl
  | tail _ hp =>
    cases hp

theorem ok__law_same : ∃ fd, DefOk K mg prog glb fns cls 22 t__law_same (He.fAd K ("_law_same", none)) fd := by
  obtain ⟨fd, F⟩ := c.def_ 22 (d := d__law_same) rfl
  refine ⟨fd, He.glo_ok X G (c.fact 22 (f := .glo "_law_same") rfl), ⟨c__law_same, n__law_same, _, _, _, _, _, _, _, rfl, F, by kernel_rfl, rfl, rfl, by kernel_rfl⟩, ?_⟩
  intro p hp
  cases hp with
  | head => exact pat_kw F 2 [] fun _ _ _ _ _ _ us ws h1 h2 => match us, ws, h1, h2 with | [_, _], [], _, _ => rfl
  | tail _ hp =>
    cases hp

theorem ok__law_bent : ∃ fd, DefOk K mg prog glb fns cls 23 t__law_bent (He.fAd K ("_law_bent", none)) fd := by
  obtain ⟨fd, F⟩ := c.def_ 23 (d := d__law_bent) rfl
  refine ⟨fd, He.glo_ok X G (c.fact 23 (f := .glo "_law_bent") rfl), ⟨c__law_bent, n__law_bent, _, _, _, _, _, _, _, rfl, F, by kernel_rfl, rfl, rfl, by kernel_rfl⟩, ?_⟩
  intro p hp
  cases hp with
  | head => exact pat_kw F 2 [] fun _ _ _ _ _ _ us ws h1 h2 => match us, ws, h1, h2 with | [_, _], [], _, _ => rfl
  | tail _ hp =>
    cases hp

theorem ok__law_is_number : ∃ fd, DefOk K mg prog glb fns cls 24 t__law_is_number (He.fAd K ("_law_is_number", none)) fd := by
  obtain ⟨fd, F⟩ := c.def_ 24 (d := d__law_is_number) rfl
  refine ⟨fd, He.glo_ok X G (c.fact 24 (f := .glo "_law_is_number") rfl), ⟨c__law_is_number, n__law_is_number, _, _, _, _, _, _, _, rfl, F, by kernel_rfl, rfl, rfl, by kernel_rfl⟩, ?_⟩
  intro p hp
  cases hp with
  | head => exact pat_kw F 2 [] fun _ _ _ _ _ _ us ws h1 h2 => match us, ws, h1, h2 with | [_, _], [], _, _ => rfl
  | tail _ hp =>
    cases hp

theorem ok__law_is_sure : ∃ fd, DefOk K mg prog glb fns cls 25 t__law_is_sure (He.fAd K ("_law_is_sure", none)) fd := by
  obtain ⟨fd, F⟩ := c.def_ 25 (d := d__law_is_sure) rfl
  refine ⟨fd, He.glo_ok X G (c.fact 25 (f := .glo "_law_is_sure") rfl), ⟨c__law_is_sure, n__law_is_sure, _, _, _, _, _, _, _, rfl, F, by kernel_rfl, rfl, rfl, by kernel_rfl⟩, ?_⟩
  intro p hp
  cases hp with
  | head => exact pat_kw F 1 [] fun _ _ _ _ _ _ us ws h1 h2 => match us, ws, h1, h2 with | [_], [], _, _ => rfl
  | tail _ hp =>
    cases hp

theorem ok__law_is_row : ∃ fd, DefOk K mg prog glb fns cls 26 t__law_is_row (He.fAd K ("_law_is_row", none)) fd := by
  obtain ⟨fd, F⟩ := c.def_ 26 (d := d__law_is_row) rfl
  refine ⟨fd, He.glo_ok X G (c.fact 26 (f := .glo "_law_is_row") rfl), ⟨c__law_is_row, n__law_is_row, _, _, _, _, _, _, _, rfl, F, by kernel_rfl, rfl, rfl, by kernel_rfl⟩, ?_⟩
  intro p hp
  cases hp with
  | head => exact pat_kw F 1 [] fun _ _ _ _ _ _ us ws h1 h2 => match us, ws, h1, h2 with | [_], [], _, _ => rfl
  | tail _ hp =>
    cases hp

theorem ok__law_some_form : ∃ fd, DefOk K mg prog glb fns cls 27 t__law_some_form (He.fAd K ("_law_some_form", none)) fd := by
  obtain ⟨fd, F⟩ := c.def_ 27 (d := d__law_some_form) rfl
  refine ⟨fd, He.glo_ok X G (c.fact 27 (f := .glo "_law_some_form") rfl), ⟨c__law_some_form, n__law_some_form, _, _, _, _, _, _, _, rfl, F, by kernel_rfl, rfl, rfl, by kernel_rfl⟩, ?_⟩
  intro p hp
  cases hp with
  | head => exact pat_kw F 1 [] fun _ _ _ _ _ _ us ws h1 h2 => match us, ws, h1, h2 with | [_], [], _, _ => rfl
  | tail _ hp =>
    cases hp

theorem ok_law : ∃ fd, DefOk K mg prog glb fns cls 28 t_law (He.fAd K ("law", none)) fd := by
  obtain ⟨fd, F⟩ := c.def_ 28 (d := d_law) rfl
  refine ⟨fd, He.glo_ok X G (c.fact 28 (f := .glo "law") rfl), ⟨c_law, n_law, _, _, _, _, _, _, _, rfl, F, by kernel_rfl, rfl, rfl, by kernel_rfl⟩, ?_⟩
  intro p hp
  cases hp with
  | head => exact pat_kw F 1 [] fun _ _ _ _ _ _ us ws h1 h2 => match us, ws, h1, h2 with | [_], [], _, _ => rfl
  | tail _ hp =>
    cases hp

theorem ok_Reader_init : ∃ fd, DefOk K mg prog glb fns cls 29 t_Reader_init (He.fAd K ("Reader", some "__init__")) fd := by
  obtain ⟨fd, F⟩ := c.def_ 29 (d := d_Reader_init) rfl
  refine ⟨fd, ⟨He.meth_ok (c.fact 33 (f := .meth "Reader" "__init__") rfl), fun _ => ⟨He.mkr_ok (c.fact 37 (f := .mkr "Reader") rfl), He.glo_ok X G (c.fact 29 (f := .glo "Reader") rfl)⟩⟩, ⟨c_Reader_init, n_Reader_init, _, _, _, _, _, _, _, rfl, F, by kernel_rfl, rfl, rfl, by kernel_rfl⟩, ?_⟩
  intro p hp
  cases hp with
  | head => exact pat_kw F 2 [] fun _ _ _ _ _ _ us ws h1 h2 => match us, ws, h1, h2 with | [_, _], [], _, _ => rfl
  | tail _ hp =>
    cases hp

theorem ok_Reader_one : ∃ fd, DefOk K mg prog glb fns cls 30 t_Reader_one (He.fAd K ("Reader", some "one")) fd := by
  obtain ⟨fd, F⟩ := c.def_ 30 (d := d_Reader_one) rfl
  refine ⟨fd, ⟨He.meth_ok (c.fact 34 (f := .meth "Reader" "one") rfl), fun h => absurd h (by decide)⟩, ⟨c_Reader_one, n_Reader_one, _, _, _, _, _, _, _, rfl, F, by kernel_rfl, rfl, rfl, by kernel_rfl⟩, ?_⟩
  intro p hp
  cases hp with
  | head => exact pat_kw F 1 [] fun _ _ _ _ _ _ us ws h1 h2 => match us, ws, h1, h2 with | [_], [], _, _ => rfl
  | tail _ hp =>
    cases hp

theorem ok_Reader_number : ∃ fd, DefOk K mg prog glb fns cls 31 t_Reader_number (He.fAd K ("Reader", some "number")) fd := by
  obtain ⟨fd, F⟩ := c.def_ 31 (d := d_Reader_number) rfl
  refine ⟨fd, ⟨He.meth_ok (c.fact 35 (f := .meth "Reader" "number") rfl), fun h => absurd h (by decide)⟩, ⟨c_Reader_number, n_Reader_number, _, _, _, _, _, _, _, rfl, F, by kernel_rfl, rfl, rfl, by kernel_rfl⟩, ?_⟩
  intro p hp
  cases hp with
  | head => exact pat_kw F 1 [] fun _ _ _ _ _ _ us ws h1 h2 => match us, ws, h1, h2 with | [_], [], _, _ => rfl
  | tail _ hp =>
    cases hp

theorem ok_Reader_sign : ∃ fd, DefOk K mg prog glb fns cls 32 t_Reader_sign (He.fAd K ("Reader", some "sign")) fd := by
  obtain ⟨fd, F⟩ := c.def_ 32 (d := d_Reader_sign) rfl
  refine ⟨fd, ⟨He.meth_ok (c.fact 36 (f := .meth "Reader" "sign") rfl), fun h => absurd h (by decide)⟩, ⟨c_Reader_sign, n_Reader_sign, _, _, _, _, _, _, _, rfl, F, by kernel_rfl, rfl, rfl, by kernel_rfl⟩, ?_⟩
  intro p hp
  cases hp with
  | head => exact pat_kw F 1 [] fun _ _ _ _ _ _ us ws h1 h2 => match us, ws, h1, h2 with | [_], [], _, _ => rfl
  | tail _ hp =>
    cases hp

theorem ok_all : ∀ f ft, fns[f]? = some ft → ∃ a fd, DefOk K mg prog glb fns cls f ft a fd
  | 0, _, h => by cases h; exact ⟨_, ok_xored X G c⟩
  | 1, _, h => by cases h; exact ⟨_, ok_weighed X G c⟩
  | 2, _, h => by cases h; exact ⟨_, ok_head_of X G c⟩
  | 3, _, h => by cases h; exact ⟨_, ok_foot_of X G c⟩
  | 4, _, h => by cases h; exact ⟨_, ok_frame X G c⟩
  | 5, _, h => by cases h; exact ⟨_, ok_frames_of X G c⟩
  | 6, _, h => by cases h; exact ⟨_, ok_is_int X G c⟩
  | 7, _, h => by cases h; exact ⟨_, ok_is_number X G c⟩
  | 8, _, h => by cases h; exact ⟨_, ok_is_tuple X G c⟩
  | 9, _, h => by cases h; exact ⟨_, ok_counted X G c⟩
  | 10, _, h => by cases h; exact ⟨_, ok_packed X G c⟩
  | 11, _, h => by cases h; exact ⟨_, ok_plain_part X G c⟩
  | 12, _, h => by cases h; exact ⟨_, ok_unpacked X G c⟩
  | 13, _, h => by cases h; exact ⟨_, ok_is_between X G c⟩
  | 14, _, h => by cases h; exact ⟨_, ok_is_sure_told X G c⟩
  | 15, _, h => by cases h; exact ⟨_, ok_is_row X G c⟩
  | 16, _, h => by cases h; exact ⟨_, ok_journal_octets X G c⟩
  | 17, _, h => by cases h; exact ⟨_, ok_row_of_frame X G c⟩
  | 18, _, h => by cases h; exact ⟨_, ok_read_journal X G c⟩
  | 19, _, h => by cases h; exact ⟨_, ok__law_box X G c⟩
  | 20, _, h => by cases h; exact ⟨_, ok__law_take X G c⟩
  | 21, _, h => by cases h; exact ⟨_, ok__law_pick X G c⟩
  | 22, _, h => by cases h; exact ⟨_, ok__law_same X G c⟩
  | 23, _, h => by cases h; exact ⟨_, ok__law_bent X G c⟩
  | 24, _, h => by cases h; exact ⟨_, ok__law_is_number X G c⟩
  | 25, _, h => by cases h; exact ⟨_, ok__law_is_sure X G c⟩
  | 26, _, h => by cases h; exact ⟨_, ok__law_is_row X G c⟩
  | 27, _, h => by cases h; exact ⟨_, ok__law_some_form X G c⟩
  | 28, _, h => by cases h; exact ⟨_, ok_law X G c⟩
  | 29, _, h => by cases h; exact ⟨_, ok_Reader_init X G c⟩
  | 30, _, h => by cases h; exact ⟨_, ok_Reader_one X G c⟩
  | 31, _, h => by cases h; exact ⟨_, ok_Reader_number X G c⟩
  | 32, _, h => by cases h; exact ⟨_, ok_Reader_sign X G c⟩
  | n + 33, _, h => by simp [fns] at h
theorem cls_all : ∀ p ∈ cls, Cls K (cAd K p.1) ∧ ∀ f ∈ p.2, NoAttr K (cAd K p.1) f := by
  intro p hp
  rcases List.mem_cons.mp hp with rfl | hp
  · refine ⟨He.cls_ok (c.fact 30 (f := .cls "Reader") rfl), fun f hf => ?_⟩
    rcases List.mem_cons.mp hf with rfl | hf
    · exact He.noat_ok (c.fact 31 (f := .noat "Reader" "given") rfl)
    rcases List.mem_cons.mp hf with rfl | hf
    · exact He.noat_ok (c.fact 32 (f := .noat "Reader" "spot") rfl)
    cases hf
  cases hp
theorem bi_all : ∀ x ∈ bltNames, mg x = none := by
  intro x hx
  rcases List.mem_cons.mp hx with rfl | hx
  · exact He.free_ok X G (c.fact 38 (f := .free "len") rfl)
  rcases List.mem_cons.mp hx with rfl | hx
  · exact He.free_ok X G (c.fact 39 (f := .free "abs") rfl)
  rcases List.mem_cons.mp hx with rfl | hx
  · exact He.free_ok X G (c.fact 40 (f := .free "int") rfl)
  rcases List.mem_cons.mp hx with rfl | hx
  · exact He.free_ok X G (c.fact 41 (f := .free "max") rfl)
  rcases List.mem_cons.mp hx with rfl | hx
  · exact He.free_ok X G (c.fact 42 (f := .free "min") rfl)
  rcases List.mem_cons.mp hx with rfl | hx
  · exact He.free_ok X G (c.fact 43 (f := .free "sum") rfl)
  rcases List.mem_cons.mp hx with rfl | hx
  · exact He.free_ok X G (c.fact 44 (f := .free "all") rfl)
  rcases List.mem_cons.mp hx with rfl | hx
  · exact He.free_ok X G (c.fact 45 (f := .free "any") rfl)
  rcases List.mem_cons.mp hx with rfl | hx
  · exact He.free_ok X G (c.fact 46 (f := .free "tuple") rfl)
  rcases List.mem_cons.mp hx with rfl | hx
  · exact He.free_ok X G (c.fact 47 (f := .free "list") rfl)
  rcases List.mem_cons.mp hx with rfl | hx
  · exact He.free_ok X G (c.fact 48 (f := .free "sorted") rfl)
  rcases List.mem_cons.mp hx with rfl | hx
  · exact He.free_ok X G (c.fact 49 (f := .free "str") rfl)
  rcases List.mem_cons.mp hx with rfl | hx
  · exact He.free_ok X G (c.fact 50 (f := .free "set") rfl)
  rcases List.mem_cons.mp hx with rfl | hx
  · exact He.free_ok X G (c.fact 51 (f := .free "bool") rfl)
  rcases List.mem_cons.mp hx with rfl | hx
  · exact He.free_ok X G (c.fact 52 (f := .free "isinstance") rfl)
  rcases List.mem_cons.mp hx with rfl | hx
  · exact He.free_ok X G (c.fact 53 (f := .free "range") rfl)
  rcases List.mem_cons.mp hx with rfl | hx
  · exact He.free_ok X G (c.fact 54 (f := .free "enumerate") rfl)
  rcases List.mem_cons.mp hx with rfl | hx
  · exact He.free_ok X G (c.fact 55 (f := .free "zip") rfl)
  cases hx
omit X G c in
theorem facts {P : Program} {w : World} (X : K.In h) (G : h.Ns mainGlobals mg) (c : He.SaysD fa fn K) (gb : globsB K glb = true) : ∃ fd : FuncData, (∀ (s : Shared) (v : Value), BindsTo s fd ⟨[v], []⟩ [("script", v)]) ∧ mg "law" = some (.ref (He.fAd K ("law", none))) ∧ ∀ base : Heap, K.In base → base.Ns mainGlobals mg → FnOk P w K mg base PyE.CX0 60 (He.fAd K ("law", none)) fd ["script"] (spF K (callF prog 30) 28) := by
  obtain ⟨fd, d⟩ := ok_law X G c
  obtain ⟨fd', F⟩ := c.def_ 28 (d := d_law) rfl
  have hm := d.mg
  have hfd : fd = fd' := by
    obtain ⟨_, _, _, _, _, _, _, _, _, _, F', _⟩ := d.ex
    obtain ⟨_, _, _, _, _, _, _, _, _, _, e1, l1, _⟩ := F'.ex
    obtain ⟨_, _, _, _, _, _, _, _, _, _, e2, l2, _⟩ := F.ex
    have l3 := Option.some.inj (l1.symm.trans l2)
    cases l3
    rfl
  subst hfd
  have b := FunD.bindsA (ps := ["script"]) F fun _ _ _ _ _ _ us hl => match us, hl with | [_], _ => rfl
  exact ⟨fd, fun s v => b s [v] rfl, hm, fun base _ _ => fn_all (globs_ok X G gb) (cls_all X G c) (bi_all X G c) (ok_all X G c) 30 28 t_law _ fd d⟩
end
end K83
open PySem PySem.W PySem.Calls PyProof.Rows
theorem PySem.Challenge.cw_meantlog_k83_journals_as_octets_holds : PySem.Challenge.rw_meantlog_k83_journals_as_octets.Holds := by
  w_on; o_law
  refine HandSHeadRun.head_any (r := OpenLaw.row PySem.Challenge.rw_meantlog_k83_journals_as_octets) (q := view (OpenLaw.row PySem.Challenge.rw_meantlog_k83_journals_as_octets).prog [50]) (H := K83.hk) (ob := K83.ob) (M := 3000) (loose := K83.loose) (d := HandSHeadRun.topDef (OpenLaw.row PySem.Challenge.rw_meantlog_k83_journals_as_octets).prog 50) (kwd := []) K83.ob_eq
    (by kernel_rfl) (fun s => by kernel_rfl) K83.run (by kernel_rfl) (by kernel_rfl) (by kernel_rfl) (by rfl) (by first | assumption | decide +kernel) (by decide +kernel) ⟨rfl, rfl, rfl, rfl, rfl, by decide +kernel⟩ ?hw ?hc
  case hw => w_witness2
  case hc =>
    refine L2.walk_ofE (l := PySem.Challenge.rw_meantlog_k83_journals_as_octets) (n := 63) (k := 60) (x := "script") (CX := PyE.CX0) rfl (by decide) (by kernel_rfl) ⟨rfl, by decide, by decide⟩ ?F (fun _ _ _ _ z => z)
    intro w mg fa h Y G hmg0
    obtain ⟨K, KX, c, nl, gb⟩ := Y
    have hmg : mg ("law" : PySem.Str) = some (.ref fa) := by
      have e : (HandSHeadRun.topDef (OpenLaw.row PySem.Challenge.rw_meantlog_k83_journals_as_octets).prog 50).name = ("law" : PySem.Str) := by kernel_rfl
      rw [← e]
      exact hmg0
    obtain ⟨fd, hb, hm, hF⟩ := K83.facts (P := (PySem.Challenge.rw_meantlog_k83_journals_as_octets).prog) (w := w) KX G c gb
    have e := hmg.symm.trans hm
    cases e
    exact ⟨K, fd, _, KX, hb, fun H a ns hl _ hS => PyE.spF_law nl hS (K83.law_true ns hl), hF⟩


