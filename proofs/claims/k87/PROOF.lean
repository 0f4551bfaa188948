import PyProof.Rows.All
import Wide.All
import OpenK.AllK
import Wide.FinOn
import HandS.ForMost
import HandS.Exc
import HandS.TryOnly
import HandS.ExcOwn
import HandS.ExcInit
import HandS.ExcField
import HandS.RaiseMore
import HandS.TupAny
import HandS.Wide
import HandS.WideBits
import HandS.Strs
import HandS.SortKw
import HandS.Conv
import HandS.IsInst
import HandS.Style
import HandS.NoneIn
import HandS.Deep
import HandS.Lambda
import HandS.Defaults
import KE.KIntText
import KE.DataMinMax
import KE.KIndexOf
import HandS.Star
import HandS.Zip
import HandS.Small
import PyProof.InstNe
import HandS.ExcIs
import HandS.EndTab
import HandS.SetFor
import HandS.EndBits
import HandS.HeadHook4
import PyProof.ExcBaseAll.ValueError
import KE.KStateDown
import HandS.Head2
import HandS.Words
import HandS.WordsExc
import HandS.Replace
import PySem.Challenge.RW_turnproducts_k87_whole_consoles_beside_b
set_option linter.all false
set_option maxRecDepth 100000
/-! Ev1: a small evaluator for the part of Python that these laws use, over plain data; no model in sight. -/
namespace Ev
/-- texts and names: their code points -/
abbrev Nm := List Nat
/-- values: plain data are themselves, what may change is a place in the heap -/
inductive D where
  | non | bl (b : Bool) | int (i : Int) | str (s : Nm)
  | tup (xs : List D) | wtp (xs : List D) | lst (xs : List D) | ro (xs : List D)
  | loc (n : Nat)
  deriving Inhabited
inductive Cell where
  | lst (xs : List D)
  | ins (c : Nat) (fs : List (Nm × D))
  | dead
  deriving Inhabited
abbrev Hd := List Cell
abbrev Sl := List (Option D)
abbrev Pl := List (Nm × D)
/-- an end: a value, or an own error with its fields -/
inductive Rr (α : Type) where
  | ok (a : α) | ex (c : Nat) (pl : Pl)
abbrev M (α : Type) := Hd → Option (Rr α × Hd)
def bnd {α β : Type} (m : M α) (f : α → M β) : M β := fun h => match m h with
  | none => none
  | some (.ok a, h1) => f a h1
  | some (.ex c pl, h1) => some (.ex c pl, h1)
def ret {α : Type} (a : α) : M α := fun h => some (.ok a, h)
def stuck {α : Type} : M α := fun _ => none
def opt {α : Type} : Option α → M α
  | none => stuck
  | some a => ret a
/-! ### data -/
def szL : Nat := 16777216
mutual
/-- no place of the heap within -/
def pureD : D → Bool
  | .non | .bl _ | .int _ | .str _ => true
  | .tup xs | .wtp xs | .lst xs | .ro xs => pureDs xs
  | .loc _ => false
def pureDs : List D → Bool
  | [] => true
  | x :: xs => pureD x && pureDs xs
end
mutual
/-- Python's == on data -/
def deq : D → D → Bool
  | .non, .non => true
  | .bl a, .bl b => a == b
  | .bl a, .int j => (if a then 1 else 0) == j
  | .int i, .bl b => i == (if b then 1 else 0)
  | .int i, .int j => i == j
  | .str x, .str y => x == y
  | .tup xs, .tup ys => deqs xs ys
  | .lst xs, .lst ys => deqs xs ys
  | _, _ => false
def deqs : List D → List D → Bool
  | [], [] => true
  | x :: xs, y :: ys => deq x y && deqs xs ys
  | _, _ => false
end
mutual
/-- data that == takes: none, bools, ints, texts, lists, tuples -/
def eqable : D → Bool
  | .non | .bl _ | .int _ => true
  | .str s => s.all (fun c => decide (c < 1114112))
  | .tup xs | .lst xs => eqables xs
  | _ => false
def eqables : List D → Bool
  | [] => true
  | x :: xs => eqable x && eqables xs
end
mutual
def dep : D → Nat
  | .tup xs | .lst xs => deps xs + 1
  | _ => 0
def deps : List D → Nat
  | [] => 0
  | x :: xs => max (dep x) (deps xs)
end
/-- a list that stands in the heap, as a value -/
def see (h : Hd) : D → D
  | .loc n => match h[n]? with
    | some (.lst xs) => .lst xs
    | _ => .loc n
  | d => d
def eqD (a b : D) : Option Bool := if eqable a && eqable b && decide (dep a ≤ 60) && decide (dep b ≤ 60) then some (deq a b) else none
/-- flat things -/
def flat : D → Bool
  | .non | .bl _ | .int _ | .str _ => true
  | _ => false
/-- a value's truth -/
def truD (h : Hd) (d : D) : Option Bool := match see h d with
  | .non => some false
  | .bl b => some b
  | .int i => some (i != 0)
  | .str s => if s.length ≤ szL then some (!s.isEmpty) else none
  | .tup xs | .lst xs | .ro xs => some (!xs.isEmpty)
  | _ => none
/-! ### operators -/
inductive Bop where
  | add | sub | mul | fdiv | mod | pow
  deriving DecidableEq
inductive Cop where
  | eq | ne | lt | le | gt | ge | isN | notN | isT | notT | isin | notin
  deriving DecidableEq
def small (i : Int) : Bool := decide (-18446744073709551616 < i) && decide (i < 18446744073709551616)
def rep {α : Type} (xs : List α) : Nat → List α
  | 0 => []
  | n + 1 => xs ++ rep xs n
def binD (o : Bop) (a b : D) : Option D := match o, a, b with
  | .add, .int i, .int j => some (.int (i + j))
  | .add, .str x, .str y => if x.length + y.length ≤ szL then some (.str (x ++ y)) else none
  | .add, .tup x, .tup y => if x.length + y.length ≤ szL then some (.tup (x ++ y)) else none
  | .add, .lst x, .lst y => if x.length + y.length ≤ szL then some (.lst (x ++ y)) else none
  | .sub, .int i, .int j => some (.int (i - j))
  | .mul, .int i, .int j => if small i || small j || (decide (i.natAbs.log2 + j.natAbs.log2 < 1000000)) then some (.int (i * j)) else none
  | .mul, .lst x, .int k => if decide (-1000000 ≤ k) && decide (k ≤ 1000000) && decide (x.length * k.toNat ≤ szL) then some (.lst (rep x k.toNat)) else none
  | .fdiv, .int i, .int j => if decide (0 < j) && decide (j < 1073741824) then some (.int (i / j)) else none
  | .mod, .int i, .int j => if decide (0 < j) then some (.int (i % j)) else none
  | .pow, .int i, .int j => if decide (0 ≤ j) && decide (j ≤ 1000000) && decide (i.natAbs < 18446744073709551616) then some (.int (i ^ j.toNat)) else none
  | _, _, _ => none
/-- x in a sequence -/
def inD (x : D) (ys : List D) : Option Bool :=
  if eqable x && eqables ys && decide (dep x ≤ 60) && decide (deps ys ≤ 60) then some (ys.any fun y => deq y x) else none
/-- a text's beginning -/
def pre : Nm → Nm → Bool
  | [], _ => true
  | _, [] => false
  | a :: as, b :: bs => a == b && pre as bs
def ordI (o : Cop) (i j : Int) : Option Bool := match o with
  | .lt => some (decide (i < j))
  | .le => some (decide (i ≤ j))
  | .gt => some (decide (j < i))
  | .ge => some (decide (j ≤ i))
  | _ => none
def allI : List D → Option (List Int)
  | [] => some []
  | .int i :: r => match allI r with
    | some l => some (i :: l)
    | none => none
  | _ => none
def lexLt : List Int → List Int → Bool
  | [], [] => false
  | [], _ :: _ => true
  | _ :: _, [] => false
  | x :: xs, y :: ys => if x = y then lexLt xs ys else decide (x < y)
def isNon : D → Bool
  | .non => true
  | _ => false
def cmpD (o : Cop) (h : Hd) (a b : D) : Option Bool := match o with
  | .eq => eqD (see h a) (see h b)
  | .ne => match eqD (see h a) (see h b) with
    | some r => some (!r)
    | none => none
  | .isN => match b with
    | .non => some (isNon a)
    | _ => none
  | .notN => match b with
    | .non => some (!isNon a)
    | _ => none
  | .isT => match a, b with
    | .bl x, .bl y => some (x == y)
    | _, _ => none
  | .notT => match a, b with
    | .bl x, .bl y => some (!(x == y))
    | _, _ => none
  | .isin => match a, see h b with
    | .str [c], .str y => some (y.contains c)
    | x, .tup ys | x, .lst ys => inD x ys
    | _, _ => none
  | .notin => match a, see h b with
    | .str [c], .str y => some (!y.contains c)
    | x, .tup ys | x, .lst ys => match inD x ys with
      | some r => some (!r)
      | none => none
    | _, _ => none
  | o => match a, b with
    | .int i, .int j => ordI o i j
    | _, _ => none
/-! ### places -/
def ixN (n : Nat) (i : Int) : Option Nat := if 0 ≤ i then (if i < n then some i.toNat else none) else if -(n : Int) ≤ i then some (i + n).toNat else none
def atI {α : Type} (xs : List α) (i : Int) : Option α := match ixN xs.length i with
  | some j => xs[j]?
  | none => none
def subD (h : Hd) (a b : D) : Option D := match see h a, b with
  | .tup xs, .int i | .lst xs, .int i | .ro xs, .int i => atI xs i
  | .str s, .int i => if s.length ≤ szL then (match atI s i with
    | some c => some (.str [c])
    | none => none) else none
  | _, _ => none
def sIx (n d : Nat) : Option Int → Nat
  | none => d
  | some v => if v < 0 then (v + (n : Int)).toNat else min v.toNat n
def cut {α : Type} (xs : List α) (lo hi : Option Int) : List α := (xs.drop (sIx xs.length 0 lo)).take (sIx xs.length xs.length hi - sIx xs.length 0 lo)
def slcD (h : Hd) (a : D) (lo hi : Option Int) : Option D := match see h a with
  | .tup xs => some (.tup (cut xs lo hi))
  | .lst xs | .ro xs => some (.lst (cut xs lo hi))
  | .str s => if s.length ≤ szL then some (.str (cut s lo hi)) else none
  | _ => none
/-! ### built-ins -/
inductive Bi where
  | len | tuple | list | all | any | sum | min | max | abs | int | str | repr | sorted | sortedR | divmod | lenset
  deriving DecidableEq
inductive Mi where
  | append | extend | pop | index | join | split | sindex
  deriving DecidableEq
inductive Isi where
  | int | bool | str | tuple | intStr | cls (c : Nat)
  deriving DecidableEq
def natStr (n : Nat) : Nm := (Nat.toDigits 10 n).map Char.toNat
def intStr : Int → Nm
  | .ofNat n => natStr n
  | .negSucc n => 45 :: natStr (n + 1)
def joinS (sep : Nm) : List Nm → Nm
  | [] => []
  | [x] => x
  | x :: xs => x ++ sep ++ joinS sep xs
def allS : List D → Option (List Nm)
  | [] => some []
  | .str i :: r => match allS r with
    | some l => some (i :: l)
    | none => none
  | _ => none
def allB : List D → Option (List Bool)
  | [] => some []
  | .bl i :: r => match allB r with
    | some l => some (i :: l)
    | none => none
  | _ => none
mutual
/-- repr of plain data whose texts are plain -/
def reprD : D → Option Nm
  | .non => some [78, 111, 110, 101]
  | .bl b => some (if b then [84, 114, 117, 101] else [70, 97, 108, 115, 101])
  | .int i => if i.natAbs.log2 < 1920 then some (intStr i) else none
  | .str s => if s.all (fun c => decide (32 ≤ c) && decide (c < 127) && c != 39 && c != 92) then some (39 :: (s ++ [39])) else none
  | .tup xs => match reprDs xs with
    | some [x] => some (40 :: (x ++ [44, 41]))
    | some ts => some (40 :: (joinS [44, 32] ts ++ [41]))
    | none => none
  | .lst xs => match reprDs xs with
    | some ts => some (91 :: (joinS [44, 32] ts ++ [93]))
    | none => none
  | _ => none
def reprDs : List D → Option (List Nm)
  | [] => some []
  | x :: xs => match reprD x, reprDs xs with
    | some t, some ts => some (t :: ts)
    | _, _ => none
end
def insI (x : Int) : List Int → List Int
  | [] => [x]
  | y :: ys => if x ≤ y then x :: y :: ys else y :: insI x ys
def sortI : List Int → List Int
  | [] => []
  | x :: xs => insI x (sortI xs)
def minI (n : Int) (ns : List Int) : Int := ns.foldl min n
def maxI (n : Int) (ns : List Int) : Int := ns.foldl max n
def seqD (h : Hd) (d : D) : Option (List D) := match see h d with
  | .tup xs | .lst xs | .ro xs => some xs
  | _ => none
def nodupI : List Int → Nat
  | [] => 0
  | x :: xs => if xs.contains x then nodupI xs else nodupI xs + 1
def biD (b : Bi) (h : Hd) (vs : List D) : Option D := match b, vs with
  | .len, [x] => match see h x with
    | .tup xs | .lst xs | .ro xs => some (.int xs.length)
    | .str s => if s.length ≤ szL then some (.int s.length) else none
    | _ => none
  | .tuple, [x] => match seqD h x with
    | some xs => some (.tup xs)
    | none => none
  | .list, [x] => match seqD h x with
    | some xs => some (.lst xs)
    | none => none
  | .all, [x] => match see h x with
    | .lst xs => match allB xs with
      | some bs => some (.bl (bs.all id))
      | none => none
    | _ => none
  | .any, [x] => match see h x with
    | .lst xs => match allB xs with
      | some bs => some (.bl (bs.any id))
      | none => none
    | _ => none
  | .sum, [x] => match seqD h x with
    | some xs => match allI xs with
      | some ns => some (.int ns.sum)
      | none => none
    | none => none
  | .min, [x] => match seqD h x with
    | some xs => match allI xs with
      | some (n :: ns) => some (.int (minI n ns))
      | _ => none
    | none => none
  | .max, [x] => match seqD h x with
    | some xs => match allI xs with
      | some (n :: ns) => some (.int (maxI n ns))
      | _ => none
    | none => none
  | .min, [.int i, .int j] => some (.int (if j < i then j else i))
  | .max, [.int i, .int j] => some (.int (if j > i then j else i))
  | .abs, [.int i] => some (.int (if i < 0 then -i else i))
  | .int, [.int i] => some (.int i)
  | .int, [.bl b] => some (.int (if b then 1 else 0))
  | .str, [.str s] => some (.str s)
  | .str, [.int i] => if i.natAbs.log2 < 1920 then some (.str (intStr i)) else none
  | .repr, [x] => match reprD x with
    | some t => if t.length ≤ szL && decide (dep x ≤ 60) then some (.str t) else none
    | none => none
  | .sorted, [x] => match see h x with
    | .lst xs => match allI xs with
      | some ns => if ns.length < 64 then some (.lst ((sortI ns).map .int)) else none
      | none => none
    | _ => none
  | .sortedR, [x] => match see h x with
    | .lst xs => match allI xs with
      | some ns => if ns.length < 64 then some (.lst ((sortI ns).reverse.map .int)) else none
      | none => none
    | _ => none
  | .divmod, [.int i, .int j] => if decide (0 < j) && decide (j < 1073741824) then some (.wtp [.int (i / j), .int (i % j)]) else none
  | .lenset, [x] => match see h x with
    | .tup xs | .lst xs => match allI xs with
      | some ns => if ns.length < 4000 then some (.int (nodupI ns)) else none
      | none => none
    | _ => none
  | _, _ => none
/-- a text cut at each place where another stands, from the left; skip: how much of the last place is still to come -/
def splG (sep : Nm) : Nm → Nat → Nm → List Nm
  | [], _, acc => [acc.reverse]
  | x :: xs, 0, acc => if pre sep (x :: xs) then acc.reverse :: splG sep xs (sep.length - 1) [] else splG sep xs 0 (x :: acc)
  | _ :: xs, k + 1, acc => splG sep xs k acc
def splitS (sep s : Nm) : List Nm := splG sep s 0 []
def mbD (m : Mi) (o : D) (vs : List D) : M D := fun h => match m, o, vs with
  | .append, .loc n, [x] => match h[n]? with
    | some (.lst xs) => if xs.length < szL then some (.ok .non, h.set n (.lst (xs ++ [x]))) else none
    | _ => none
  | .extend, .loc n, [.lst ys] => match h[n]? with
    | some (.lst xs) => if xs.length + ys.length ≤ szL then some (.ok .non, h.set n (.lst (xs ++ ys))) else none
    | _ => none
  | .pop, .loc n, [] => match h[n]? with
    | some (.lst xs) => match xs.getLast? with
      | some y => some (.ok y, h.set n (.lst xs.dropLast))
      | none => none
    | _ => none
  | .pop, .loc n, [.int i] => match h[n]? with
    | some (.lst xs) => match ixN xs.length i with
      | some k => match xs[k]? with
        | some y => if xs.length ≤ szL then some (.ok y, h.set n (.lst (xs.eraseIdx k))) else none
        | none => none
      | none => none
    | _ => none
  | .index, .tup xs, [.int x] => match allI xs with
    | some ns => if ns.contains x then some (.ok (.int (ns.idxOf x : Nat)), h) else none
    | none => none
  | .sindex, .str s, [.str [c]] => if s.contains c then some (.ok (.int (s.idxOf c : Nat)), h) else none
  | .join, .str sep, [x] => match see h x with
    | .lst xs => match allS xs with
      | some ts => if (ts.map List.length).sum + ts.length * sep.length ≤ 16777216 then some (.ok (.str (joinS sep ts)), h) else none
      | none => none
    | _ => none
  | .split, .str s, [.str sep] => if !sep.isEmpty && sep.all (fun c => decide (c < 128)) && decide (s.length + 2 ≤ szL) then some (.ok (.lst ((splitS sep s).map .str)), h) else none
  | _, _, _ => none
/-- the thing has that method -/
def tyMb (m : Mi) (h : Hd) (x : D) : Bool := match m, x with
  | .append, .loc n | .extend, .loc n | .pop, .loc n => match h[n]? with
    | some (.lst _) => true
    | _ => false
  | .index, .tup _ => true
  | .join, .str _ | .split, .str _ | .sindex, .str _ => true
  | _, _ => false
/-- the built-in types -/
inductive Ty where
  | non | bl | int | str | tup | lst
  deriving DecidableEq
def tyD : D → Option Ty
  | .non => some .non
  | .bl _ => some .bl
  | .int _ => some .int
  | .str _ => some .str
  | .tup _ => some .tup
  | .lst _ => some .lst
  | _ => none
def isiT (k : Isi) (t : Ty) : Bool := match k, t with
  | .int, .int | .int, .bl => true
  | .bool, .bl => true
  | .str, .str => true
  | .tuple, .tup => true
  | .intStr, .int | .intStr, .bl | .intStr, .str => true
  | _, _ => false
def isiD (k : Isi) (h : Hd) (d : D) : Option Bool := match tyD (see h d) with
  | some t => some (isiT k t)
  | none => match k, d with
    | .cls c, .loc n => match h[n]? with
      | some (.ins c' _) => if c' = c then some true else none
      | _ => none
    | _, _ => none
/-! ### the words of programs -/
mutual
inductive X where
  | var (i : Nat) | cst (d : D) | glb (k : Nat)
  | bin (o : Bop) (a b : X) | neg (a : X)
  | cmp (o : Cop) (a b : X) | chn (o p : Cop) (a b c : X)
  | nt (a : X) | and (xs : Xs) | or (xs : Xs)
  | ite (t : T) (a b : X)
  | tup (xs : Xs) | lst (xs : Xs) | nlst (xs : Xs)
  | sub (a b : X) | slc (a : X) (lo hi : O)
  | call (f : Nat) (xs : Xs) | callk (f : Nat) (pm : List Nat) (xs : Xs)
  | cb (b : Bi) (xs : Xs)
  | mb (m : Mi) (o : X) (xs : Xs)
  | fld (o : X) (f : Nm)
  | me (c f : Nat) (m : Nm) (o : X) (xs : Xs) | mek (c f : Nat) (m : Nm) (pm : List Nat) (o : X) (xs : Xs)
  | mk (c f : Nat) (xs : Xs) | mkk (c f : Nat) (pm : List Nat) (xs : Xs)
  | isi (a : X) (k : Isi)
  | lc (vs : List Nat) (g : Tg) (it : It) (t : T) (e : X)
  | lc2 (vs vs1 : List Nat) (g : Tg) (it : It) (t : T) (g1 : Tg) (it1 : It) (t1 : T) (e : X)
  | tryl (f : Nat) (a : X)
  | olist (a : X) | lrng (a : X) | olr (a : X) | lset (a : X) | oeq (neg : Bool) (c f : Nat) (a b : X) | srtR (a : X) | rev (a : X) | din (k : Nat) (a : X) | dget (k : Nat) (a : X)
inductive Xs where
  | nil | cons (a : X) (r : Xs) | star (a : X) (r : Xs)
inductive O where
  | no | yes (a : X)
inductive T where
  | tt | val (a : X) | nt (t : T) | and (ts : Ts) | or (ts : Ts)
inductive Ts where
  | nil | cons (t : T) (r : Ts)
inductive It where
  | seq (a : X) | rng (xs : Xs) | enm (a : X) | zip (a b : X)
inductive Tg where
  | nm (i : Nat) | tp (ts : Tgs) | sb (o i : X) | fd (o : X) (f : Nm)
inductive Tgs where
  | nil | cons (g : Tg) (r : Tgs)
end
mutual
inductive S where
  | asg (g : Tg) (x : X)
  | par (is : List Nat) (xs : Xs)
  | expr (x : X)
  | ret (x : X) | retN
  | ifs (t : T) (a b : Ss)
  | for_ (g : Tg) (it : It) (b : Ss)
  | whl (t : T) (b : Ss)
  | raise (c : Nat) (xs : Xs)
  | try_ (b : Ss) (c : Nat) (hk : Hk)
  | try2 (b : Ss) (c k c2 i : Nat) (f : Nm)
  | pass | brk | cont
  | frz (i : Nat)
inductive Ss where
  | nil | cons (s : S) (r : Ss)
/-- what an except suite does -/
inductive Hk where
  | rtc (d : D) | rtf (i : Nat) (f : Nm) | rti (i : Nat) (b : Bool) | rtg (k : Nat)
end
/-- an end of statements -/
inductive Out where
  | nx (σ : Sl) (h : Hd) | rt (d : D) (h : Hd) | bk (σ : Sl) (h : Hd) | ct (σ : Sl) (h : Hd) | ex (c : Nat) (pl : Pl) (σ : Sl) (h : Hd)
/-- what is known around a def -/
structure Cfg where
  call : Nat → List D → M D
  glb : Nat → Option D
  sub : Nat → Nat → Option Bool       -- the class c stands under the class d
  flds : Nat → List Nm         -- fields of instances
  exf : Nat → List Nm          -- fields of errors
  told : Nat → Option (Nat × Nm × D)   -- defs that call what they get: the error's class, its field, the word else
  dct : Nat → Nm → Option (Option D)   -- written dicts: what is known of a key
  wl : Nat
def lkF (f : Nm) : Pl → Option D
  | [] => none
  | (g, d) :: r => if g = f then some d else lkF f r
def putF (f : Nm) (d : D) : Pl → Pl
  | [] => [(f, d)]
  | (g, e) :: r => if g = f then (g, d) :: r else (g, e) :: putF f d r
/-- the values in another order -/
def permD {α : Type} : List Nat → List α → Option (List α)
  | [], _ => some []
  | i :: is, vs => match vs[i]?, permD is vs with
    | some v, some r => some (v :: r)
    | _, _ => none
def fldD (C : Cfg) (h : Hd) (o : D) (f : Nm) : Option D := match o with
  | .loc n => match h[n]? with
    | some (.ins c fs) => if (C.flds c).contains f then lkF f fs else none
    | _ => none
  | _ => none
def setFD (C : Cfg) (o : D) (f : Nm) (v : D) : M Unit := fun h => match o with
  | .loc n => match h[n]? with
    | some (.ins c fs) => if (C.flds c).contains f && decide (fs.length < 100) then some (.ok (), h.set n (.ins c (putF f v fs))) else none
    | _ => none
  | _ => none
def setSD (o i v : D) : M Unit := fun h => match o, i with
  | .loc n, .int k => match h[n]? with
    | some (.lst xs) => match ixN xs.length k with
      | some j => some (.ok (), h.set n (.lst (xs.set j v)))
      | none => none
    | _ => none
  | _, _ => none
/-- an instance of c that holds no m of its own -/
def isIns (h : Hd) (x : D) (c : Nat) (m : Nm) : Bool := match x with
  | .loc n => match h[n]? with
    | some (.ins c' fs) => c' == c && (lkF m fs).isNone
    | _ => false
  | _ => false
/-- a new instance -/
def mkD (C : Cfg) (c f : Nat) (vs : List D) : M D := fun h => match C.call f (.loc h.length :: vs) (h ++ [.ins c []]) with
  | some (.ok .non, h1) => some (.ok (.loc h.length), h1)
  | some (.ok _, _) => none
  | some (.ex e pl, h1) => some (.ex e pl, h1)
  | none => none
def wipe (σ : Sl) : List Nat → Sl
  | [] => σ
  | v :: vs => (wipe σ vs).set v none
def rngD : List D → Option (List D)
  | [.int j] => if decide (-4611686018427387904 ≤ j) && decide (j < 4611686018427387904) then some ((List.range j.toNat).map fun (i : Nat) => .int (0 + (i : Int))) else none
  | [.int i, .int j] => if decide (-4611686018427387904 ≤ i) && decide (i < 4611686018427387904) && decide (-4611686018427387904 ≤ j) && decide (j < 4611686018427387904) then some ((List.range (j - i).toNat).map fun (k : Nat) => .int (i + (k : Int))) else none
  | _ => none
/-- list(range(..)) -/
def rngL : List D → Option (List D)
  | [.int j] => if decide (-1000000 ≤ j) && decide (j ≤ 1000000) then some ((List.range j.toNat).map fun (i : Nat) => .int (i : Int)) else none
  | _ => none
def enmD : Nat → List D → List D
  | _, [] => []
  | n, x :: xs => .wtp [.int n, x] :: enmD (n + 1) xs
def zipD : List D → List D → List D
  | x :: xs, y :: ys => .wtp [x, y] :: zipD xs ys
  | _, _ => []
/-- what is walked -/
def itD (h : Hd) : D → Option (List D)
  | .tup xs | .lst xs | .ro xs => some xs
  | .str s => some (s.map fun c => .str [c])
  | _ => none
/-- a comprehension's turns -/
def compL (f : D → Hd → Option (Option D × Hd)) : List D → Hd → Option (List D × Hd)
  | [], h => some ([], h)
  | x :: xs, h => match f x h with
    | none => none
    | some (y, h1) => match compL f xs h1 with
      | none => none
      | some (ys, h2) => some ((match y with | none => ys | some v => v :: ys), h2)
/-- one turn of a comprehension -/
def turnF (mg : D → Sl → M Sl) (mt : Sl → M Bool) (me : Sl → M D) (vs : List Nat) (σ : Sl) (x : D) (h : Hd) : Option (Option D × Hd) := match mg x (wipe σ vs) h with
  | some (.ok σ2, h2) => match mt σ2 h2 with
    | some (.ok true, h3) => match me σ2 h3 with
      | some (.ok y, h4) => some (some y, h4)
      | _ => none
    | some (.ok false, h3) => some (none, h3)
    | _ => none
  | _ => none
/-- one item more in a list of ours -/
def pushD (n : Nat) (y : D) (h : Hd) : Option Hd := match h[n]? with
  | some (.lst xs) => if xs.length < szL then some (h.set n (.lst (xs ++ [y]))) else none
  | _ => none
def loopH (f : D → Hd → Option Hd) : List D → Hd → Option Hd
  | [], h => some h
  | x :: xs, h => match f x h with
    | none => none
    | some h1 => loopH f xs h1
/-- a turn of the inner for of a comprehension with two -/
def turnI (mg : D → Sl → M Sl) (mt : Sl → M Bool) (me : Sl → M D) (vs : List Nat) (n : Nat) (σ : Sl) (x : D) (h : Hd) : Option Hd := match mg x (wipe σ vs) h with
  | some (.ok σ2, h2) => match mt σ2 h2 with
    | some (.ok true, h3) => match me σ2 h3 with
      | some (.ok y, h4) => pushD n y h4
      | _ => none
    | some (.ok false, h3) => some h3
    | _ => none
  | _ => none
/-- a turn of the outer one -/
def turnO (mg : D → Sl → M Sl) (mt : Sl → M Bool) (mi : Sl → M (List D)) (f : Sl → D → Hd → Option Hd) (vs : List Nat) (σ : Sl) (x : D) (h : Hd) : Option Hd := match mg x (wipe σ vs) h with
  | some (.ok σ2, h2) => match mt σ2 h2 with
    | some (.ok true, h3) => match mi σ2 h3 with
      | some (.ok its, h4) => loopH (f σ2) its h4
      | _ => none
    | some (.ok false, h3) => some h3
    | _ => none
  | _ => none
/-- is y such that the class's own __eq__ is asked -/
def eqOk (neg : Bool) (h : Hd) (c : Nat) (y : D) : Bool := match y with
  | .loc m => match h[m]? with
    | some (.ins c' _) => c' == c
    | _ => false
  | y => !neg && (tyD y).isSome
def insOf (h : Hd) (x : D) (c : Nat) : Bool := match x with
  | .loc n => match h[n]? with
    | some (.ins c' _) => c' == c
    | _ => false
  | _ => false
def oeqM (F : List D → M D) (neg : Bool) (c : Nat) (x y : D) : M D := fun h => if insOf h x c && eqOk neg h c y then (match F [x, y] h with
  | some (.ok (.bl r), h1) => some (.ok (.bl (if neg then !r else r)), h1)
  | _ => none) else none
def tgsLen : Tgs → Nat
  | .nil => 0
  | .cons _ r => tgsLen r + 1
mutual
def evX (C : Cfg) : X → Sl → M D
  | .var i, σ => fun h => match σ[i]? with
    | some (some d) => some (.ok d, h)
    | _ => none
  | .cst d, _ => ret d
  | .glb k, _ => opt (C.glb k)
  | .bin o a b, σ => bnd (evX C a σ) fun x => bnd (evX C b σ) fun y => fun h => opt (binD o (see h x) (see h y)) h
  | .neg a, σ => bnd (evX C a σ) fun x => match x with
    | .int i => ret (.int (-i))
    | _ => stuck
  | .cmp o a b, σ => bnd (evX C a σ) fun x => bnd (evX C b σ) fun y => fun h => match cmpD o h x y with
    | some r => some (.ok (.bl r), h)
    | none => none
  | .chn o p a b c, σ => bnd (evX C a σ) fun x => bnd (evX C b σ) fun y => fun h => match cmpD o h x y with
    | some true => bnd (evX C c σ) (fun z => fun h2 => match cmpD p h2 y z with
      | some r => some (.ok (.bl r), h2)
      | none => none) h
    | some false => some (.ok (.bl false), h)
    | none => none
  | .nt a, σ => bnd (evX C a σ) fun x => match x with
    | .bl b => ret (.bl (!b))
    | _ => stuck
  | .and xs, σ => evAnd C xs σ
  | .or xs, σ => evOr C xs σ
  | .ite t a b, σ => bnd (evT C t σ) fun k => if k then evX C a σ else evX C b σ
  | .tup xs, σ => bnd (evXs C xs σ) fun vs => if vs.length ≤ szL then ret (.tup vs) else stuck
  | .lst xs, σ => bnd (evXs C xs σ) fun vs => if vs.length ≤ szL then ret (.lst vs) else stuck
  | .nlst xs, σ => bnd (evXs C xs σ) fun vs => fun h => if vs.length ≤ szL then some (.ok (.loc h.length), h ++ [.lst vs]) else none
  | .sub a b, σ => bnd (evX C a σ) fun x => bnd (evX C b σ) fun y => fun h => opt (subD h x y) h
  | .slc a lo hi, σ => bnd (evX C a σ) fun x => bnd (evO C lo σ) fun l => bnd (evO C hi σ) fun u => fun h => opt (slcD h x l u) h
  | .call f xs, σ => bnd (evXs C xs σ) fun vs => C.call f vs
  | .callk f pm xs, σ => bnd (evXs C xs σ) fun vs => match permD pm vs with
    | some us => C.call f us
    | none => stuck
  | .cb b xs, σ => bnd (evXs C xs σ) fun vs => fun h => opt (biD b h vs) h
  | .mb m o xs, σ => bnd (evX C o σ) fun x => fun h => if tyMb m h x then bnd (evXs C xs σ) (fun vs => mbD m x vs) h else none
  | .fld o f, σ => bnd (evX C o σ) fun x => fun h => opt (fldD C h x f) h
  | .me c f m o xs, σ => bnd (evX C o σ) fun x => fun h => if isIns h x c m then bnd (evXs C xs σ) (fun vs => C.call f (x :: vs)) h else none
  | .mek c f m pm o xs, σ => bnd (evX C o σ) fun x => fun h => if isIns h x c m then bnd (evXs C xs σ) (fun vs => match permD pm (x :: vs) with
    | some us => C.call f us
    | none => stuck) h else none
  | .mk c f xs, σ => bnd (evXs C xs σ) fun vs => mkD C c f vs
  | .mkk c f pm xs, σ => bnd (evXs C xs σ) fun vs => match permD pm vs with
    | some us => mkD C c f us
    | none => stuck
  | .isi a k, σ => bnd (evX C a σ) fun x => fun h => match isiD k h x with
    | some r => some (.ok (.bl r), h)
    | none => none
  | .lc vs g it t e, σ => bnd (evIt C it σ) fun its => fun h => match compL (turnF (evTg C g) (evT C t) (evX C e) vs σ) its h with
    | some (ys, h1) => if ys.length ≤ szL then some (.ok (.lst ys), h1) else none
    | none => none
  | .lc2 vs vs1 g it t g1 it1 t1 e, σ => bnd (evIt C it σ) fun its => fun h => match loopH (turnO (evTg C g) (evT C t) (evIt C it1) (turnI (evTg C g1) (evT C t1) (evX C e) vs1 h.length) vs σ) its (h ++ [.lst []]) with
    | some h1 => some (.ok (.loc h.length), h1)
    | none => none
  | .tryl f a, σ => fun h => match C.told f with
    | some (c, fl, d) => match evX C a σ h with
      | some (.ok _, h1) => some (.ok d, h1)
      | some (.ex e pl, h1) => match C.sub e c with
        | some true => (match lkF fl pl with
          | some v => some (.ok v, h1)
          | none => none)
        | _ => none
      | none => none
    | none => none
  | .olist a, σ => bnd (evX C a σ) fun x => fun h => match seqD h x with
    | some xs => some (.ok (.loc h.length), h ++ [.lst xs])
    | none => none
  | .lrng a, σ => bnd (evX C a σ) fun x => match rngL [x] with
    | some ds => ret (.lst ds)
    | none => stuck
  | .olr a, σ => bnd (evX C a σ) fun x => match rngL [x] with
    | some ds => fun h => some (.ok (.loc h.length), h ++ [.lst ds])
    | none => stuck
  | .lset a, σ => bnd (evX C a σ) fun x => match x with
    | .tup xs => match allI xs with
      | some ns => if ns.length < 4000 then ret (.int (nodupI ns)) else stuck
      | none => stuck
    | .lst xs => match allI xs with
      | some ns => if ns.Nodup ∧ ns.length < 4000 then ret (.int ns.length) else stuck
      | none => stuck
    | _ => stuck
  | .oeq neg c f a b, σ => bnd (evX C a σ) fun x => bnd (evX C b σ) fun y => oeqM (C.call f) neg c x y
  | .srtR a, σ => bnd (evX C a σ) fun x => fun h => opt (biD .sortedR h [x]) h
  | .rev a, σ => bnd (evX C a σ) fun x => fun h => match see h x with
    | .lst xs => some (.ok (.lst xs.reverse), h)
    | _ => none
  | .din k a, σ => bnd (evX C a σ) fun x => match x with
    | .str s => match C.dct k s with
      | some r => ret (.bl r.isSome)
      | none => stuck
    | _ => stuck
  | .dget k a, σ => bnd (evX C a σ) fun x => match x with
    | .str s => match C.dct k s with
      | some (some d) => ret d
      | _ => stuck
    | _ => stuck
def evXs (C : Cfg) : Xs → Sl → M (List D)
  | .nil, _ => ret []
  | .cons a r, σ => bnd (evX C a σ) fun x => bnd (evXs C r σ) fun xs => ret (x :: xs)
  | .star a r, σ => bnd (evX C a σ) fun x => fun h => match seqD h x with
    | some ys => bnd (evXs C r σ) (fun xs => ret (ys ++ xs)) h
    | none => none
def evO (C : Cfg) : O → Sl → M (Option Int)
  | .no, _ => ret none
  | .yes a, σ => bnd (evX C a σ) fun x => match x with
    | .int i => ret (some i)
    | _ => stuck
def evAnd (C : Cfg) : Xs → Sl → M D
  | .nil, _ => stuck
  | .cons a .nil, σ => evX C a σ
  | .cons a r, σ => bnd (evX C a σ) fun x => match x with
    | .bl true => evAnd C r σ
    | .bl false => ret (.bl false)
    | _ => stuck
  | .star _ _, _ => stuck
def evOr (C : Cfg) : Xs → Sl → M D
  | .nil, _ => stuck
  | .cons a .nil, σ => evX C a σ
  | .cons a r, σ => bnd (evX C a σ) fun x => match x with
    | .bl true => ret (.bl true)
    | .bl false => evOr C r σ
    | _ => stuck
  | .star _ _, _ => stuck
def evT (C : Cfg) : T → Sl → M Bool
  | .tt, _ => ret true
  | .val a, σ => bnd (evX C a σ) fun x => fun h => opt (truD h x) h
  | .nt t, σ => bnd (evT C t σ) fun k => ret (!k)
  | .and ts, σ => evTA C ts σ
  | .or ts, σ => evTO C ts σ
def evTA (C : Cfg) : Ts → Sl → M Bool
  | .nil, _ => ret true
  | .cons t r, σ => bnd (evT C t σ) fun k => if k then evTA C r σ else ret false
def evTO (C : Cfg) : Ts → Sl → M Bool
  | .nil, _ => ret false
  | .cons t r, σ => bnd (evT C t σ) fun k => if k then ret true else evTO C r σ
def evIt (C : Cfg) : It → Sl → M (List D)
  | .seq a, σ => bnd (evX C a σ) fun x => fun h => opt (itD h x) h
  | .rng xs, σ => bnd (evXs C xs σ) fun vs => opt (rngD vs)
  | .enm a, σ => bnd (evX C a σ) fun x => match x with
    | .lst xs => ret (enmD 0 xs)
    | _ => stuck
  | .zip a b, σ => bnd (evX C a σ) fun x => bnd (evX C b σ) fun y => match x, y with
    | .lst xs, .lst ys => ret (zipD xs ys)
    | .tup xs, .tup ys => ret (zipD xs ys)
    | .tup xs, .lst ys => ret (zipD xs ys)
    | _, _ => stuck
def evTg (C : Cfg) : Tg → D → Sl → M Sl
  | .nm i, d, σ => ret (σ.set i (some d))
  | .tp ts, d, σ => fun h => match (match d with
    | .tup xs => if xs.length = tgsLen ts then evTgs C ts xs σ else stuck
    | .wtp xs => if xs.length = tgsLen ts then evTgs C ts xs σ else stuck
    | _ => stuck) h with
    | some (.ok a, h1) => some (.ok a, h1)
    | _ => none
  | .sb o i, d, σ => bnd (evX C o σ) fun x => bnd (evX C i σ) fun k => bnd (setSD x k d) fun _ => ret σ
  | .fd o f, d, σ => bnd (evX C o σ) fun x => bnd (setFD C x f d) fun _ => ret σ
def evTgs (C : Cfg) : Tgs → List D → Sl → M Sl
  | .nil, [], σ => ret σ
  | .cons g r, d :: ds, σ => bnd (evTg C g d σ) fun σ1 => evTgs C r ds σ1
  | _, _, _ => stuck
end
def setAll : List Nat → List D → Sl → Option Sl
  | [], [], σ => some σ
  | i :: is, d :: ds, σ => setAll is ds (σ.set i (some d))
  | _, _, _ => none
def forL (f : D → Sl → Hd → Option Out) : List D → Sl → Hd → Option Out
  | [], σ, h => some (.nx σ h)
  | x :: xs, σ, h => match f x σ h with
    | some (.nx σ1 h1) => forL f xs σ1 h1
    | some (.ct σ1 h1) => forL f xs σ1 h1
    | some (.bk σ1 h1) => some (.nx σ1 h1)
    | o => o
def whlL (t : Sl → M Bool) (f : Sl → Hd → Option Out) : Nat → Sl → Hd → Option Out
  | 0, _, _ => none
  | n + 1, σ, h => match t σ h with
    | some (.ok true, h0) => match f σ h0 with
      | some (.nx σ1 h1) => whlL t f n σ1 h1
      | some (.ct σ1 h1) => whlL t f n σ1 h1
      | some (.bk σ1 h1) => some (.nx σ1 h1)
      | o => o
    | some (.ok false, h0) => some (.nx σ h0)
    | some (.ex c pl, h0) => some (.ex c pl σ h0)
    | none => none
/-- an expression's end as a statement's -/
def thenS {α : Type} (m : Option (Rr α × Hd)) (σ : Sl) (k : α → Hd → Option Out) : Option Out := match m with
  | none => none
  | some (.ok a, h) => k a h
  | some (.ex c pl, h) => some (.ex c pl σ h)
mutual
def exS (C : Cfg) : S → Sl → Hd → Option Out
  | .asg g x, σ, h => thenS (evX C x σ h) σ fun d h1 => thenS (evTg C g d σ h1) σ fun σ1 h2 => some (.nx σ1 h2)
  | .par is xs, σ, h => thenS (evXs C xs σ h) σ fun ds h1 => match setAll is ds σ with
    | some σ1 => some (.nx σ1 h1)
    | none => none
  | .expr x, σ, h => thenS (evX C x σ h) σ fun _ h1 => some (.nx σ h1)
  | .ret x, σ, h => thenS (evX C x σ h) σ fun d h1 => some (.rt d h1)
  | .retN, _, h => some (.rt .non h)
  | .ifs t a b, σ, h => thenS (evT C t σ h) σ fun k h1 => if k then exSs C a σ h1 else exSs C b σ h1
  | .for_ g it b, σ, h => thenS (evIt C it σ h) σ fun its h1 => forL (fun x σ h => thenS (evTg C g x σ h) σ fun σ1 h2 => exSs C b σ1 h2) its σ h1
  | .whl t b, σ, h => whlL (fun σ => evT C t σ) (fun σ h => exSs C b σ h) C.wl σ h
  | .raise c xs, σ, h => thenS (evXs C xs σ h) σ fun ds h1 => match ds, C.exf c with
    | [d], [f] => some (.ex c [(f, d)] σ h1)
    | [], [] => some (.ex c [] σ h1)
    | _, _ => none
  | .try_ b c k, σ, h => match exSs C b σ h with
    | some (.ex e pl σ1 h1) => match C.sub e c with
      | some true => (match k with
        | .rtc d => some (.rt d h1)
        | .rtg k => match C.glb k with
          | some d => some (.rt d h1)
          | none => none
        | .rti i b => if pl.isEmpty && decide (i < σ1.length) then some (.rt (.bl b) h1) else none
        | .rtf i f => match lkF f pl with
          | some v => if i < σ1.length then some (.rt v h1) else none
          | none => none)
      | some false => some (.ex e pl σ1 h1)
      | none => none
    | o => o
  | .try2 b c k c2 i f, σ, h => match exSs C b σ h with
    | some (.ex e pl σ1 h1) => match C.sub e c with
      | some true => (match C.glb k with
        | some d => some (.rt d h1)
        | none => none)
      | some false => (match C.sub e c2 with
        | some true => (match lkF f pl with
          | some v => if i < σ1.length then some (.rt v h1) else none
          | none => none)
        | some false => some (.ex e pl σ1 h1)
        | none => none)
      | none => none
    | o => o
  | .pass, σ, h => some (.nx σ h)
  | .brk, σ, h => some (.bk σ h)
  | .cont, σ, h => some (.ct σ h)
  | .frz i, σ, h => match σ[i]? with
    | some (some (.loc n)) => match h[n]? with
      | some (.lst xs) => some (.nx (σ.set i (some (.lst xs))) (h.set n .dead))
      | _ => none
    | some (some (.lst xs)) => some (.nx σ h)
    | some (some (.tup xs)) => some (.nx σ h)
    | _ => none
def exSs (C : Cfg) : Ss → Sl → Hd → Option Out
  | .nil, σ, h => some (.nx σ h)
  | .cons s r, σ, h => match exS C s σ h with
    | some (.nx σ1 h1) => exSs C r σ1 h1
    | o => o
end
/-- a def -/
structure Fe where
  np : Nat
  ns : Nat
  pu : Bool
  body : Ss
structure Tab where
  fns : List Fe
  glb : List D
  sub : Nat → Nat → Option Bool
  flds : Nat → List Nm
  exf : Nat → List Nm
  told : Nat → Option (Nat × Nm × D)
  dct : Nat → Nm → Option (Option D)
  wl : Nat
def dctF (t : List (Nm × Option D)) (s : Nm) : Option (Option D) := t.lookup s
def start (n : Nat) (vs : List D) : Sl := vs.map some ++ List.replicate (n - vs.length) none
def plPure : Pl → Bool
  | [] => true
  | (_, d) :: r => pureD d && plPure r
def outR : Option Out → Option (Rr D × Hd)
  | some (.nx _ h) => some (.ok .non, h)
  | some (.rt d h) => some (.ok d, h)
  | some (.ex c pl _ h) => some (.ex c pl, h)
  | _ => none
def callN (B : Tab) : Nat → Nat → List D → M D
  | 0, _, _, _ => none
  | n + 1, f, vs, h => match B.fns[f]? with
    | none => none
    | some F => if vs.length = F.np then
        let C : Cfg := ⟨callN B n, fun k => B.glb[k]?, B.sub, B.flds, B.exf, B.told, B.dct, B.wl⟩
        if F.pu then
          if pureDs vs then match outR (exSs C F.body (start F.ns vs) []) with
            | some (.ok d, _) => if pureD d then some (.ok d, h) else none
            | some (.ex c pl, _) => if plPure pl then some (.ex c pl, h) else none
            | none => none
          else none
        else outR (exSs C F.body (start F.ns vs) h)
      else none
end Ev

set_option Elab.async false
set_option linter.all false
set_option maxRecDepth 100000
set_option maxHeartbeats 4000000
/-! Ev2a: what the evaluator's values and heap mean in the layer's abstract heap. -/
namespace Ev
open PySem L2
def St (n : Nm) : Str := ⟨n.toArray⟩
theorem St_inj {a b : Nm} (h : St a = St b) : a = b := by
  have := congrArg (fun s : Str => s.cps.toList) h
  simpa [St] using this
/-- a place that lives -/
def Own (ρ : List Addr) (hd : Hd) (a : Addr) : Prop := ∃ (n : Nat) (c : Cell), hd[n]? = some c ∧ c ≠ .dead ∧ ρ[n]? = some a
/-- tracked, and no table -/
def Held (H : Hp) (a : Addr) : Prop := ∃ o, H a = some o ∧ ∀ ps, o ≠ .tbl ps
def Lv (L0 : Addr → Prop) (ρ : List Addr) (hd : Hd) (a : Addr) : Prop := L0 a ∨ Own ρ hd a
/-- a list of the written part -/
def KL (K : PySem.W.Frag) (a : Addr) (xs : List V) : Prop := ∃ (o : Obj) (its : Array Value) (n : Nat), K.lookup a = some o ∧ o.cls = .type "list" ∧ o.dict = none ∧ o.data = .seq its n ∧ its.size ≤ sizeLine ∧ Vals xs its.toList
/-- a tuple that holds no dict -/
def TpS (K : PySem.W.Frag) (H : Hp) (a : Addr) (vs : List V) : Prop := (∃ o : Obj, o.dict = none ∧ H a = some (.frz o (.tup vs))) ∨
  ∃ (o : Obj) (its : Array Value) (n : Nat), K.lookup a = some o ∧ o.dict = none ∧ o.cls = .type "tuple" ∧ o.data = .seq its n ∧ its.size ≤ sizeLine ∧ Vals vs its.toList
theorem TpS.sq {K : PySem.W.Frag} {H : Hp} {a : Addr} {vs : List V} (h : TpS K H a vs) : SqT K H a vs := by
  rcases h with ⟨o, _, h⟩ | ⟨o, its, n, h1, _, h2⟩
  · exact .inl (.inr ⟨o, h⟩)
  · exact .inr ⟨o, its, n, h1, h2⟩
mutual
/-- the value v is the datum -/
def Rep (K : PySem.W.Frag) (ρ : List Addr) (L : Addr → Prop) (H : Hp) : D → V → Prop
  | .non, v => v = .non
  | .bl b, v => v = .bl b
  | .int i, v => v = .int i
  | .str s, v => v = .str (St s)
  | .tup ds, v => ∃ a vs, v = .ref a ∧ TpS K H a vs ∧ Reps K ρ L H ds vs
  | .wtp ds, v => ∃ a vs, v = .ref a ∧ SqT K H a vs ∧ Reps K ρ L H ds vs
  | .lst ds, v => ∃ a vs, v = .ref a ∧ H a = some (.lst vs) ∧ ¬ L a ∧ Reps K ρ L H ds vs
  | .ro ds, v => ∃ a vs, v = .ref a ∧ ((H a = some (.lst vs) ∧ ¬ L a) ∨ (∃ o, H a = some (.frz o (.lst vs))) ∨ KL K a vs) ∧ Reps K ρ L H ds vs
  | .loc n, v => ∃ a, v = .ref a ∧ ρ[n]? = some a
def Reps (K : PySem.W.Frag) (ρ : List Addr) (L : Addr → Prop) (H : Hp) : List D → List V → Prop
  | [], vs => vs = []
  | d :: ds, vs => ∃ v r, vs = v :: r ∧ Rep K ρ L H d v ∧ Reps K ρ L H ds r
end
def RepF (K : PySem.W.Frag) (ρ : List Addr) (L : Addr → Prop) (H : Hp) : Pl → List (Str × V) → Prop
  | [], vs => vs = []
  | (f, d) :: ds, vs => ∃ v r, vs = (St f, v) :: r ∧ Rep K ρ L H d v ∧ RepF K ρ L H ds r
def CellOk (K : PySem.W.Frag) (ca : Nat → Addr) (ρ : List Addr) (L : Addr → Prop) (H : Hp) : Cell → Addr → Prop
  | .lst ds, a => ∃ vs, H a = some (.lst vs) ∧ Reps K ρ L H ds vs
  | .ins c fs, a => ∃ dx vfs, H a = some (.ins (ca c) dx vfs) ∧ RepF K ρ L H fs vfs
  | .dead, _ => True
structure RelH (K : PySem.W.Frag) (ca : Nat → Addr) (T : List (Addr × Str)) (L0 : Addr → Prop) (ρ : List Addr) (hd : Hd) (H : Hp) : Prop where
  len : ρ.length = hd.length
  nd : ∀ (i j : Nat) (a : Addr) (c d : Cell), hd[i]? = some c → c ≠ .dead → hd[j]? = some d → d ≠ .dead → ρ[i]? = some a → ρ[j]? = some a → i = j
  cell : ∀ (n : Nat) (c : Cell) (a : Addr), hd[n]? = some c → ρ[n]? = some a → CellOk K ca ρ (Lv L0 ρ hd) H c a
  l0 : ∀ a, L0 a → Held H a ∧ ¬ Own ρ hd a
  tabs : LamX.Tabs T H
def RelS (K : PySem.W.Frag) (ρ : List Addr) (L : Addr → Prop) (H : Hp) (σd : Sl) (σ : List (Option V)) : Prop :=
  σd.length = σ.length ∧ ∀ (i : Nat) (d : D), σd[i]? = some (some d) → ∃ v, σ[i]? = some (some v) ∧ Rep K ρ L H d v
structure Mono (T : List (Addr × Str)) (L0 : Addr → Prop) (ρ : List Addr) (hd : Hd) (H : Hp) (ρ' : List Addr) (hd' : Hd) (H' : Hp) : Prop where
  ext : ∃ more, ρ' = ρ ++ more
  keep : ∀ b o, H b = some o → ¬ Own ρ hd b → (∀ ps, o ≠ .tbl ps) → H' b = some o
  fresh : ∀ a, Own ρ' hd' a → Own ρ hd a ∨ ¬ Held H a
  held : ∀ a, Held H a → Held H' a
structure Post (K : PySem.W.Frag) (ca : Nat → Addr) (T : List (Addr × Str)) (L0 : Addr → Prop) (ρ : List Addr) (hd : Hd) (H : Hp) (ρ' : List Addr) (hd' : Hd) (H' : Hp) : Prop extends Mono T L0 ρ hd H ρ' hd' H' where
  rel : RelH K ca T L0 ρ' hd' H'
section
variable {K : PySem.W.Frag} {ca : Nat → Addr} {T : List (Addr × Str)} {L0 : Addr → Prop} {ρ ρ' ρ'' : List Addr} {hd hd' hd'' : Hd} {H H' H'' : Hp}
theorem RelH.own_held (r : RelH K ca T L0 ρ hd H) {a : Addr} (h : Own ρ hd a) : (∃ vs, H a = some (.lst vs)) ∨ ∃ C dx fs, H a = some (.ins C dx fs) := by
  obtain ⟨n, c, h1, h2, h3⟩ := h
  have h4 := r.cell n c a h1 h3
  cases c with
  | lst ds => obtain ⟨vs, e, _⟩ := h4; exact .inl ⟨vs, e⟩
  | ins c fs => obtain ⟨dx, vfs, e, _⟩ := h4; exact .inr ⟨_, dx, vfs, e⟩
  | dead => exact absurd rfl h2
theorem RelH.own_Held (r : RelH K ca T L0 ρ hd H) {a : Addr} (h : Own ρ hd a) : Held H a := by
  rcases r.own_held h with ⟨vs, e⟩ | ⟨C, dx, fs, e⟩
  · exact ⟨_, e, fun ps z => nomatch z⟩
  · exact ⟨_, e, fun ps z => nomatch z⟩
theorem Post.refl (r : RelH K ca T L0 ρ hd H) : Post K ca T L0 ρ hd H ρ hd H :=
  ⟨⟨⟨[], by simp⟩, fun _ _ e _ _ => e, fun _ h => .inl h, fun _ h => h⟩, r⟩
theorem Post.trans (p : Post K ca T L0 ρ hd H ρ' hd' H') (q : Post K ca T L0 ρ' hd' H' ρ'' hd'' H'') : Post K ca T L0 ρ hd H ρ'' hd'' H'' := by
  refine ⟨⟨?_, ?_, ?_, fun a h => q.held a (p.held a h)⟩, q.rel⟩
  · obtain ⟨m1, e1⟩ := p.ext
    obtain ⟨m2, e2⟩ := q.ext
    exact ⟨m1 ++ m2, by rw [e2, e1, List.append_assoc]⟩
  · intro b o e ho ht
    refine q.keep b o (p.keep b o e ho ht) (fun hb => ?_) ht
    rcases p.fresh b hb with h | h
    · exact ho h
    · exact h ⟨o, e, ht⟩
  · intro a h
    rcases q.fresh a h with h | h
    · exact p.fresh a h
    · exact .inr fun z => h (p.held a z)
theorem Mono.notLv (p : Mono T L0 ρ hd H ρ' hd' H') {a : Addr} (h : ¬ Lv L0 ρ hd a) (hh : Held H a) : ¬ Lv L0 ρ' hd' a := by
  rintro (z | z)
  · exact h (.inl z)
  · rcases p.fresh a z with y | y
    · exact h (.inr y)
    · exact y hh
theorem SqT_keep (r : RelH K ca T L0 ρ hd H) (p : Mono T L0 ρ hd H ρ' hd' H') {a : Addr} {vs : List V} (h : SqT K H a vs) : SqT K H' a vs := by
  rcases h with (h | ⟨o, h⟩) | h
  · refine .inl (.inl (p.keep a _ h (fun z => ?_) fun ps z => nomatch z))
    rcases r.own_held z with ⟨vs, e⟩ | ⟨C, dx, fs, e⟩ <;> (rw [h] at e; cases e)
  · refine .inl (.inr ⟨o, p.keep a _ h (fun z => ?_) fun ps z => nomatch z⟩)
    rcases r.own_held z with ⟨vs, e⟩ | ⟨C, dx, fs, e⟩ <;> (rw [h] at e; cases e)
  · exact .inr h
theorem TpS_keep (r : RelH K ca T L0 ρ hd H) (p : Mono T L0 ρ hd H ρ' hd' H') {a : Addr} {vs : List V} (h : TpS K H a vs) : TpS K H' a vs := by
  rcases h with ⟨o, e, h⟩ | h
  · refine .inl ⟨o, e, p.keep a _ h (fun z => ?_) fun ps z => nomatch z⟩
    rcases r.own_held z with ⟨vs, e⟩ | ⟨C, dx, fs, e⟩ <;> (rw [h] at e; cases e)
  · exact .inr h
mutual
theorem Rep.mono (r : RelH K ca T L0 ρ hd H) (p : Mono T L0 ρ hd H ρ' hd' H') : ∀ (d : D) (v : V), Rep K ρ (Lv L0 ρ hd) H d v → Rep K ρ' (Lv L0 ρ' hd') H' d v
  | .non, v, h => by rw [Rep] at h ⊢; exact h
  | .bl b, v, h => by rw [Rep] at h ⊢; exact h
  | .int b, v, h => by rw [Rep] at h ⊢; exact h
  | .str b, v, h => by rw [Rep] at h ⊢; exact h
  | .tup ds, v, h => by
    rw [Rep] at h ⊢
    obtain ⟨a, vs, e, h1, h2⟩ := h
    exact ⟨a, vs, e, TpS_keep r p h1, Reps.mono r p ds vs h2⟩
  | .wtp ds, v, h => by
    rw [Rep] at h ⊢
    obtain ⟨a, vs, e, h1, h2⟩ := h
    exact ⟨a, vs, e, SqT_keep r p h1, Reps.mono r p ds vs h2⟩
  | .lst ds, v, h => by
    rw [Rep] at h ⊢
    obtain ⟨a, vs, e, h1, h2, h3⟩ := h
    have hh : Held H a := ⟨_, h1, fun ps z => nomatch z⟩
    exact ⟨a, vs, e, p.keep a _ h1 (fun z => h2 (.inr z)) (fun ps z => nomatch z), p.notLv h2 hh, Reps.mono r p ds vs h3⟩
  | .ro ds, v, h => by
    rw [Rep] at h ⊢
    obtain ⟨a, vs, e, h1, h3⟩ := h
    refine ⟨a, vs, e, ?_, Reps.mono r p ds vs h3⟩
    rcases h1 with ⟨h1, h2⟩ | ⟨o, h1⟩ | h1
    · have hh : Held H a := ⟨_, h1, fun ps z => nomatch z⟩
      exact .inl ⟨p.keep a _ h1 (fun z => h2 (.inr z)) (fun ps z => nomatch z), p.notLv h2 hh⟩
    · refine .inr (.inl ⟨o, p.keep a _ h1 (fun z => ?_) fun ps z => nomatch z⟩)
      rcases r.own_held z with ⟨vs, e⟩ | ⟨C, dx, fs, e⟩ <;> (rw [h1] at e; cases e)
    · exact .inr (.inr h1)
  | .loc n, v, h => by
    rw [Rep] at h ⊢
    obtain ⟨a, e, h1⟩ := h
    obtain ⟨m, em⟩ := p.ext
    refine ⟨a, e, ?_⟩
    rw [em, List.getElem?_append_left (List.getElem?_eq_some_iff.mp h1).1]
    exact h1
theorem Reps.mono (r : RelH K ca T L0 ρ hd H) (p : Mono T L0 ρ hd H ρ' hd' H') : ∀ (ds : List D) (vs : List V), Reps K ρ (Lv L0 ρ hd) H ds vs → Reps K ρ' (Lv L0 ρ' hd') H' ds vs
  | [], vs, h => by rw [Reps] at h ⊢; exact h
  | d :: ds, vs, h => by
    rw [Reps] at h ⊢
    obtain ⟨v, w, e, h1, h2⟩ := h
    exact ⟨v, w, e, Rep.mono r p d v h1, Reps.mono r p ds w h2⟩
end
theorem RepF.mono (r : RelH K ca T L0 ρ hd H) (p : Mono T L0 ρ hd H ρ' hd' H') : ∀ (ds : Pl) (vs : List (Str × V)), RepF K ρ (Lv L0 ρ hd) H ds vs → RepF K ρ' (Lv L0 ρ' hd') H' ds vs
  | [], vs, h => by rw [RepF] at h ⊢; exact h
  | (f, d) :: ds, vs, h => by
    rw [RepF] at h ⊢
    obtain ⟨v, w, e, h1, h2⟩ := h
    exact ⟨v, w, e, Rep.mono r p d v h1, RepF.mono r p ds w h2⟩
theorem Rep.keep (r : RelH K ca T L0 ρ hd H) (p : Post K ca T L0 ρ hd H ρ' hd' H') (d : D) (v : V) (h : Rep K ρ (Lv L0 ρ hd) H d v) : Rep K ρ' (Lv L0 ρ' hd') H' d v := Rep.mono r p.toMono d v h
theorem Reps.keep (r : RelH K ca T L0 ρ hd H) (p : Post K ca T L0 ρ hd H ρ' hd' H') (d : List D) (v : List V) (h : Reps K ρ (Lv L0 ρ hd) H d v) : Reps K ρ' (Lv L0 ρ' hd') H' d v := Reps.mono r p.toMono d v h
theorem RepF.keep (r : RelH K ca T L0 ρ hd H) (p : Post K ca T L0 ρ hd H ρ' hd' H') (d : Pl) (v : List (Str × V)) (h : RepF K ρ (Lv L0 ρ hd) H d v) : RepF K ρ' (Lv L0 ρ' hd') H' d v := RepF.mono r p.toMono d v h
theorem RelS.keep {σd : Sl} {σ : List (Option V)} (r : RelH K ca T L0 ρ hd H) (p : Post K ca T L0 ρ hd H ρ' hd' H') (h : RelS K ρ (Lv L0 ρ hd) H σd σ) : RelS K ρ' (Lv L0 ρ' hd') H' σd σ :=
  ⟨h.1, fun i d e => by
    obtain ⟨v, e1, e2⟩ := h.2 i d e
    exact ⟨v, e1, Rep.keep r p d v e2⟩⟩
theorem CellOk.mono (r : RelH K ca T L0 ρ hd H) (p : Mono T L0 ρ hd H ρ' hd' H') {c : Cell} {a : Addr} (h : CellOk K ca ρ (Lv L0 ρ hd) H c a) (hk : H' a = H a) : CellOk K ca ρ' (Lv L0 ρ' hd') H' c a := by
  cases c with
  | lst ds => obtain ⟨vs, e, h4⟩ := h; exact ⟨vs, by rw [hk]; exact e, Reps.mono r p ds vs h4⟩
  | ins c fs => obtain ⟨dx, vfs, e, h4⟩ := h; exact ⟨dx, vfs, by rw [hk]; exact e, RepF.mono r p fs vfs h4⟩
  | dead => exact h
/-- a new object, no place of ours -/
theorem Post.alloc (r : RelH K ca T L0 ρ hd H) {p : Addr} {o : HO} (hp : H p = none) (ho : ∀ ps, o ≠ .tbl ps) : Post K ca T L0 ρ hd H ρ hd (upd H p o) := by
  have keep : ∀ b u, H b = some u → upd H p o b = some u := fun b u e => by rw [upd_ne (ne_of_none e hp)]; exact e
  have hk : ∀ a, Held H a → Held (upd H p o) a := fun a ⟨u, e, h⟩ => ⟨u, keep a u e, h⟩
  have mo : Mono T L0 ρ hd H ρ hd (upd H p o) := ⟨⟨[], by simp⟩, fun b u e _ _ => keep b u e, fun a h => .inl h, hk⟩
  refine ⟨mo, r.len, r.nd, fun n c a h1 h2 => ?_, fun a h => ⟨hk a (r.l0 a h).1, (r.l0 a h).2⟩, LamX.Tabs.ext r.tabs keep⟩
  by_cases hc : c = .dead
  · subst hc; trivial
  · obtain ⟨u, e, _⟩ := r.own_Held ⟨n, c, h1, hc, h2⟩
    exact CellOk.mono r mo (r.cell n c a h1 h2) (by rw [keep a u e, e])
/-- nothing is tracked anew at p -/
theorem RelH.notOwn (r : RelH K ca T L0 ρ hd H) {p : Addr} (hp : H p = none) : ¬ Own ρ hd p := fun h => by
  obtain ⟨o, e, _⟩ := r.own_Held h
  rw [hp] at e; cases e
/-- a place of ours is written -/
theorem Post.write (r : RelH K ca T L0 ρ hd H) {n : Nat} {a : Addr} {c c' : Cell} {o : HO} (hn : hd[n]? = some c) (hc : c ≠ .dead) (ha : ρ[n]? = some a) (hc' : c' ≠ .dead) (ho : ∀ ps, o ≠ .tbl ps)
    (hnew : ∀ ρ' hd' H', Mono T L0 ρ hd H ρ' hd' H' → H' a = some o → CellOk K ca ρ' (Lv L0 ρ' hd') H' c' a) : Post K ca T L0 ρ hd H ρ (hd.set n c') (upd H a o) := by
  have hlt : n < hd.length := (List.getElem?_eq_some_iff.mp hn).1
  have own_a : Own ρ hd a := ⟨n, c, hn, hc, ha⟩
  have own_iff : ∀ b, Own ρ (hd.set n c') b → Own ρ hd b := by
    rintro b ⟨m, d, h1, h2, h3⟩
    by_cases hm : m = n
    · subst hm
      rw [ha] at h3; cases h3
      exact own_a
    · rw [List.getElem?_set_ne (fun z => hm z.symm)] at h1
      exact ⟨m, d, h1, h2, h3⟩
  have keep : ∀ b u, H b = some u → ¬ Own ρ hd b → upd H a o b = some u := fun b u e hb => by
    rw [upd_ne (fun z => hb (by rw [z]; exact own_a))]; exact e
  have hk : ∀ b, Held H b → Held (upd H a o) b := fun b ⟨u, e, h⟩ => by
    by_cases hb : b = a
    · subst hb; exact ⟨o, upd_same, ho⟩
    · exact ⟨u, by rw [upd_ne hb]; exact e, h⟩
  have mo : Mono T L0 ρ hd H ρ (hd.set n c') (upd H a o) := ⟨⟨[], by simp⟩, fun b u e hb _ => keep b u e hb, fun b h => .inl (own_iff b h), hk⟩
  refine ⟨mo, by rw [List.length_set]; exact r.len, ?_, ?_, fun b h => ⟨hk b (r.l0 b h).1, fun z => (r.l0 b h).2 (own_iff b z)⟩, ?_⟩
  · intro i j b d e h1 h2 h3 h4 h5 h6
    have live : ∀ (i : Nat) (d : Cell), (hd.set n c')[i]? = some d → d ≠ .dead → ∃ d', hd[i]? = some d' ∧ d' ≠ .dead := fun i d h1 h2 => by
      by_cases hm : i = n
      · subst hm; exact ⟨c, hn, hc⟩
      · rw [List.getElem?_set_ne (fun z => hm z.symm)] at h1
        exact ⟨d, h1, h2⟩
    obtain ⟨d', e1, e2⟩ := live i d h1 h2
    obtain ⟨e', f1, f2⟩ := live j e h3 h4
    exact r.nd i j b d' e' e1 e2 f1 f2 h5 h6
  · intro m d b h1 h2
    by_cases hm : m = n
    · subst hm
      rw [List.getElem?_set_self hlt] at h1
      cases h1
      rw [ha] at h2; cases h2
      exact hnew _ _ _ mo upd_same
    · rw [List.getElem?_set_ne (fun z => hm z.symm)] at h1
      by_cases hd0 : d = .dead
      · subst hd0; trivial
      · have hb : b ≠ a := fun z => hm (by subst z; exact r.nd m n _ d c h1 hd0 hn hc h2 ha)
        exact CellOk.mono r mo (r.cell m d b h1 h2) (by rw [upd_ne hb])
  · intro q hq
    obtain ⟨ps, e, h1, h2⟩ := r.tabs q hq
    have na : ∀ b ps, H b = some (.tbl ps) → b ≠ a := fun b ps e z => by
      subst z
      rcases r.own_held own_a with ⟨_, f⟩ | ⟨_, _, _, f⟩ <;> (rw [e] at f; cases f)
    refine ⟨ps, by rw [upd_ne (na _ _ e)]; exact e, h1, fun pos cv hcv => ?_⟩
    obtain ⟨k, e1, e2⟩ := h2 pos cv hcv
    refine ⟨k, e1, ?_⟩
    rw [upd_ne (fun z => ?_)]
    · exact e2
    · subst z
      rcases r.own_held own_a with ⟨_, f⟩ | ⟨_, _, _, f⟩ <;> (rw [e2] at f; cases f)
/-- a new place of ours -/
theorem Post.grow (r : RelH K ca T L0 ρ hd H) {a : Addr} {c : Cell} {o : HO} (ha : H a = none) (hc : c ≠ .dead) (ho : ∀ ps, o ≠ .tbl ps)
    (hnew : ∀ ρ' hd' H', Mono T L0 ρ hd H ρ' hd' H' → H' a = some o → CellOk K ca ρ' (Lv L0 ρ' hd') H' c a) : Post K ca T L0 ρ hd H (ρ ++ [a]) (hd ++ [c]) (upd H a o) := by
  have keep : ∀ b u, H b = some u → upd H a o b = some u := fun b u e => by rw [upd_ne (ne_of_none e ha)]; exact e
  have hk : ∀ b, Held H b → Held (upd H a o) b := fun b ⟨u, e, h⟩ => ⟨u, keep b u e, h⟩
  have no : ¬ Own ρ hd a := r.notOwn ha
  have back : ∀ (i : Nat) (d : Cell) (b : Addr), (hd ++ [c])[i]? = some d → (ρ ++ [a])[i]? = some b → (hd[i]? = some d ∧ ρ[i]? = some b) ∨ (i = hd.length ∧ d = c ∧ b = a) := fun i d b h1 h2 => by
    by_cases hi : i < hd.length
    · rw [List.getElem?_append_left hi] at h1
      rw [List.getElem?_append_left (by rw [r.len]; exact hi)] at h2
      exact .inl ⟨h1, h2⟩
    · have hle := (List.getElem?_eq_some_iff.mp h1).1
      simp at hle
      have : i = hd.length := by omega
      subst this
      simp at h1
      have h3 : (ρ ++ [a])[ρ.length]? = some b := by rw [r.len]; exact h2
      simp at h3
      exact .inr ⟨rfl, h1.symm, h3.symm⟩
  have own_b : ∀ b, Own (ρ ++ [a]) (hd ++ [c]) b → Own ρ hd b ∨ b = a := by
    rintro b ⟨m, d, h1, h2, h3⟩
    rcases back m d b h1 h3 with ⟨e1, e2⟩ | ⟨_, _, e⟩
    · exact .inl ⟨m, d, e1, h2, e2⟩
    · exact .inr e
  have mo : Mono T L0 ρ hd H (ρ ++ [a]) (hd ++ [c]) (upd H a o) := by
    refine ⟨⟨[a], rfl⟩, fun b u e _ _ => keep b u e, fun b h => ?_, hk⟩
    rcases own_b b h with h | rfl
    · exact .inl h
    · exact .inr fun ⟨u, e, _⟩ => by rw [ha] at e; cases e
  refine ⟨mo, by simp [r.len], ?_, ?_, fun b h => ⟨hk b (r.l0 b h).1, fun z => ?_⟩, LamX.Tabs.ext r.tabs keep⟩
  · intro i j b d e h1 h2 h3 h4 h5 h6
    rcases back i d b h1 h5 with ⟨e1, e2⟩ | ⟨ei, _, eb⟩
    · rcases back j e b h3 h6 with ⟨f1, f2⟩ | ⟨_, _, fb⟩
      · exact r.nd i j b d e e1 h2 f1 h4 e2 f2
      · subst fb; exact absurd ⟨i, d, e1, h2, e2⟩ no
    · rcases back j e b h3 h6 with ⟨f1, f2⟩ | ⟨ej, _, fb⟩
      · subst eb; exact absurd ⟨j, e, f1, h4, f2⟩ no
      · rw [ei, ej]
  · intro m d b h1 h2
    rcases back m d b h1 h2 with ⟨e1, e2⟩ | ⟨_, e1, e2⟩
    · by_cases hd0 : d = .dead
      · subst hd0; trivial
      · obtain ⟨u, e, _⟩ := r.own_Held ⟨m, d, e1, hd0, e2⟩
        exact CellOk.mono r mo (r.cell m d b e1 e2) (by rw [keep b u e, e])
    · subst e1; subst e2
      exact hnew _ _ _ mo upd_same
  · rcases own_b b z with z | rfl
    · exact (r.l0 b h).2 z
    · obtain ⟨⟨u, e, _⟩, _⟩ := r.l0 b h
      rw [ha] at e; cases e
/-- a list of ours is let go: it never changes again -/
theorem Post.freeze (r : RelH K ca T L0 ρ hd H) {n : Nat} {a : Addr} {c : Cell} (hn : hd[n]? = some c) (hc : c ≠ .dead) (ha : ρ[n]? = some a) : Post K ca T L0 ρ hd H ρ (hd.set n .dead) H ∧ ¬ Own ρ (hd.set n .dead) a := by
  have hlt : n < hd.length := (List.getElem?_eq_some_iff.mp hn).1
  have back : ∀ (i : Nat) (d : Cell), (hd.set n .dead)[i]? = some d → d ≠ .dead → i ≠ n ∧ hd[i]? = some d := fun i d h1 h2 => by
    by_cases hm : i = n
    · subst hm
      rw [List.getElem?_set_self hlt] at h1
      cases h1
      exact absurd rfl h2
    · rw [List.getElem?_set_ne (fun z => hm z.symm)] at h1
      exact ⟨hm, h1⟩
  have own_iff : ∀ b, Own ρ (hd.set n .dead) b → Own ρ hd b := by
    rintro b ⟨m, d, h1, h2, h3⟩
    exact ⟨m, d, (back m d h1 h2).2, h2, h3⟩
  have mo : Mono T L0 ρ hd H ρ (hd.set n .dead) H := ⟨⟨[], by simp⟩, fun b u e _ _ => e, fun b h => .inl (own_iff b h), fun _ h => h⟩
  refine ⟨⟨mo, by rw [List.length_set]; exact r.len, ?_, ?_, fun b h => ⟨(r.l0 b h).1, fun z => (r.l0 b h).2 (own_iff b z)⟩, r.tabs⟩, ?_⟩
  · intro i j b d e h1 h2 h3 h4 h5 h6
    exact r.nd i j b d e (back i d h1 h2).2 h2 (back j e h3 h4).2 h4 h5 h6
  · intro m d b h1 h2
    by_cases hd0 : d = .dead
    · subst hd0; trivial
    · exact CellOk.mono r mo (r.cell m d b (back m d h1 hd0).2 h2) rfl
  · rintro ⟨m, d, h1, h2, h3⟩
    obtain ⟨e1, e2⟩ := back m d h1 h2
    exact e1 (r.nd m n a d c e2 h2 hn hc h3 ha)
end
end Ev

set_option Elab.async false
set_option linter.all false
set_option maxRecDepth 100000
set_option maxHeartbeats 4000000
/-! Ev2b: operators, comparisons, places, slices, built-ins: by values. -/
namespace Ev
open PySem L2 PyProof.Rows
section
variable {K : PySem.W.Frag} {ca : Nat → Addr} {T : List (Addr × Str)} {L0 : Addr → Prop} {ρ ρ' : List Addr} {hd hd' : Hd} {H H' : Hp}
theorem RelH.notLv (r : RelH K ca T L0 ρ hd H) {p : Addr} (hp : H p = none) : ¬ Lv L0 ρ hd p := by
  rintro (h | h)
  · obtain ⟨⟨o, e, _⟩, _⟩ := r.l0 p h
    rw [hp] at e; cases e
  · obtain ⟨o, e, _⟩ := r.own_Held h
    rw [hp] at e; cases e
theorem Reps.length : ∀ {ds : List D} {vs : List V} {L : Addr → Prop}, Reps K ρ L H ds vs → ds.length = vs.length
  | [], vs, L, h => by rw [Reps] at h; subst h; rfl
  | d :: ds, vs, L, h => by
    rw [Reps] at h
    obtain ⟨v, w, e, _, h2⟩ := h
    subst e
    simp [Reps.length h2]
theorem Reps.nil_iff {ds : List D} {vs : List V} {L : Addr → Prop} (h : Reps K ρ L H ds vs) : ds = [] ↔ vs = [] := by
  have := h.length
  constructor <;> intro e <;> (subst e; simp at this; exact List.length_eq_zero_iff.mp (by simp [this]))
theorem Reps.append : ∀ {ds es : List D} {vs ws : List V} {L : Addr → Prop}, Reps K ρ L H ds vs → Reps K ρ L H es ws → Reps K ρ L H (ds ++ es) (vs ++ ws)
  | [], es, vs, ws, L, h, h' => by rw [Reps] at h; subst h; exact h'
  | d :: ds, es, vs, ws, L, h, h' => by
    rw [Reps] at h
    obtain ⟨v, w, e, h1, h2⟩ := h
    subst e
    show Reps K ρ L H (d :: (ds ++ es)) (v :: (w ++ ws))
    rw [Reps]
    exact ⟨v, w ++ ws, rfl, h1, Reps.append h2 h'⟩
theorem Reps.get : ∀ {ds : List D} {vs : List V} {L : Addr → Prop} {i : Nat} {d : D}, Reps K ρ L H ds vs → ds[i]? = some d → ∃ v, vs[i]? = some v ∧ Rep K ρ L H d v
  | [], vs, L, i, d, h, e => by simp at e
  | d :: ds, vs, L, 0, d', h, e => by
    rw [Reps] at h
    obtain ⟨v, w, e1, h1, h2⟩ := h
    subst e1
    simp at e
    subst e
    exact ⟨v, rfl, h1⟩
  | d :: ds, vs, L, i + 1, d', h, e => by
    rw [Reps] at h
    obtain ⟨v, w, e1, h1, h2⟩ := h
    subst e1
    simp at e
    simpa using Reps.get h2 e
theorem Reps.take : ∀ {ds : List D} {vs : List V} {L : Addr → Prop} (n : Nat), Reps K ρ L H ds vs → Reps K ρ L H (ds.take n) (vs.take n)
  | [], vs, L, n, h => by rw [Reps] at h; subst h; simp [Reps]
  | d :: ds, vs, L, 0, h => by simp [Reps]
  | d :: ds, vs, L, n + 1, h => by
    rw [Reps] at h
    obtain ⟨v, w, e1, h1, h2⟩ := h
    subst e1
    simp only [List.take_succ_cons]
    rw [Reps]
    exact ⟨v, w.take n, rfl, h1, Reps.take n h2⟩
theorem Reps.drop : ∀ {ds : List D} {vs : List V} {L : Addr → Prop} (n : Nat), Reps K ρ L H ds vs → Reps K ρ L H (ds.drop n) (vs.drop n)
  | [], vs, L, n, h => by rw [Reps] at h; subst h; simp [Reps]
  | d :: ds, vs, L, 0, h => by simpa using h
  | d :: ds, vs, L, n + 1, h => by
    rw [Reps] at h
    obtain ⟨v, w, e1, h1, h2⟩ := h
    subst e1
    simpa using Reps.drop n h2
theorem Reps.dropLast {ds : List D} {vs : List V} {L : Addr → Prop} (h : Reps K ρ L H ds vs) : Reps K ρ L H ds.dropLast vs.dropLast := by
  rw [List.dropLast_eq_take, List.dropLast_eq_take, h.length]
  exact h.take _
theorem Reps.eraseIdx : ∀ {ds : List D} {vs : List V} {L : Addr → Prop} (n : Nat), Reps K ρ L H ds vs → Reps K ρ L H (ds.eraseIdx n) (vs.eraseIdx n)
  | [], vs, L, n, h => by rw [Reps] at h; subst h; simp [Reps]
  | d :: ds, vs, L, 0, h => by
    rw [Reps] at h
    obtain ⟨v, w, e1, h1, h2⟩ := h
    subst e1
    simpa using h2
  | d :: ds, vs, L, n + 1, h => by
    rw [Reps] at h
    obtain ⟨v, w, e1, h1, h2⟩ := h
    subst e1
    simp only [List.eraseIdx_cons_succ]
    rw [Reps]
    exact ⟨v, w.eraseIdx n, rfl, h1, Reps.eraseIdx n h2⟩
theorem Reps.set {d : D} {v : V} {L : Addr → Prop} (hv : Rep K ρ L H d v) : ∀ {ds : List D} {vs : List V} (n : Nat), Reps K ρ L H ds vs → Reps K ρ L H (ds.set n d) (vs.set n v)
  | [], vs, n, h => by rw [Reps] at h; subst h; simp [Reps]
  | d :: ds, vs, 0, h => by
    rw [Reps] at h
    obtain ⟨v', w, e1, h1, h2⟩ := h
    subst e1
    simp only [List.set_cons_zero]
    rw [Reps]
    exact ⟨v, w, rfl, hv, h2⟩
  | d :: ds, vs, n + 1, h => by
    rw [Reps] at h
    obtain ⟨v', w, e1, h1, h2⟩ := h
    subst e1
    simp only [List.set_cons_succ]
    rw [Reps]
    exact ⟨v', _, rfl, h1, Reps.set hv n h2⟩
theorem Reps.rep : ∀ {ds : List D} {vs : List V} {L : Addr → Prop}, Reps K ρ L H ds vs → ∀ n : Nat, Reps K ρ L H (Ev.rep ds n) (List.replicate n vs).flatten
  | ds, vs, L, h, 0 => by simp [Ev.rep, Reps]
  | ds, vs, L, h, n + 1 => by
    show Reps K ρ L H (ds ++ Ev.rep ds n) _
    rw [List.replicate_succ, List.flatten_cons]
    exact h.append (Reps.rep h n)
theorem Reps.ints : ∀ {ds : List D} {ns : List Int} {vs : List V} {L : Addr → Prop}, allI ds = some ns → Reps K ρ L H ds vs → vs = ns.map V.int
  | [], ns, vs, L, e, h => by
    rw [Reps] at h; subst h
    simp [allI] at e; subst e; rfl
  | .int i :: ds, ns, vs, L, e, h => by
    rw [Reps] at h
    obtain ⟨v, w, e1, h1, h2⟩ := h
    subst e1
    simp only [allI] at e
    split at e
    · rename_i l e2
      cases e
      rw [Rep] at h1
      subst h1
      simp [Reps.ints e2 h2]
    · cases e
  | .non :: ds, ns, vs, L, e, h => by simp [allI] at e
  | .bl _ :: ds, ns, vs, L, e, h => by simp [allI] at e
  | .str _ :: ds, ns, vs, L, e, h => by simp [allI] at e
  | .tup _ :: ds, ns, vs, L, e, h => by simp [allI] at e
  | .wtp _ :: ds, ns, vs, L, e, h => by simp [allI] at e
  | .lst _ :: ds, ns, vs, L, e, h => by simp [allI] at e
  | .ro _ :: ds, ns, vs, L, e, h => by simp [allI] at e
  | .loc _ :: ds, ns, vs, L, e, h => by simp [allI] at e
theorem Reps.of_ints (L : Addr → Prop) : ∀ (ns : List Int), Reps K ρ L H (ns.map D.int) (ns.map V.int)
  | [] => by simp [Reps]
  | n :: ns => by
    show Reps K ρ L H (.int n :: ns.map D.int) (.int n :: ns.map V.int)
    rw [Reps]
    exact ⟨_, _, rfl, by simp [Rep], Reps.of_ints L ns⟩
theorem Reps.strs : ∀ {ds : List D} {ns : List Nm} {vs : List V} {L : Addr → Prop}, allS ds = some ns → Reps K ρ L H ds vs → vs = (ns.map St).map V.str
  | [], ns, vs, L, e, h => by
    rw [Reps] at h; subst h
    simp [allS] at e; subst e; rfl
  | .str i :: ds, ns, vs, L, e, h => by
    rw [Reps] at h
    obtain ⟨v, w, e1, h1, h2⟩ := h
    subst e1
    simp only [allS] at e
    split at e
    · rename_i l e2
      cases e
      rw [Rep] at h1
      subst h1
      simp [Reps.strs e2 h2]
    · cases e
  | .non :: ds, ns, vs, L, e, h => by simp [allS] at e
  | .bl _ :: ds, ns, vs, L, e, h => by simp [allS] at e
  | .int _ :: ds, ns, vs, L, e, h => by simp [allS] at e
  | .tup _ :: ds, ns, vs, L, e, h => by simp [allS] at e
  | .wtp _ :: ds, ns, vs, L, e, h => by simp [allS] at e
  | .lst _ :: ds, ns, vs, L, e, h => by simp [allS] at e
  | .ro _ :: ds, ns, vs, L, e, h => by simp [allS] at e
  | .loc _ :: ds, ns, vs, L, e, h => by simp [allS] at e
theorem Reps.of_strs (L : Addr → Prop) : ∀ (ns : List Nm), Reps K ρ L H (ns.map D.str) ((ns.map St).map V.str)
  | [] => by simp [Reps]
  | n :: ns => by
    show Reps K ρ L H (.str n :: ns.map D.str) (.str (St n) :: (ns.map St).map V.str)
    rw [Reps]
    exact ⟨_, _, rfl, by simp [Rep], Reps.of_strs L ns⟩
theorem Reps.bls : ∀ {ds : List D} {ns : List Bool} {vs : List V} {L : Addr → Prop}, allB ds = some ns → Reps K ρ L H ds vs → vs = ns.map V.bl
  | [], ns, vs, L, e, h => by
    rw [Reps] at h; subst h
    simp [allB] at e; subst e; rfl
  | .bl i :: ds, ns, vs, L, e, h => by
    rw [Reps] at h
    obtain ⟨v, w, e1, h1, h2⟩ := h
    subst e1
    simp only [allB] at e
    split at e
    · rename_i l e2
      cases e
      rw [Rep] at h1
      subst h1
      simp [Reps.bls e2 h2]
    · cases e
  | .non :: ds, ns, vs, L, e, h => by simp [allB] at e
  | .str _ :: ds, ns, vs, L, e, h => by simp [allB] at e
  | .int _ :: ds, ns, vs, L, e, h => by simp [allB] at e
  | .tup _ :: ds, ns, vs, L, e, h => by simp [allB] at e
  | .wtp _ :: ds, ns, vs, L, e, h => by simp [allB] at e
  | .lst _ :: ds, ns, vs, L, e, h => by simp [allB] at e
  | .ro _ :: ds, ns, vs, L, e, h => by simp [allB] at e
  | .loc _ :: ds, ns, vs, L, e, h => by simp [allB] at e
/-- what see sees -/
theorem see_lst (r : RelH K ca T L0 ρ hd H) {d : D} {v : V} {xs : List D} (h : Rep K ρ (Lv L0 ρ hd) H d v) (e : see hd d = .lst xs) : ∃ a vs, v = .ref a ∧ H a = some (.lst vs) ∧ Reps K ρ (Lv L0 ρ hd) H xs vs := by
  cases d with
  | lst ds =>
    have e' : D.lst ds = .lst xs := e
    cases e'
    rw [Rep] at h
    obtain ⟨a, vs, e1, h1, _, h3⟩ := h
    exact ⟨a, vs, e1, h1, h3⟩
  | loc n =>
    rw [Rep] at h
    obtain ⟨a, e1, h1⟩ := h
    simp only [see] at e
    split at e
    · rename_i ys e2
      cases e
      obtain ⟨vs, h2, h3⟩ := r.cell n _ a e2 h1
      exact ⟨a, vs, e1, h2, h3⟩
    · cases e
  | _ => simp [see] at e
theorem see_other {d : D} {v : V} {e : D} (h : Rep K ρ (Lv L0 ρ hd) H d v) (he : see hd d = e) (hn : ∀ xs, e ≠ .lst xs) : Rep K ρ (Lv L0 ρ hd) H e v := by
  cases d with
  | loc n =>
    simp only [see] at he
    split at he
    · exact absurd he.symm (hn _)
    · subst he; exact h
  | _ => (simp [see] at he; subst he; exact h)
/-- a list, a tuple, to be read -/
theorem seq_ofT (r : RelH K ca T L0 ρ hd H) {d : D} {v : V} {xs : List D} (h : Rep K ρ (Lv L0 ρ hd) H d v) (e : seqD hd d = some xs) : ∃ a vs, v = .ref a ∧ (SqL K H a vs ∨ TpS K H a vs) ∧ Reps K ρ (Lv L0 ρ hd) H xs vs := by
  unfold seqD at e
  split at e
  · rename_i ys e2
    cases e
    have h' := see_other h e2 (fun _ z => nomatch z)
    rw [Rep] at h'
    obtain ⟨a, vs, e1, h1, h2⟩ := h'
    exact ⟨a, vs, e1, .inr h1, h2⟩
  · rename_i ys e2
    cases e
    obtain ⟨a, vs, e1, h1, h2⟩ := see_lst r h e2
    exact ⟨a, vs, e1, .inl (SqL.of h1), h2⟩
  · rename_i ys e2
    cases e
    have h' := see_other h e2 (fun _ z => nomatch z)
    rw [Rep] at h'
    obtain ⟨a, vs, e1, h1, h2⟩ := h'
    refine ⟨a, vs, e1, .inl ?_, h2⟩
    rcases h1 with ⟨h1, _⟩ | ⟨o, h1⟩ | h1
    · exact SqL.of h1
    · exact .inl (.inr ⟨o, h1⟩)
    · exact .inr h1
  · cases e
theorem seq_of (r : RelH K ca T L0 ρ hd H) {d : D} {v : V} {xs : List D} (h : Rep K ρ (Lv L0 ρ hd) H d v) (e : seqD hd d = some xs) : ∃ a vs, v = .ref a ∧ (SqL K H a vs ∨ SqT K H a vs) ∧ Reps K ρ (Lv L0 ρ hd) H xs vs := by
  obtain ⟨a, vs, e1, h1, h2⟩ := seq_ofT r h e
  exact ⟨a, vs, e1, h1.imp id TpS.sq, h2⟩
end
end Ev

set_option Elab.async false
set_option linter.all false
set_option maxRecDepth 100000
set_option maxHeartbeats 4000000
/-! Ev2p: tuples laid anew, known to hold no dict. -/
namespace Ev
open PySem L2 PyProof.Rows
/-- a new tuple -/
def NewT (H : Hp) (xs : List V) (Q : VK) : Prop := ∀ (p : Addr) (o : Obj), o.dict = none → H p = none → Q (.ref p) (upd H p (.frz o (.tup xs)))
section
variable {X : Cx} {pins : List (Addr × Obj)} {σ : L2.St} {H : Hp} {s : Shared} {Q : VK} {xs ys : List V} {us : List Value}
theorem NewT.done (h : NewT H xs Q) (I : Inv X pins σ H s) (r : Vals xs us) (hz : xs.length ≤ sizeLine) : EP X pins σ Q (.ref s.heap.objs.size) { s with heap := s.heap.push { cls := .type "tuple", data := .seq us.toArray } } := by
  refine ⟨.ref s.heap.objs.size, _, I.laid (t' := s.toks) (o := .frz { cls := .type "tuple", data := .seq us.toArray } (.tup xs)) (fun b u e => Heap.get?_push_of_some _ e) (Nat.le_refl _) ?_, rfl, h _ _ rfl (I.hok.fresh (Nat.le_refl _))⟩
  exact ⟨Heap.get?_push_size _ rfl, hz, us, r, IsTup.new _ _⟩
end
section
variable {X : Cx} {es : List Expr} {pos : Pos}
def tTupB (t : TA) : TE := fun σ H Q => t σ H fun xs H1 => xs.length ≤ sizeLine ∧ NewT H1 xs Q
theorem pe_tupB {t : TA} {x1} (h : PA X es t) : PE X (.Tuple es x1 pos) (tTupB t) := by
  refine ⟨fun pins s σ H Q I hq => ?_⟩
  exact wpAny_Tuple_spliced (thn (h.run pos pins s σ H _ I hq) fun us s1 ⟨xs, H1, I1, r, z, q⟩ => ⟨by rw [← r.length]; exact z, q.done I1 r z⟩)
def rCatB (K : PySem.W.Frag) : R2 := fun x y H Q => ∃ a b xs ys, x = .ref a ∧ y = .ref b ∧ SqT K H a xs ∧ SqT K H b ys ∧ xs.length + ys.length ≤ sizeLine ∧
  (xs = [] → Q (.ref b) H) ∧ (xs ≠ [] → ys = [] → Q (.ref a) H) ∧ (xs ≠ [] → ys ≠ [] → NewT H (xs ++ ys) Q)
theorem op_catB : OpR X (binaryOp .Add) (rCatB X.K) := by
  intro pins s σ H x y v u Q I rx ry h
  obtain ⟨a, b, xs, ys, rfl, rfl, ha, hb, hz, q0, q1, q2⟩ := h
  cases rx
  cases ry
  obtain ⟨its, r1, p1, _⟩ := I.tuple ha
  obtain ⟨its2, r2, p2, _⟩ := I.tuple hb
  by_cases hx : xs = []
  · subst hx
    cases r1
    exact cat_tup0 p1 p2 ⟨.ref b, H, I, rfl, q0 rfl⟩
  · refine HT.cat_tup p1 p2 (fun z => hx (r1.nil_iff.mp z)) (fun z => ⟨.ref a, H, I, rfl, q1 hx (r2.nil_iff.mp z)⟩) (fun z => ?_) (by rw [← r1.length, ← r2.length]; exact hz)
    exact (q2 hx fun w => z (r2.nil_iff.mpr w)).done I (r1.append r2) (by rw [List.length_append]; exact hz)
def rSlB (K : PySem.W.Frag) : V → Option Int → Option Int → Hp → VK → Prop := fun x lo hi H Q => ∃ a xs, x = .ref a ∧ SqT K H a xs ∧
  (HT.sIx xs.length 0 lo = 0 ∧ HT.sIx xs.length xs.length hi = xs.length → Q (.ref a) H) ∧ (¬ (HT.sIx xs.length 0 lo = 0 ∧ HT.sIx xs.length xs.length hi = xs.length) → NewT H (cutV xs lo hi) Q)
theorem sl_tupB : SlR X (rSlB X.K) := by
  intro pins s σ H x v vl vu lo hi sl Q I rx hs pl pu h
  obtain ⟨a, xs, rfl, hx, q1, q2⟩ := h
  cases rx
  obtain ⟨its, r, ht, hz⟩ := I.tuple hx
  have hlen : its.toArray.size = xs.length := by rw [List.size_toArray]; exact r.length.symm
  refine ⟨"tuple", _, PyProof.Rows.slot_tuple_getitem.lookup, ht.typeIs, ?_⟩
  by_cases hw : HT.sIx xs.length 0 lo = 0 ∧ HT.sIx xs.length xs.length hi = xs.length
  · exact getItem_tuple_whole ht hs pl pu (by rw [hlen]; exact hw) ⟨.ref a, H, I, rfl, q1 hw⟩
  · refine HT.getItem_tuple_cut ht hs pl pu (by rw [hlen]; exact hw) ?_ (by rw [hlen]; exact hz)
    rw [hlen]
    exact (q2 hw).done I ((r.drop (HT.sIx xs.length 0 lo)).take (HT.sIx xs.length xs.length hi - HT.sIx xs.length 0 lo)) (Nat.le_trans (cutV_length xs lo hi) hz)
theorem call_tupleB : CallR X (.type "tuple") (fun xs H Q => ∃ p ys, xs = [.ref p] ∧ ((SqL X.K H p ys ∧ NewT H ys Q) ∨ (SqT X.K H p ys ∧ Q (.ref p) H))) := by
  intro pins s σ H xs us Q I r h
  obtain ⟨p, ys, rfl, h⟩ := h
  obtain ⟨u, rfl, rx⟩ := vals1 r
  cases rx
  rcases h with ⟨hq, q⟩ | ⟨hq, q⟩
  · obtain ⟨its, r', pl, hz⟩ := I.list hq
    have hlen := r'.length
    refine call_tuple_list pl.isList (fun h' kp => ?_) (by simp only [List.size_toArray] <;> omega)
    have I1 : Inv X pins σ H { s with heap := h' } := I.kept (t' := s.toks) kp
    exact q.done I1 r' hz
  · obtain ⟨its, r', pl, hz⟩ := I.tuple hq
    exact call_tuple_same pl ⟨.ref p, H, I, rfl, q⟩
end
end Ev

set_option Elab.async false
set_option linter.all false
set_option maxRecDepth 100000
set_option maxHeartbeats 4000000
/-! Ev2c: operators and comparisons by values. -/
namespace Ev
open PySem L2 PyProof.Rows
section
variable (K : PySem.W.Frag) (ca : Nat → Addr) (T : List (Addr × Str))
/-- a value comes, the heap of places stays -/
def Gives (L0 : Addr → Prop) (ρ : List Addr) (hd : Hd) (H : Hp) (d : D) (Q : VK) : Prop := ∀ ρ' H' v, Post K ca T L0 ρ hd H ρ' hd H' → Rep K ρ' (Lv L0 ρ' hd) H' d v → Q v H'
def rd2 (f : Hd → D → D → Option D) : R2 := fun x y H Q => ∃ L0 ρ hd a b d, RelH K ca T L0 ρ hd H ∧ Rep K ρ (Lv L0 ρ hd) H a x ∧ Rep K ρ (Lv L0 ρ hd) H b y ∧ f hd a b = some d ∧ Gives K ca T L0 ρ hd H d Q
end
section
variable {K : PySem.W.Frag} {ca : Nat → Addr} {T : List (Addr × Str)} {L0 : Addr → Prop} {ρ : List Addr} {hd : Hd} {H : Hp} {Q : VK} {d : D}
theorem Gives.same (g : Gives K ca T L0 ρ hd H d Q) (r : RelH K ca T L0 ρ hd H) {v : V} (h : Rep K ρ (Lv L0 ρ hd) H d v) : Q v H := g ρ H v (Post.refl r) h
theorem Gives.int {i : Int} (g : Gives K ca T L0 ρ hd H (.int i) Q) (r : RelH K ca T L0 ρ hd H) : Q (.int i) H := g.same r (by simp [Rep])
theorem Gives.bl {i : Bool} (g : Gives K ca T L0 ρ hd H (.bl i) Q) (r : RelH K ca T L0 ρ hd H) : Q (.bl i) H := g.same r (by simp [Rep])
theorem Gives.str {i : Nm} (g : Gives K ca T L0 ρ hd H (.str i) Q) (r : RelH K ca T L0 ρ hd H) : Q (.str (St i)) H := g.same r (by simp [Rep])
theorem Gives.non (g : Gives K ca T L0 ρ hd H .non Q) (r : RelH K ca T L0 ρ hd H) : Q .non H := g.same r (by simp [Rep])
/-- a new tuple -/
theorem Gives.tup {ds : List D} {vs : List V} (g : Gives K ca T L0 ρ hd H (.tup ds) Q) (r : RelH K ca T L0 ρ hd H) (h : Reps K ρ (Lv L0 ρ hd) H ds vs) : NewT H vs Q := by
  intro p o ho hp
  have po := Post.alloc r hp (o := .frz o (.tup vs)) (fun ps z => nomatch z)
  refine g ρ _ _ po ?_
  rw [Rep]
  exact ⟨p, vs, rfl, .inl ⟨o, ho, upd_same⟩, Reps.keep r po ds vs h⟩
/-- a new pair -/
theorem Gives.wtp {ds : List D} {vs : List V} (g : Gives K ca T L0 ρ hd H (.wtp ds) Q) (r : RelH K ca T L0 ρ hd H) (h : Reps K ρ (Lv L0 ρ hd) H ds vs) {p : Addr} (hp : H p = none) : Q (.ref p) (upd H p (.tup vs)) := by
  have po := Post.alloc r hp (o := .tup vs) (fun ps z => nomatch z)
  refine g ρ _ _ po ?_
  rw [Rep]
  exact ⟨p, vs, rfl, SqT.of upd_same, Reps.keep r po ds vs h⟩
/-- a new list -/
theorem Gives.lst {ds : List D} {vs : List V} (g : Gives K ca T L0 ρ hd H (.lst ds) Q) (r : RelH K ca T L0 ρ hd H) (h : Reps K ρ (Lv L0 ρ hd) H ds vs) {p : Addr} (hp : H p = none) : Q (.ref p) (upd H p (.lst vs)) := by
  have po := Post.alloc r hp (o := .lst vs) (fun ps z => nomatch z)
  refine g ρ _ _ po ?_
  rw [Rep]
  exact ⟨p, vs, rfl, upd_same, r.notLv hp, Reps.keep r po ds vs h⟩
end
/-! ### numbers, texts, tuples, lists -/
theorem St_length (s : Nm) : (St s).length = s.length := by simp [St, Str.length]
theorem St_append (a b : Nm) : St a ++ St b = St (a ++ b) := by
  show Str.append _ _ = _
  simp [Str.append, St]
theorem szL_eq : szL = sizeLine := by decide
def bopA : Bop → Operator
  | .add => .Add | .sub => .Sub | .mul => .Mult | .fdiv => .FloorDiv | .mod => .Mod | .pow => .Pow
theorem OpR.imp {X : Cx} {f : Value → Value → Sem Value} {r r' : R2} (h : OpR X f r) (i : ∀ x y H Q, r' x y H Q → r x y H Q) : OpR X f r' :=
  fun pins s σ H x y v u Q I rx ry q => h pins s σ H x y v u Q I rx ry (i x y H Q q)
theorem small_ok {i : Int} (h : small i = true) : -(2 ^ 64) < i ∧ i < 2 ^ 64 := by
  simp only [small, Bool.and_eq_true, decide_eq_true_eq] at h
  omega
section
variable {Z : Cx} (ca : Nat → Addr) (T : List (Addr × Str))
abbrev rB (o : Bop) : R2 := rd2 Z.K ca T (fun hd a b => binD o (see hd a) (see hd b))
theorem ok_add : OpR Z (binaryOp .Add) (rB (Z := Z) ca T .add) := by
  refine OpR.imp (((op_add (X := Z)).or op_add_str).or (op_catB.or op_cat)) fun x y H Q h => ?_
  obtain ⟨L0, ρ, hd, a, b, d, r, ra, rb, e, g⟩ := h
  replace e : binD .add (see hd a) (see hd b) = some d := e
  revert e
  generalize ea : see hd a = a'
  generalize eb : see hd b = b'
  intro e
  cases a' <;> cases b' <;> simp only [binD] at e <;> try (cases e; done)
  · -- ints
    cases e
    have h1 := see_other ra ea (fun _ z => nomatch z)
    have h2 := see_other rb eb (fun _ z => nomatch z)
    rw [Rep] at h1 h2
    subst h1; subst h2
    exact .inl (.inl ⟨_, _, rfl, rfl, g.int r⟩)
  · -- texts
    split at e
    · rename_i hz
      cases e
      have h1 := see_other ra ea (fun _ z => nomatch z)
      have h2 := see_other rb eb (fun _ z => nomatch z)
      rw [Rep] at h1 h2
      subst h1; subst h2
      refine .inl (.inr ⟨_, _, rfl, rfl, by rw [St_length, St_length, ← szL_eq]; exact hz, ?_⟩)
      rw [St_append]
      exact g.str r
    · cases e
  · -- tuples
    split at e
    · rename_i xs ys hz
      cases e
      have h1 := see_other ra ea (fun _ z => nomatch z)
      have h2 := see_other rb eb (fun _ z => nomatch z)
      rw [Rep] at h1 h2
      obtain ⟨p, vs, rfl, h1, h3⟩ := h1
      obtain ⟨q, ws, rfl, h2, h4⟩ := h2
      refine .inr (.inl ⟨p, q, vs, ws, rfl, rfl, h1.sq, h2.sq, by rw [← h3.length, ← h4.length, ← szL_eq]; exact hz, fun e => ?_, fun _ e => ?_, fun _ _ => ?_⟩)
      · have := h3.nil_iff.mpr e
        subst this
        exact g.same r (by rw [Rep]; exact ⟨q, ws, rfl, h2, by simpa using h4⟩)
      · have := h4.nil_iff.mpr e
        subst this
        exact g.same r (by rw [Rep]; exact ⟨p, vs, rfl, h1, by simpa using h3⟩)
      · exact g.tup r (h3.append h4)
    · cases e
  · split at e
    · rename_i xs ys hz
      cases e
      obtain ⟨p, vs, rfl, h1, h3⟩ := see_lst r ra ea
      obtain ⟨q, ws, rfl, h2, h4⟩ := see_lst r rb eb
      exact .inr (.inr ⟨p, q, vs, ws, rfl, rfl, h1, h2, by rw [← h3.length, ← h4.length, ← szL_eq]; exact hz, fun n hn => g.lst r (h3.append h4) hn⟩)
    · cases e
theorem ok_sub : OpR Z (binaryOp .Sub) (rB (Z := Z) ca T .sub) := by
  refine OpR.imp op_sub fun x y H Q h => ?_
  obtain ⟨L0, ρ, hd, a, b, d, r, ra, rb, e, g⟩ := h
  replace e : binD .sub (see hd a) (see hd b) = some d := e
  revert e
  generalize ea : see hd a = a'
  generalize eb : see hd b = b'
  intro e
  cases a' <;> cases b' <;> simp only [binD] at e <;> try (cases e; done)
  cases e
  have h1 := see_other ra ea (fun _ z => nomatch z)
  have h2 := see_other rb eb (fun _ z => nomatch z)
  rw [Rep] at h1 h2
  subst h1; subst h2
  exact ⟨_, _, rfl, rfl, g.int r⟩
theorem ok_mul : OpR Z (binaryOp .Mult) (rB (Z := Z) ca T .mul) := by
  refine OpR.imp (((op_mul (X := Z)).or op_mulW).or op_rep) fun x y H Q h => ?_
  obtain ⟨L0, ρ, hd, a, b, d, r, ra, rb, e, g⟩ := h
  replace e : binD .mul (see hd a) (see hd b) = some d := e
  revert e
  generalize ea : see hd a = a'
  generalize eb : see hd b = b'
  intro e
  cases a' <;> cases b' <;> simp only [binD] at e <;> try (cases e; done)
  · split at e
    · rename_i hz
      cases e
      have h1 := see_other ra ea (fun _ z => nomatch z)
      have h2 := see_other rb eb (fun _ z => nomatch z)
      rw [Rep] at h1 h2
      subst h1; subst h2
      simp only [Bool.or_eq_true, decide_eq_true_eq] at hz
      rcases hz with (hz | hz) | hz
      · exact .inl (.inl ⟨_, _, rfl, rfl, .inl (small_ok hz), g.int r⟩)
      · exact .inl (.inl ⟨_, _, rfl, rfl, .inr (small_ok hz), g.int r⟩)
      · exact .inl (.inr ⟨_, _, rfl, rfl, hz, g.int r⟩)
    · cases e
  · split at e
    · rename_i xs k hz
      cases e
      obtain ⟨p, vs, rfl, h1, h3⟩ := see_lst r ra ea
      have h2 := see_other rb eb (fun _ z => nomatch z)
      rw [Rep] at h2
      subst h2
      simp only [Bool.and_eq_true, decide_eq_true_eq] at hz
      obtain ⟨⟨z1, z2⟩, z3⟩ := hz
      refine .inr ⟨p, _, vs, rfl, rfl, h1, by omega, by omega, ?_, fun n hn => g.lst r (h3.rep _) hn⟩
      rw [← h3.length, ← szL_eq]
      exact z3
    · cases e
theorem ok_fdiv : OpR Z (binaryOp .FloorDiv) (rB (Z := Z) ca T .fdiv) := by
  refine OpR.imp op_fdiv fun x y H Q h => ?_
  obtain ⟨L0, ρ, hd, a, b, d, r, ra, rb, e, g⟩ := h
  replace e : binD .fdiv (see hd a) (see hd b) = some d := e
  revert e
  generalize ea : see hd a = a'
  generalize eb : see hd b = b'
  intro e
  cases a' <;> cases b' <;> simp only [binD] at e <;> try (cases e; done)
  split at e
  · rename_i hz
    cases e
    have h1 := see_other ra ea (fun _ z => nomatch z)
    have h2 := see_other rb eb (fun _ z => nomatch z)
    rw [Rep] at h1 h2
    subst h1; subst h2
    simp only [Bool.and_eq_true, decide_eq_true_eq] at hz
    exact ⟨_, _, rfl, rfl, hz, g.int r⟩
  · cases e
theorem ok_mod : OpR Z (binaryOp .Mod) (rB (Z := Z) ca T .mod) := by
  refine OpR.imp op_mod fun x y H Q h => ?_
  obtain ⟨L0, ρ, hd, a, b, d, r, ra, rb, e, g⟩ := h
  replace e : binD .mod (see hd a) (see hd b) = some d := e
  revert e
  generalize ea : see hd a = a'
  generalize eb : see hd b = b'
  intro e
  cases a' <;> cases b' <;> simp only [binD] at e <;> try (cases e; done)
  split at e
  · rename_i hz
    cases e
    have h1 := see_other ra ea (fun _ z => nomatch z)
    have h2 := see_other rb eb (fun _ z => nomatch z)
    rw [Rep] at h1 h2
    subst h1; subst h2
    exact ⟨_, _, rfl, rfl, of_decide_eq_true hz, g.int r⟩
  · cases e
theorem ok_pow : OpR Z (binaryOp .Pow) (rB (Z := Z) ca T .pow) := by
  refine OpR.imp op_pow fun x y H Q h => ?_
  obtain ⟨L0, ρ, hd, a, b, d, r, ra, rb, e, g⟩ := h
  replace e : binD .pow (see hd a) (see hd b) = some d := e
  revert e
  generalize ea : see hd a = a'
  generalize eb : see hd b = b'
  intro e
  cases a' <;> cases b' <;> simp only [binD] at e <;> try (cases e; done)
  split at e
  · rename_i hz
    cases e
    have h1 := see_other ra ea (fun _ z => nomatch z)
    have h2 := see_other rb eb (fun _ z => nomatch z)
    rw [Rep] at h1 h2
    subst h1; subst h2
    simp only [Bool.and_eq_true, decide_eq_true_eq] at hz
    obtain ⟨⟨z1, z2⟩, z3⟩ := hz
    exact ⟨_, _, rfl, rfl, ⟨z1, z2, by omega⟩, g.int r⟩
  · cases e
theorem ok_bin (o : Bop) : OpR Z (binaryOp (bopA o)) (rB (Z := Z) ca T o) := by
  cases o
  · exact ok_add ca T
  · exact ok_sub ca T
  · exact ok_mul ca T
  · exact ok_fdiv ca T
  · exact ok_mod ca T
  · exact ok_pow ca T
end
end Ev

set_option Elab.async false
set_option linter.all false
set_option maxRecDepth 100000
set_option maxHeartbeats 4000000
/-! Ev2d: comparisons by values. -/
namespace Ev
open PySem L2 PyProof.Rows
mutual
def pd : D → PyData
  | .bl b => .bool b
  | .int i => .int i
  | .str s => .str (St s)
  | .tup xs => .tuple (pds xs)
  | .lst xs => .list (pds xs)
  | _ => .none
def pds : List D → List PyData
  | [] => []
  | x :: xs => pd x :: pds xs
end
theorem pds_map : ∀ xs : List D, pds xs = xs.map pd
  | [] => rfl
  | x :: xs => by rw [pds, pds_map xs]; rfl
section
variable {K : PySem.W.Frag} {ρ : List Addr} {H : Hp} {L : Addr → Prop}
mutual
theorem dp_of : ∀ (d : D) (v : V), eqable d = true → Rep K ρ L H d v → Dp K H v (pd d)
  | .non, v, e, h => by rw [Rep] at h; subst h; have e : pd .non = .none := by simp [pd]
                        rw [e]; exact .non
  | .bl b, v, e, h => by rw [Rep] at h; subst h; rw [pd]; exact .bl b
  | .int b, v, e, h => by rw [Rep] at h; subst h; rw [pd]; exact .int b
  | .str b, v, e, h => by rw [Rep] at h; subst h; rw [pd]; exact .str _
  | .tup ds, v, e, h => by
    rw [Rep] at h
    obtain ⟨a, vs, rfl, h1, h2⟩ := h
    rw [eqable] at e
    rw [pd]
    exact .tup h1.sq (dps_of ds vs e h2)
  | .lst ds, v, e, h => by
    rw [Rep] at h
    obtain ⟨a, vs, rfl, h1, _, h2⟩ := h
    rw [eqable] at e
    rw [pd]
    exact .lst (SqL.of h1) (dps_of ds vs e h2)
  | .wtp ds, v, e, h => by simp [eqable] at e
  | .ro ds, v, e, h => by simp [eqable] at e
  | .loc n, v, e, h => by simp [eqable] at e
theorem dps_of : ∀ (ds : List D) (vs : List V), eqables ds = true → Reps K ρ L H ds vs → DpAll K H vs (pds ds)
  | [], vs, e, h => by rw [Reps] at h; subst h; rw [pds]; exact .nil
  | d :: ds, vs, e, h => by
    rw [Reps] at h
    obtain ⟨v, w, rfl, h1, h2⟩ := h
    rw [eqables, Bool.and_eq_true] at e
    rw [pds]
    exact .cons (dp_of d v e.1 h1) (dps_of ds w e.2 h2)
end
end
theorem St_beq (a b : Nm) : ((St a : Str) == St b) = (a == b) := by
  by_cases h : a = b
  · subst h; simp
  · have : St a ≠ St b := fun e => h (St_inj e)
    rw [beq_eq_false_iff_ne.mpr h, beq_eq_false_iff_ne.mpr this]
mutual
theorem eqv_deq : ∀ (a b : D), eqable a = true → eqable b = true → PyData.eqv (pd a) (pd b) = deq a b
  | .non, b, ha, hb => by cases b <;> simp [eqable] at hb <;> simp [pd, PyData.eqv, deq]
  | .bl x, b, ha, hb => by cases b <;> simp [eqable] at hb <;> simp [pd, PyData.eqv, deq]
  | .int x, b, ha, hb => by cases b <;> simp [eqable] at hb <;> simp [pd, PyData.eqv, deq]
  | .str x, b, ha, hb => by
    cases b <;> simp [eqable] at hb <;> simp only [pd, PyData.eqv, deq]
    exact St_beq _ _
  | .tup xs, b, ha, hb => by
    cases b <;> simp only [eqable] at ha hb <;> simp only [pd, PyData.eqv, deq] <;> try (cases hb; done)
    exact eqvs_deqs xs _ ha hb
  | .lst xs, b, ha, hb => by
    cases b <;> simp only [eqable] at ha hb <;> simp only [pd, PyData.eqv, deq] <;> try (cases hb; done)
    exact eqvs_deqs xs _ ha hb
  | .wtp xs, b, ha, hb => by simp [eqable] at ha
  | .ro xs, b, ha, hb => by simp [eqable] at ha
  | .loc n, b, ha, hb => by simp [eqable] at ha
theorem eqvs_deqs : ∀ (a b : List D), eqables a = true → eqables b = true → PyData.eqvAll (pds a) (pds b) = deqs a b
  | [], [], _, _ => by simp [pds, PyData.eqvAll, deqs]
  | [], y :: ys, _, _ => by simp [pds, PyData.eqvAll, deqs]
  | x :: xs, [], _, _ => by simp [pds, PyData.eqvAll, deqs]
  | x :: xs, y :: ys, ha, hb => by
    rw [eqables, Bool.and_eq_true] at ha hb
    simp only [pds, PyData.eqvAll, deqs]
    rw [eqv_deq x y ha.1 hb.1, eqvs_deqs xs ys ha.2 hb.2]
end
mutual
theorem lay_pd : ∀ (a : D), eqable a = true → (pd a).canLay0 = true
  | .non, h => by simp [pd, PyData.canLay0]
  | .bl _, h => by simp [pd, PyData.canLay0]
  | .int _, h => by simp [pd, PyData.canLay0]
  | .str s, h => by
    simp only [pd, PyData.canLay0, PyData.strOk, St]
    rw [← Array.all_toList]
    rw [eqable] at h
    exact h
  | .tup xs, h => by
    rw [eqable] at h
    simp only [pd, PyData.canLay0]
    exact lays_pds xs h
  | .lst xs, h => by
    rw [eqable] at h
    simp only [pd, PyData.canLay0]
    exact lays_pds xs h
  | .wtp xs, h => by simp [eqable] at h
  | .ro xs, h => by simp [eqable] at h
  | .loc n, h => by simp [eqable] at h
theorem lays_pds : ∀ (a : List D), eqables a = true → PyData.canLayAll0 (pds a) = true
  | [], _ => by simp [pds, PyData.canLayAll0]
  | x :: xs, h => by
    rw [eqables, Bool.and_eq_true] at h
    simp only [pds, PyData.canLayAll0, Bool.and_eq_true]
    exact ⟨lay_pd x h.1, lays_pds xs h.2⟩
end
mutual
theorem dep_pd : ∀ (a : D), (pd a).depth = dep a
  | .non => by simp [pd, PyData.depth, dep]
  | .bl _ => by simp [pd, PyData.depth, dep]
  | .int _ => by simp [pd, PyData.depth, dep]
  | .str s => by simp [pd, PyData.depth, dep]
  | .tup xs => by simp [pd, PyData.depth, dep, deps_pds xs]
  | .lst xs => by simp [pd, PyData.depth, dep, deps_pds xs]
  | .wtp xs => by simp [pd, PyData.depth, dep]
  | .ro xs => by simp [pd, PyData.depth, dep]
  | .loc n => by simp [pd, PyData.depth, dep]
theorem deps_pds : ∀ (a : List D), PyData.depthAll (pds a) = deps a
  | [] => by simp [pds, PyData.depthAll, deps]
  | x :: xs => by simp [pds, PyData.depthAll, deps, dep_pd x, deps_pds xs]
end
theorem shaped_of {a : D} (h : eqable a = true) (h' : dep a ≤ 64) : SeqAt.shaped (pd a) = true := by
  simp only [SeqAt.shaped, Bool.and_eq_true, decide_eq_true_eq]
  exact ⟨lay_pd a h, by rw [dep_pd]; exact h'⟩
theorem eqD_some {a b : D} {r : Bool} (h : eqD a b = some r) : eqable a = true ∧ eqable b = true ∧ dep a ≤ 60 ∧ dep b ≤ 60 ∧ r = deq a b := by
  unfold eqD at h
  split at h
  · rename_i hc
    cases h
    simp only [Bool.and_eq_true, decide_eq_true_eq] at hc
    obtain ⟨⟨⟨h1, h2⟩, h3⟩, h4⟩ := hc
    exact ⟨h1, h2, h3, h4, rfl⟩
  · cases h
/-- x in xs, all of them data -/
theorem any_pds {x : D} (hx : eqable x = true) : ∀ {ys : List D}, eqables ys = true → (pds ys).any (fun z => PyData.eqv z (pd x)) = ys.any fun y => deq y x
  | [], _ => by simp [pds]
  | y :: ys, h => by
    rw [eqables, Bool.and_eq_true] at h
    rw [pds, List.any_cons, List.any_cons, eqv_deq y x h.1 hx, any_pds hx h.2]
theorem inD_some {x : D} {ys : List D} {r : Bool} (h : inD x ys = some r) : eqable x = true ∧ eqables ys = true ∧ dep x ≤ 60 ∧ deps ys ≤ 60 ∧ r = (pds ys).any fun z => PyData.eqv z (pd x) := by
  unfold inD at h
  split at h
  · rename_i hc
    cases h
    simp only [Bool.and_eq_true, decide_eq_true_eq] at hc
    obtain ⟨⟨⟨h1, h2⟩, h3⟩, h4⟩ := hc
    exact ⟨h1, h2, h3, h4, (any_pds h1 h2).symm⟩
  · cases h
end Ev

set_option Elab.async false
set_option linter.all false
set_option maxRecDepth 100000
set_option maxHeartbeats 4000000
/-! Ev2e: comparisons: the rules. -/
namespace Ev
open PySem L2 PyProof.Rows
def copA : Cop → CmpOp
  | .eq => .Eq | .ne => .NotEq | .lt => .Lt | .le => .LtE | .gt => .Gt | .ge => .GtE | .isN => .Is | .notN => .IsNot | .isT => .Is | .notT => .IsNot | .isin => .In | .notin => .NotIn
section
variable {K : PySem.W.Frag} {ca : Nat → Addr} {T : List (Addr × Str)} {L0 : Addr → Prop} {ρ : List Addr} {hd : Hd} {H : Hp}
theorem see_Rep (r : RelH K ca T L0 ρ hd H) {d : D} {v : V} (h : Rep K ρ (Lv L0 ρ hd) H d v) (e : eqable (see hd d) = true) : Dp K H v (pd (see hd d)) := by
  cases hs : see hd d with
  | lst xs =>
    obtain ⟨a, vs, rfl, h1, h2⟩ := see_lst r h hs
    rw [hs, eqable] at e
    rw [pd]
    exact .lst (SqL.of h1) (dps_of xs vs e h2)
  | non => exact dp_of _ v (by rw [← hs]; exact e) (see_other h hs (fun _ z => nomatch z))
  | bl b => exact dp_of _ v (by rw [← hs]; exact e) (see_other h hs (fun _ z => nomatch z))
  | int b => exact dp_of _ v (by rw [← hs]; exact e) (see_other h hs (fun _ z => nomatch z))
  | str b => exact dp_of _ v (by rw [← hs]; exact e) (see_other h hs (fun _ z => nomatch z))
  | tup b => exact dp_of _ v (by rw [← hs]; exact e) (see_other h hs (fun _ z => nomatch z))
  | wtp b => rw [hs] at e; simp [eqable] at e
  | ro b => rw [hs] at e; simp [eqable] at e
  | loc b => rw [hs] at e; simp [eqable] at e
end
section
variable {Z : Cx} (ca : Nat → Addr) (T : List (Addr × Str))
abbrev rC (o : Cop) : R2 := rd2 Z.K ca T (fun hd a b => (cmpD o hd a b).map D.bl)
theorem ok_eq (hu : Z.A.units + 64 < cLine) : OpR Z (compareOp .Eq) (rC (Z := Z) ca T .eq) := by
  refine OpR.imp (op_eqD hu) fun x y H Q h => ?_
  obtain ⟨L0, ρ, hd, a, b, d, r, ra, rb, e, g⟩ := h
  replace e : (eqD (see hd a) (see hd b)).map D.bl = some d := e
  cases he : eqD (see hd a) (see hd b) with
  | none => rw [he] at e; cases e
  | some k =>
    rw [he] at e; cases e
    obtain ⟨h1, h2, h3, h4, h5⟩ := eqD_some he
    refine ⟨_, _, see_Rep r ra h1, see_Rep r rb h2, shaped_of h1 (by omega), shaped_of h2 (by omega), ?_⟩
    rw [eqv_deq _ _ h1 h2, ← h5]
    exact g.bl r
theorem ok_ne (hu : Z.A.units + 64 < cLine) : OpR Z (compareOp .NotEq) (rC (Z := Z) ca T .ne) := by
  refine OpR.imp (op_neD hu) fun x y H Q h => ?_
  obtain ⟨L0, ρ, hd, a, b, d, r, ra, rb, e, g⟩ := h
  replace e : (match eqD (see hd a) (see hd b) with | some r => some (!r) | none => none).map D.bl = some d := e
  cases he : eqD (see hd a) (see hd b) with
  | none => rw [he] at e; cases e
  | some k =>
    rw [he] at e; cases e
    obtain ⟨h1, h2, h3, h4, h5⟩ := eqD_some he
    refine ⟨_, _, see_Rep r ra h1, see_Rep r rb h2, shaped_of h1 (by omega), shaped_of h2 (by omega), ?_⟩
    rw [eqv_deq _ _ h1 h2, ← h5]
    exact g.bl r
/-- two ints -/
theorem ints_of {K : PySem.W.Frag} {L0 : Addr → Prop} {ρ : List Addr} {hd : Hd} {H : Hp} {o : Cop} {a b d : D} {x y : V} (ho : o = .lt ∨ o = .le ∨ o = .gt ∨ o = .ge)
    (ra : Rep K ρ (Lv L0 ρ hd) H a x) (rb : Rep K ρ (Lv L0 ρ hd) H b y) (e : (cmpD o hd a b).map D.bl = some d) : ∃ i j k, x = .int i ∧ y = .int j ∧ ordI o i j = some k ∧ d = .bl k := by
  rcases ho with rfl | rfl | rfl | rfl <;> cases a <;> cases b <;> (try (simp [cmpD] at e; done)) <;> (rw [Rep] at ra rb; subst ra; subst rb; simp only [cmpD, ordI, Option.map] at e; cases e; exact ⟨_, _, _, rfl, rfl, rfl, rfl⟩)
theorem ok_lt : OpR Z (compareOp .Lt) (rC (Z := Z) ca T .lt) := by
  refine OpR.imp op_lt fun x y H Q h => ?_
  obtain ⟨L0, ρ, hd, a, b, d, r, ra, rb, e, g⟩ := h
  obtain ⟨i, j, k, rfl, rfl, e2, rfl⟩ := ints_of (.inl rfl) ra rb e
  cases e2
  exact ⟨_, _, rfl, rfl, g.bl r⟩
theorem ok_le : OpR Z (compareOp .LtE) (rC (Z := Z) ca T .le) := by
  refine OpR.imp op_le fun x y H Q h => ?_
  obtain ⟨L0, ρ, hd, a, b, d, r, ra, rb, e, g⟩ := h
  obtain ⟨i, j, k, rfl, rfl, e2, rfl⟩ := ints_of (.inr (.inl rfl)) ra rb e
  cases e2
  exact ⟨_, _, rfl, rfl, g.bl r⟩
theorem ok_gt : OpR Z (compareOp .Gt) (rC (Z := Z) ca T .gt) := by
  refine OpR.imp op_gt fun x y H Q h => ?_
  obtain ⟨L0, ρ, hd, a, b, d, r, ra, rb, e, g⟩ := h
  obtain ⟨i, j, k, rfl, rfl, e2, rfl⟩ := ints_of (.inr (.inr (.inl rfl))) ra rb e
  cases e2
  exact ⟨_, _, rfl, rfl, g.bl r⟩
theorem ok_ge : OpR Z (compareOp .GtE) (rC (Z := Z) ca T .ge) := by
  refine OpR.imp op_ge fun x y H Q h => ?_
  obtain ⟨L0, ρ, hd, a, b, d, r, ra, rb, e, g⟩ := h
  obtain ⟨i, j, k, rfl, rfl, e2, rfl⟩ := ints_of (.inr (.inr (.inr rfl))) ra rb e
  cases e2
  exact ⟨_, _, rfl, rfl, g.bl r⟩
theorem isnon_rep {K : PySem.W.Frag} {L0 : Addr → Prop} {ρ : List Addr} {hd : Hd} {H : Hp} {a : D} {x : V} (ra : Rep K ρ (Lv L0 ρ hd) H a x) : decide (x = .non) = isNon a := by
  cases a <;> rw [Rep] at ra
  · subst ra; rfl
  · subst ra; rfl
  · subst ra; rfl
  · subst ra; rfl
  · obtain ⟨_, _, rfl, _⟩ := ra; rfl
  · obtain ⟨_, _, rfl, _⟩ := ra; rfl
  · obtain ⟨_, _, rfl, _⟩ := ra; rfl
  · obtain ⟨_, _, rfl, _⟩ := ra; rfl
  · obtain ⟨_, rfl, _⟩ := ra; rfl
theorem ok_isN : OpR Z (compareOp .Is) (rC (Z := Z) ca T .isN) := by
  refine OpR.imp op_isN fun x y H Q h => ?_
  obtain ⟨L0, ρ, hd, a, b, d, r, ra, rb, e, g⟩ := h
  cases b <;> simp [cmpD] at e
  subst e
  rw [Rep] at rb
  subst rb
  refine ⟨rfl, ?_⟩
  rw [isnon_rep ra]
  exact g.bl r
theorem ok_notN : OpR Z (compareOp .IsNot) (rC (Z := Z) ca T .notN) := by
  refine OpR.imp op_notN fun x y H Q h => ?_
  obtain ⟨L0, ρ, hd, a, b, d, r, ra, rb, e, g⟩ := h
  cases b <;> simp [cmpD] at e
  subst e
  rw [Rep] at rb
  subst rb
  refine ⟨rfl, ?_⟩
  rw [isnon_rep ra]
  exact g.bl r
theorem ok_isT : OpR Z (compareOp .Is) (rC (Z := Z) ca T .isT) := by
  refine OpR.imp op_isBl fun x y H Q h => ?_
  obtain ⟨L0, ρ, hd, a, b, d, r, ra, rb, e, g⟩ := h
  cases a <;> cases b <;> simp [cmpD] at e
  rename_i p q
  subst e
  rw [Rep] at ra rb
  subst ra; subst rb
  refine ⟨p, q, rfl, rfl, ?_⟩
  have hb : decide (p = q) = (p == q) := by cases p <;> cases q <;> rfl
  rw [hb]
  exact g.bl r
theorem ok_notT : OpR Z (compareOp .IsNot) (rC (Z := Z) ca T .notT) := by
  refine OpR.imp op_notBl fun x y H Q h => ?_
  obtain ⟨L0, ρ, hd, a, b, d, r, ra, rb, e, g⟩ := h
  cases a <;> cases b <;> simp [cmpD] at e
  rename_i p q
  subst e
  rw [Rep] at ra rb
  subst ra; subst rb
  refine ⟨p, q, rfl, rfl, ?_⟩
  have hb : (!decide (p = q)) = (!(p == q)) := by cases p <;> cases q <;> rfl
  rw [hb]
  exact g.bl r
def rInT (K : PySem.W.Frag) (n : Bool) : R2 := fun x y H Q => ∃ d ds, Dp K H x d ∧ Dp K H y (.tuple ds) ∧ SeqAt.shaped d = true ∧ SeqAt.shaped (.tuple ds) = true ∧ Q (.bl (n ^^ (ds.any fun z => PyData.eqv z d))) H
theorem op_inT (hu : Z.A.units + 65 < cLine) : OpR Z (compareOp .In) (rInT Z.K false) := by
  intro pins s σ H x y v u Q I rx ry h
  obtain ⟨d, ds, hd, he, sd, se, q⟩ := h
  obtain ⟨as, r1⟩ := Dp.reads I d x v hd rx
  obtain ⟨bs, r2⟩ := Dp.reads I (.tuple ds) y u he ry
  exact SeqAt.in_tuple_reads r2 r1 (SeqAt.canLay_of_shaped se) (SeqAt.canLay_of_shaped sd) (room_in_shaped sd hu) ⟨.bl _, H, I, rfl, by simpa using q⟩
theorem op_notInT (hu : Z.A.units + 65 < cLine) : OpR Z (compareOp .NotIn) (rInT Z.K true) := by
  intro pins s σ H x y v u Q I rx ry h
  obtain ⟨d, ds, hd, he, sd, se, q⟩ := h
  obtain ⟨as, r1⟩ := Dp.reads I d x v hd rx
  obtain ⟨bs, r2⟩ := Dp.reads I (.tuple ds) y u he ry
  exact SeqAt.notIn_tuple_reads r2 r1 (SeqAt.canLay_of_shaped se) (SeqAt.canLay_of_shaped sd) (room_in_shaped sd hu) ⟨.bl _, H, I, rfl, by simpa using q⟩
/-- texts apart: a sign of a text, a member of a sequence -/
theorem tlOf (s : Nm) : (St s).cps.toList = s := by simp [St]
theorem ok_isin (hu : Z.A.units + 65 < cLine) : OpR Z (compareOp .In) (rC (Z := Z) ca T .isin) := by
  refine OpR.imp ((op_in_sign (X := Z)).or ((op_inD hu).or (op_inT hu))) fun x y H Q h => ?_
  obtain ⟨L0, ρ, hd, a, b, d, r, ra, rb, e, g⟩ := h
  replace e : (cmpD .isin hd a b).map D.bl = some d := e
  cases hs : see hd b with
  | str z =>
    have h2 := see_other rb hs (fun _ z => nomatch z)
    rw [Rep] at h2; subst h2
    cases a with
    | str w =>
      match w, e, ra with
      | [], e, ra => simp [cmpD, hs] at e
      | [c], e, ra =>
        simp only [cmpD, hs, Option.map] at e
        cases e
        rw [Rep] at ra; subst ra
        refine .inl ⟨c, St z, rfl, rfl, ?_⟩
        rw [tlOf]
        have : decide (c ∈ z) = z.contains c := by simp
        rw [this]
        exact g.bl r
      | c :: c2 :: w, e, ra => simp [cmpD, hs] at e
    | _ => simp [cmpD, hs] at e
  | tup ys =>
    have h2 := see_other rb hs (fun _ z => nomatch z)
    have e2 : (inD a ys).map D.bl = some d := by cases a <;> simp only [cmpD, hs] at e <;> exact e
    cases he : inD a ys with
    | none => rw [he] at e2; cases e2
    | some k =>
      rw [he] at e2; cases e2
      obtain ⟨h3, h4, h5, h6, h7⟩ := inD_some he
      refine .inr (.inr ⟨pd a, pds ys, dp_of a x h3 ra, ?_, shaped_of h3 (by omega), ?_, ?_⟩)
      · have := dp_of (.tup ys) y (by rw [eqable]; exact h4) h2
        rw [pd] at this; exact this
      · have := shaped_of (a := .tup ys) (by rw [eqable]; exact h4) (by rw [dep]; omega)
        rw [pd] at this; exact this
      · rw [Bool.false_xor, ← h7]; exact g.bl r
  | lst ys =>
    obtain ⟨p, vs, rfl, h2, h2'⟩ := see_lst r rb hs
    have e2 : (inD a ys).map D.bl = some d := by cases a <;> simp only [cmpD, hs] at e <;> exact e
    cases he : inD a ys with
    | none => rw [he] at e2; cases e2
    | some k =>
      rw [he] at e2; cases e2
      obtain ⟨h3, h4, h5, h6, h7⟩ := inD_some he
      refine .inr (.inl ⟨pd a, pds ys, dp_of a x h3 ra, .lst (SqL.of h2) (dps_of ys vs h4 h2'), shaped_of h3 (by omega), ?_, ?_⟩)
      · have := shaped_of (a := .lst ys) (by rw [eqable]; exact h4) (by rw [dep]; omega)
        rw [pd] at this; exact this
      · rw [← h7]; exact g.bl r
  | _ => cases a <;> simp [cmpD, hs] at e
theorem ok_notin (hu : Z.A.units + 65 < cLine) : OpR Z (compareOp .NotIn) (rC (Z := Z) ca T .notin) := by
  refine OpR.imp ((op_notIn_sign (X := Z)).or ((op_notInD hu).or (op_notInT hu))) fun x y H Q h => ?_
  obtain ⟨L0, ρ, hd, a, b, d, r, ra, rb, e, g⟩ := h
  replace e : (cmpD .notin hd a b).map D.bl = some d := e
  cases hs : see hd b with
  | str z =>
    have h2 := see_other rb hs (fun _ z => nomatch z)
    rw [Rep] at h2; subst h2
    cases a with
    | str w =>
      match w, e, ra with
      | [], e, ra => simp [cmpD, hs] at e
      | [c], e, ra =>
        simp only [cmpD, hs, Option.map] at e
        cases e
        rw [Rep] at ra; subst ra
        refine .inl ⟨c, St z, rfl, rfl, ?_⟩
        rw [tlOf]
        have : (!decide (c ∈ z)) = !z.contains c := by simp
        rw [this]
        exact g.bl r
      | c :: c2 :: w, e, ra => simp [cmpD, hs] at e
    | _ => simp [cmpD, hs] at e
  | tup ys =>
    have h2 := see_other rb hs (fun _ z => nomatch z)
    have e2 : (match inD a ys with | some r => some (!r) | none => none).map D.bl = some d := by cases a <;> simp only [cmpD, hs] at e <;> exact e
    cases he : inD a ys with
    | none => rw [he] at e2; cases e2
    | some k =>
      rw [he] at e2; cases e2
      obtain ⟨h3, h4, h5, h6, h7⟩ := inD_some he
      refine .inr (.inr ⟨pd a, pds ys, dp_of a x h3 ra, ?_, shaped_of h3 (by omega), ?_, ?_⟩)
      · have := dp_of (.tup ys) y (by rw [eqable]; exact h4) h2
        rw [pd] at this; exact this
      · have := shaped_of (a := .tup ys) (by rw [eqable]; exact h4) (by rw [dep]; omega)
        rw [pd] at this; exact this
      · rw [Bool.true_xor, ← h7]; exact g.bl r
  | lst ys =>
    obtain ⟨p, vs, rfl, h2, h2'⟩ := see_lst r rb hs
    have e2 : (match inD a ys with | some r => some (!r) | none => none).map D.bl = some d := by cases a <;> simp only [cmpD, hs] at e <;> exact e
    cases he : inD a ys with
    | none => rw [he] at e2; cases e2
    | some k =>
      rw [he] at e2; cases e2
      obtain ⟨h3, h4, h5, h6, h7⟩ := inD_some he
      refine .inr (.inl ⟨pd a, pds ys, dp_of a x h3 ra, .lst (SqL.of h2) (dps_of ys vs h4 h2'), shaped_of h3 (by omega), ?_, ?_⟩)
      · have := shaped_of (a := .lst ys) (by rw [eqable]; exact h4) (by rw [dep]; omega)
        rw [pd] at this; exact this
      · rw [← h7]; exact g.bl r
  | _ => cases a <;> simp [cmpD, hs] at e
theorem ok_cmp (hu : Z.A.units + 65 < cLine) (o : Cop) : OpR Z (compareOp (copA o)) (rC (Z := Z) ca T o) := by
  cases o
  · exact ok_eq ca T (by omega)
  · exact ok_ne ca T (by omega)
  · exact ok_lt ca T
  · exact ok_le ca T
  · exact ok_gt ca T
  · exact ok_ge ca T
  · exact ok_isN ca T
  · exact ok_notN ca T
  · exact ok_isT ca T
  · exact ok_notT ca T
  · exact ok_isin ca T hu
  · exact ok_notin ca T hu
end
end Ev

set_option Elab.async false
set_option linter.all false
set_option maxRecDepth 100000
set_option maxHeartbeats 4000000
/-! Ev2f: texts: numbers and repr. -/
namespace Ev
open PySem L2 PyProof.Rows
theorem St_ofString (s : String) : (Str.ofString s) = St (s.toList.map Char.toNat) := by rw [Str.ofString_eq_toList]; rfl
theorem natStr_repr (n : Nat) : (Nat.repr n).toList.map Char.toNat = natStr n := by
  rw [Nat.toList_repr]; rfl
theorem intStr_ok : ∀ i : Int, Str.ofString (toString i) = St (intStr i)
  | .ofNat n => by
    rw [St_ofString]
    show St ((Nat.repr n).toList.map Char.toNat) = _
    rw [natStr_repr]; rfl
  | .negSucc n => by
    rw [St_ofString]
    show St (("-" ++ Nat.repr (n + 1)).toList.map Char.toNat) = _
    rw [String.toList_append, List.map_append, natStr_repr]
    rfl
theorem join_ok (sep : Nm) : ∀ ts : List Nm, Str.join (St sep) (ts.map St) = St (joinS sep ts)
  | [] => rfl
  | [x] => rfl
  | x :: y :: r => by
    show St x ++ St sep ++ Str.join (St sep) ((y :: r).map St) = _
    rw [join_ok sep (y :: r), St_append, St_append]
    rfl
theorem printable : ∀ c : Nat, 32 ≤ c → c < 127 → Unicode.isPrintable c = true := by
  have h : ∀ n : Fin 127, (decide (32 ≤ n.val) → Unicode.isPrintable n.val = true) := by decide +kernel
  intro c h1 h2
  exact h ⟨c, h2⟩ (by simpa using h1)
theorem repr_text (s : Nm) (h : s.all (fun c => decide (32 ≤ c) && decide (c < 127) && c != 39 && c != 92) = true) : reprText (St s) = St (39 :: (s ++ [39])) := by
  have hq : reprQuote (St s) = 39 := by
    unfold reprQuote
    have : (St s).cps.contains 39 = false := by
      simp only [St, List.contains_toArray]
      rw [List.contains_eq_any_beq]
      simp only [List.any_eq_false]
      intro x hx
      have := List.all_eq_true.mp h x hx
      simp only [Bool.and_eq_true, bne_iff_ne, decide_eq_true_eq] at this
      simp
      intro e
      exact this.1.2 e.symm
    rw [this]
    rfl
  have hc : ∀ c ∈ s, Builtin.Str.reprChar 39 c = [c] := fun c hc => by
    have := List.all_eq_true.mp h c hc
    simp only [Bool.and_eq_true, bne_iff_ne, decide_eq_true_eq] at this
    obtain ⟨⟨⟨h1, h2⟩, h3⟩, h4⟩ := this
    unfold Builtin.Str.reprChar
    simp [h3, h4, printable c h1 h2, show c ≠ 10 by omega, show c ≠ 13 by omega, show c ≠ 9 by omega]
  have hf : ∀ (l : List Nat) (acc : Array Nat), (∀ c ∈ l, c ∈ s) → l.foldl (fun out c => out ++ (Builtin.Str.reprChar 39 c).toArray) acc = acc ++ l.toArray := by
    intro l
    induction l with
    | nil => intro acc _; simp
    | cons c l ih =>
      intro acc hl
      rw [List.foldl_cons, hc c (hl c (by simp)), ih _ (fun d hd => hl d (by simp [hd]))]
      simp
  unfold reprText
  rw [hq]
  show (⟨((St s).cps.foldl _ #[39]).push 39⟩ : Str) = _
  have e : (St s).cps.foldl (fun out c => out ++ (Builtin.Str.reprChar 39 c).toArray) #[39] = #[39] ++ s.toArray := by
    show s.toArray.foldl _ _ = _
    rw [List.foldl_toArray]
    exact hf s _ (fun _ h => h)
  rw [e]
  simp [St]
theorem textFrom_eq : ∀ (ts : List Nm) (k : Nat) (acc : Nm), PySem.textFrom k (St acc) (ts.map St) = St (acc ++ (if k > 0 then (match ts with | [] => [] | _ => [44, 32]) else []) ++ joinS [44, 32] ts)
  | [], k, acc => by simp [PySem.textFrom, joinS]
  | t :: ts, k, acc => by
    show PySem.textFrom (k + 1) (St acc ++ (if k > 0 then ", " else "" : String) ++ St t) (ts.map St) = _
    have e1 : (Str.ofString (if k > 0 then ", " else "" : String)) = St (if k > 0 then [44, 32] else []) := by
      split <;> (rw [St_ofString]; rfl)
    show PySem.textFrom (k + 1) (St acc ++ Str.ofString (if k > 0 then ", " else "" : String) ++ St t) (ts.map St) = _
    rw [e1, St_append, St_append, textFrom_eq ts (k + 1)]
    rw [if_pos (Nat.succ_pos k)]
    cases ts with
    | nil => simp [joinS]
    | cons u us => simp [joinS, List.append_assoc]
theorem listText_eq (ts : List Nm) : PySem.listText (ts.map St) = St (91 :: (joinS [44, 32] ts ++ [93])) := by
  unfold PySem.listText
  show PySem.textFrom 0 (Str.ofString "[") (ts.map St) ++ Str.ofString "]" = _
  rw [St_ofString, St_ofString]
  show PySem.textFrom 0 (St [91]) (ts.map St) ++ St [93] = _
  rw [textFrom_eq, St_append]
  rfl
theorem tupleText_eq (ts : List Nm) : PySem.tupleText (ts.map St) = St (40 :: (joinS [44, 32] ts ++ (if ts.length = 1 then [44, 41] else [41]))) := by
  unfold PySem.tupleText
  show Str.ofString "(" ++ Str.join (Str.ofString ", ") (ts.map St) ++ Str.ofString (if (ts.map St).length == 1 then ",)" else ")" : String) = _
  have e : Str.ofString (if (ts.map St).length == 1 then ",)" else ")" : String) = St (if ts.length = 1 then [44, 41] else [41]) := by
    rw [List.length_map]
    by_cases h : ts.length = 1
    · rw [if_pos (by simp [h]), if_pos h, St_ofString]; rfl
    · rw [if_neg (by simp [h]), if_neg h, St_ofString]; rfl
  rw [e, St_ofString, St_ofString]
  show St [40] ++ Str.join (St [44, 32]) (ts.map St) ++ _ = _
  rw [join_ok, St_append, St_append]
  rfl
mutual
theorem shown_ok : ∀ (d : D) (t : Nm), reprD d = some t → (pd d).shown = St t ∧ (pd d).showable = true ∧ (pd d).hasDict = false ∧ eqable d = true
  | .non, t, h => by
    simp only [reprD] at h; cases h
    simp only [pd, PyData.shown, PyData.showable, PyData.hasDict, eqable, and_true]
    show Str.ofString "None" = _
    rw [St_ofString]; rfl
  | .bl b, t, h => by
    simp only [reprD] at h; cases h
    simp only [pd, PyData.shown, PyData.showable, PyData.hasDict, eqable, and_true]
    cases b
    · show Str.ofString "False" = _
      rw [St_ofString]; rfl
    · show Str.ofString "True" = _
      rw [St_ofString]; rfl
  | .int i, t, h => by
    simp only [reprD] at h
    split at h
    · rename_i hz
      cases h
      simp only [pd, PyData.shown, PyData.showable, PyData.hasDict, eqable, and_true]
      exact ⟨intStr_ok i, decide_eq_true hz⟩
    · cases h
  | .str s, t, h => by
    simp only [reprD] at h
    split at h
    · rename_i hz
      cases h
      simp only [pd, PyData.shown, PyData.showable, PyData.hasDict, eqable, true_and]
      refine ⟨repr_text s hz, ?_⟩
      rw [List.all_eq_true] at hz ⊢
      intro c hc
      have := hz c hc
      simp only [Bool.and_eq_true, decide_eq_true_eq] at this ⊢
      omega
    · cases h
  | .tup xs, t, h => by
    simp only [reprD] at h
    cases he : reprDs xs with
    | none => rw [he] at h; cases h
    | some ts =>
      obtain ⟨h1, h2, h3, h4⟩ := showns_ok xs ts he
      simp only [pd, PyData.shown, PyData.showable, PyData.hasDict, eqable]
      refine ⟨?_, h2, h3, h4⟩
      rw [h1, tupleText_eq]
      rw [he] at h
      match ts, h with
      | [], h => cases h; rfl
      | [x], h => cases h; simp [joinS]
      | x :: y :: r, h => cases h; simp
  | .lst xs, t, h => by
    simp only [reprD] at h
    cases he : reprDs xs with
    | none => rw [he] at h; cases h
    | some ts =>
      obtain ⟨h1, h2, h3, h4⟩ := showns_ok xs ts he
      simp only [pd, PyData.shown, PyData.showable, PyData.hasDict, eqable]
      refine ⟨?_, h2, h3, h4⟩
      rw [h1, listText_eq]
      rw [he] at h
      cases h
      rfl
  | .ro xs, t, h => by simp [reprD] at h
  | .loc n, t, h => by simp [reprD] at h
theorem showns_ok : ∀ (ds : List D) (ts : List Nm), reprDs ds = some ts → PyData.shownAll (pds ds) = ts.map St ∧ PyData.showableAll (pds ds) = true ∧ PyData.hasDictAll (pds ds) = false ∧ eqables ds = true
  | [], ts, h => by
    simp only [reprDs] at h; cases h
    simp [pds, PyData.shownAll, PyData.showableAll, PyData.hasDictAll, eqables]
  | d :: ds, ts, h => by
    simp only [reprDs] at h
    cases h1 : reprD d with
    | none => rw [h1] at h; cases h
    | some t =>
      cases h2 : reprDs ds with
      | none => rw [h1, h2] at h; cases h
      | some us =>
        rw [h1, h2] at h; cases h
        obtain ⟨a1, a2, a3, a4⟩ := shown_ok d t h1
        obtain ⟨b1, b2, b3, b4⟩ := showns_ok ds us h2
        simp [pds, PyData.shownAll, PyData.showableAll, PyData.hasDictAll, eqables, a1, a2, a3, a4, b1, b2, b3, b4]
end
end Ev

set_option Elab.async false
set_option linter.all false
set_option maxRecDepth 100000
set_option maxHeartbeats 4000000
/-! Ev2g: places, slices, built-ins by values. -/
namespace Ev
open PySem L2 PyProof.Rows
theorem ixN_eq (n : Nat) (i : Int) : Ev.ixN n i = L2.ixN n i := rfl
theorem atI_eq {α : Type} (xs : List α) (i : Int) : Ev.atI xs i = L2.atI xs i := by
  unfold Ev.atI L2.atI
  rw [ixN_eq]
  cases L2.ixN xs.length i <;> rfl
theorem sIx_eq (n d : Nat) (o : Option Int) : Ev.sIx n d o = HT.sIx n d o := by
  cases o <;> rfl
theorem cut_eq (xs : List V) (lo hi : Option Int) : Ev.cut xs lo hi = L2.cutV xs lo hi := by
  unfold Ev.cut L2.cutV
  rw [sIx_eq, sIx_eq]
section
variable {K : PySem.W.Frag} {ca : Nat → Addr} {T : List (Addr × Str)} {L0 : Addr → Prop} {ρ : List Addr} {hd : Hd} {H : Hp} {L : Addr → Prop}
theorem Reps.atI {ds : List D} {vs : List V} {i : Int} {d : D} (h : Reps K ρ L H ds vs) (e : Ev.atI ds i = some d) : ∃ v, L2.atI vs i = some v ∧ Rep K ρ L H d v := by
  rw [← atI_eq]
  unfold Ev.atI at e ⊢
  rw [← h.length]
  cases hx : Ev.ixN ds.length i with
  | none => rw [hx] at e; cases e
  | some j => rw [hx] at e; exact h.get e
theorem Reps.cut {ds : List D} {vs : List V} (h : Reps K ρ L H ds vs) (lo hi : Option Int) : Reps K ρ L H (Ev.cut ds lo hi) (L2.cutV vs lo hi) := by
  rw [← cut_eq]
  unfold Ev.cut
  rw [h.length]
  exact (h.drop _).take _
end
section
variable {Z : Cx} (ca : Nat → Addr) (T : List (Addr × Str))
theorem IxR.imp {X : Cx} {r r' : R2} (h : IxR X r) (i : ∀ x y H Q, r' x y H Q → r x y H Q) : IxR X r' :=
  fun a b pins s σ H x y v u Q I rx ry q => h a b pins s σ H x y v u Q I rx ry (i x y H Q q)
theorem ok_sub' : IxR Z (rd2 Z.K ca T subD) := by
  refine IxR.imp ix_seq fun x y H Q h => ?_
  obtain ⟨L0, ρ, hd, a, b, d, r, ra, rb, e, g⟩ := h
  unfold subD at e
  cases b with
  | int i =>
    rw [Rep] at rb; subst rb
    cases hs : see hd a with
    | tup xs =>
      rw [hs] at e
      have h2 := see_other ra hs (fun _ z => nomatch z)
      rw [Rep] at h2
      obtain ⟨p, vs, rfl, h1, h3⟩ := h2
      obtain ⟨v, e1, e2⟩ := h3.atI e
      exact .inr (.inl ⟨p, vs, i, v, rfl, rfl, h1.sq, e1, g.same r e2⟩)
    | lst xs =>
      rw [hs] at e
      obtain ⟨p, vs, rfl, h1, h3⟩ := see_lst r ra hs
      obtain ⟨v, e1, e2⟩ := h3.atI e
      exact .inl ⟨p, vs, i, v, rfl, rfl, SqL.of h1, e1, g.same r e2⟩
    | ro xs =>
      rw [hs] at e
      have h2 := see_other ra hs (fun _ z => nomatch z)
      rw [Rep] at h2
      obtain ⟨p, vs, rfl, h1, h3⟩ := h2
      obtain ⟨v, e1, e2⟩ := h3.atI e
      refine .inl ⟨p, vs, i, v, rfl, rfl, ?_, e1, g.same r e2⟩
      rcases h1 with ⟨h1, _⟩ | ⟨o, h1⟩ | h1
      · exact SqL.of h1
      · exact .inl (.inr ⟨o, h1⟩)
      · exact .inr h1
    | str s =>
      rw [hs] at e
      have h2 := see_other ra hs (fun _ z => nomatch z)
      rw [Rep] at h2; subst h2
      simp only at e
      split at e
      · rename_i hz
        cases hc : Ev.atI s i with
        | none => rw [hc] at e; cases e
        | some c =>
          rw [hc] at e; cases e
          refine .inr (.inr ⟨St s, i, c, rfl, rfl, by rw [St_length, ← szL_eq]; exact hz, ?_, g.str r⟩)
          rw [← atI_eq, tlOf]; exact hc
      · cases e
    | _ => rw [hs] at e; cases e
  | _ => cases hs : see hd a <;> rw [hs] at e <;> cases e
def rdS (K : PySem.W.Frag) : V → Option Int → Option Int → Hp → VK → Prop := fun x lo hi H Q => ∃ L0 ρ hd a d, RelH K ca T L0 ρ hd H ∧ Rep K ρ (Lv L0 ρ hd) H a x ∧ slcD hd a lo hi = some d ∧ Gives K ca T L0 ρ hd H d Q
theorem SlR.imp {X : Cx} {r r' : V → Option Int → Option Int → Hp → VK → Prop} (h : SlR X r) (i : ∀ x lo hi H Q, r' x lo hi H Q → r x lo hi H Q) : SlR X r' :=
  fun pins s σ H x v vl vu lo hi sl Q I rx hs pl pu q => h pins s σ H x v vl vu lo hi sl Q I rx hs pl pu (i x lo hi H Q q)
theorem ok_slc : SlR Z (rdS ca T Z.K) := by
  refine SlR.imp ((sl_list (X := Z)).or (sl_tupB.or sl_str)) fun x lo hi H Q h => ?_
  obtain ⟨L0, ρ, hd, a, d, r, ra, e, g⟩ := h
  unfold slcD at e
  cases hs : see hd a with
  | tup xs =>
    rw [hs] at e; cases e
    have h2 := see_other ra hs (fun _ z => nomatch z)
    rw [Rep] at h2
    obtain ⟨p, vs, rfl, h1, h3⟩ := h2
    refine .inr (.inl ⟨p, vs, rfl, h1.sq, fun hw => ?_, fun _ => g.tup r (h3.cut lo hi)⟩)
    refine g.same r ?_
    rw [Rep]
    refine ⟨p, vs, rfl, h1, ?_⟩
    have : Ev.cut xs lo hi = xs := by
      unfold Ev.cut
      rw [sIx_eq, sIx_eq, h3.length, hw.1, hw.2, ← h3.length]
      simp
    rw [this]
    exact h3
  | lst xs =>
    rw [hs] at e; cases e
    obtain ⟨p, vs, rfl, h1, h3⟩ := see_lst r ra hs
    exact .inl ⟨p, vs, rfl, SqL.of h1, fun q hq => g.lst r (h3.cut lo hi) hq⟩
  | ro xs =>
    rw [hs] at e; cases e
    have h2 := see_other ra hs (fun _ z => nomatch z)
    rw [Rep] at h2
    obtain ⟨p, vs, rfl, h1, h3⟩ := h2
    refine .inl ⟨p, vs, rfl, ?_, fun q hq => g.lst r (h3.cut lo hi) hq⟩
    rcases h1 with ⟨h1, _⟩ | ⟨o, h1⟩ | h1
    · exact SqL.of h1
    · exact .inl (.inr ⟨o, h1⟩)
    · exact .inr h1
  | str s =>
    rw [hs] at e
    have h2 := see_other ra hs (fun _ z => nomatch z)
    rw [Rep] at h2; subst h2
    simp only at e
    split at e
    · rename_i hz
      cases e
      refine .inr (.inr ?_)
      refine ⟨St s, rfl, by rw [St_length, ← szL_eq]; exact hz, ?_⟩
      have : cutS (St s) lo hi = St (Ev.cut s lo hi) := by
        unfold cutS Ev.cut
        simp [St, Str.length, sIx_eq]
      rw [this]
      exact g.str r
    · cases e
  | _ => rw [hs] at e; cases e
end
end Ev

set_option Elab.async false
set_option linter.all false
set_option maxRecDepth 100000
set_option maxHeartbeats 4000000
/-! Ev2h: built-ins by values. -/
namespace Ev
open PySem L2 PyProof.Rows
/-! ### sums, least, greatest of tuples -/
section
variable {prog : Program} {w : World} {A : Around} {E : Value → Shared → Prop} {s : Shared}
theorem preSum_take (ns : List Int) : ∀ j, j ≤ ns.length → preSum (fun i => ns.getD i 0) j = (ns.take j).sum
  | 0, _ => by simp [preSum]
  | j + 1, h => by
    have h1 : j < ns.length := h
    rw [preSum, preSum_take ns j (Nat.le_of_lt h1), List.take_succ_eq_append_getElem h1, List.sum_append]
    simp [List.getD_eq_getElem?_getD, h1]
theorem intsAre_get : ∀ {us : List Value} {ns : List Int}, IntsAre us ns → ∀ (i : Nat) (v : Value), us[i]? = some v → ∃ t, v = .int (ns.getD i 0) t
  | us, ns, h, i, v, e => by
    have r := vals_of_ints h
    have hi : i < us.length := (List.getElem?_eq_some_iff.mp e).1
    have hl := r.length
    rw [List.length_map] at hl
    have h2 : (ns.map V.int)[i]? = some (.int (ns.getD i 0)) := by
      have hj : i < ns.length := by omega
      rw [List.getElem?_map, List.getElem?_eq_getElem hj]
      simp [List.getD_eq_getElem?_getD, hj]
    obtain ⟨u, e1, t, e2⟩ := r.get h2
    rw [e] at e1; cases e1
    exact ⟨t, e2⟩
theorem sum_tup_raw {l : Addr} {vs : List Value} {ns : List Int} {Q : Value → Shared → Prop} (hh : A.handled = none) (hl : s.heap.IsTuple l vs.toArray) (hi : IntsAre vs ns)
    (h : ∀ h' tk t', (∀ b o, s.heap.get? b = some o → h'.get? b = some o) → Q (.int ns.sum t') { s with heap := h', toks := tk }) : wpAny (model prog w) A (call (.builtin "sum") [.ref l]) Q E s := by
  have hlt : l < s.heap.objs.size := by obtain ⟨_, e, _⟩ := hl; exact Heap.lt_size e
  refine call_sum_walkG (wpAny_pyIter_tuple hl ?_)
  refine ⟨s.heap.objs.size, [s.heap.objs.size, l], [s.heap.objs.size], _, _, _, (fun i => ns.getD i 0), rfl, Walks.tuple (A := A.in1) hh _ l (Nat.ne_of_lt hlt) vs.toArray, ⟨⟨_, Heap.get?_push_size _ rfl, rfl, rfl⟩, hl.push _⟩, ?_, ?_, ?_⟩
  · intro b hb
    show b < (s.heap.push _).objs.size
    rw [Heap.size_push]
    simp only [List.mem_cons, List.not_mem_nil, or_false] at hb
    rcases hb with h | h
    · rw [h]; exact Nat.lt_succ_self _
    · rw [h]; exact Nat.lt_succ_of_lt hlt
  · intro i v hv
    exact intsAre_get hi i v (by simpa using hv)
  · intro h' tk t' hk
    have e : preSum (fun i => ns.getD i 0) vs.toArray.size = ns.sum := by
      have hl : vs.length = ns.length := hi.length
      rw [List.size_toArray, hl, preSum_take ns _ (Nat.le_refl _), List.take_length]
    rw [e]
    exact h h' tk t' fun b o hb => hk b o (by simp; intro z; subst z; exact absurd (Heap.lt_size hb) (Nat.lt_irrefl _)) (Heap.get?_push_of_some _ hb)
end
section
variable {Z : Cx}
theorem cr_sumT (hc : Z.calm = true) : CallR Z (.builtin "sum") (fun vs H Q => ∃ (a : Addr) (ns : List Int), vs = [V.ref a] ∧ SqT Z.K H a (ns.map V.int) ∧ Q (.int ns.sum) H) := by
  intro pins s σ H xs us Q I r h
  obtain ⟨a, ns, rfl, hs, q⟩ := h
  obtain ⟨u, rfl, rx⟩ := vals1 r
  obtain rfl : u = .ref a := rx
  obtain ⟨its, rv, pl, hz⟩ := I.tuple hs
  obtain ⟨ob, e, c, n, d⟩ := pl
  exact sum_tup_raw (I.ok.hd hc) ⟨ob, e, c, n, d⟩ (Vals.ints rv) fun h' tk t' hk => ⟨.int ns.sum, H, I.kept hk, ⟨t', rfl⟩, q⟩
theorem readsAll_ints : ∀ {us : List Value} {ns : List Int} (h : Heap), Vals (ns.map V.int) us → ReadsAll h us (ns.map PyData.int) []
  | us, [], h, r => by cases r; exact .nil
  | us, n :: ns, h, r => by
    cases r with
    | cons ru rt =>
      obtain ⟨t, rfl⟩ := ru
      exact .cons (as := []) (bs := []) (.int n t) (readsAll_ints h rt)
theorem alike_ints (ns : List Int) : W.AlikeAll (ns.map PyData.int) := by
  refine ⟨fun x hx y hy => ?_, fun x hx => ?_⟩
  · obtain ⟨a, _, rfl⟩ := List.mem_map.mp hx
    obtain ⟨b, _, rfl⟩ := List.mem_map.mp hy
    rfl
  · obtain ⟨a, _, rfl⟩ := List.mem_map.mp hx
    intro z; cases z
theorem depth_ints : ∀ ns : List Int, PyData.depthAll (ns.map PyData.int) = 0
  | [] => by simp [PyData.depthAll]
  | n :: ns => by simp [PyData.depthAll, PyData.depth, depth_ints ns]
theorem reads_int {h : Heap} {v : Value} {i : Int} {bs : List Addr} (r : Reads h v (.int i) bs) : ∃ t, v = .int i t := by
  cases r; exact ⟨_, rfl⟩
theorem cr_minT (hc : Z.calm = true) (hu : Z.A.units + 64 < cLine) : CallR Z (.builtin "min") (fun vs H Q => ∃ (a : Addr) (n : Int) (ns : List Int), vs = [V.ref a] ∧ SqT Z.K H a ((n :: ns).map V.int) ∧ Q (.int (minI n ns)) H) := by
  intro pins s σ H xs us Q I r h
  obtain ⟨a, n, ns, rfl, hs, q⟩ := h
  obtain ⟨u, rfl, rx⟩ := vals1 r
  obtain rfl : u = .ref a := rx
  obtain ⟨its, rv, pl, hz⟩ := I.tuple hs
  obtain ⟨ob, e, c, m, d⟩ := pl
  refine W.min_tuple_data (x := .int n) (xs := ns.map PyData.int) (as := []) (I.ok.hd hc) ⟨ob, e, c, m, d⟩ (by simpa using readsAll_ints s.heap rv) (by simpa using alike_ints (n :: ns)) ?_ fun i v h' tk bs _ rd hk => ?_
  · have := depth_ints (n :: ns)
    rw [List.map_cons] at this
    rw [this]; omega
  · rw [W.minD_ints] at rd
    obtain ⟨t, rfl⟩ := reads_int rd
    exact ⟨.int (minI n ns), H, I.kept hk, ⟨t, rfl⟩, q⟩
theorem cr_maxT (hc : Z.calm = true) (hu : Z.A.units + 64 < cLine) : CallR Z (.builtin "max") (fun vs H Q => ∃ (a : Addr) (n : Int) (ns : List Int), vs = [V.ref a] ∧ SqT Z.K H a ((n :: ns).map V.int) ∧ Q (.int (maxI n ns)) H) := by
  intro pins s σ H xs us Q I r h
  obtain ⟨a, n, ns, rfl, hs, q⟩ := h
  obtain ⟨u, rfl, rx⟩ := vals1 r
  obtain rfl : u = .ref a := rx
  obtain ⟨its, rv, pl, hz⟩ := I.tuple hs
  obtain ⟨ob, e, c, m, d⟩ := pl
  refine W.max_tuple_data (x := .int n) (xs := ns.map PyData.int) (as := []) (I.ok.hd hc) ⟨ob, e, c, m, d⟩ (by simpa using readsAll_ints s.heap rv) (by simpa using alike_ints (n :: ns)) ?_ fun i v h' tk bs _ rd hk => ?_
  · have := depth_ints (n :: ns)
    rw [List.map_cons] at this
    rw [this]; omega
  · rw [W.maxD_ints] at rd
    obtain ⟨t, rfl⟩ := reads_int rd
    exact ⟨.int (maxI n ns), H, I.kept hk, ⟨t, rfl⟩, q⟩
/-- repr of data -/
theorem cr_repr (hg : Z.A.guards = some []) (hu : Z.A.units + 65 < cLine) : CallR Z (.builtin "repr") (fun vs H Q => ∃ (x : V) (d : PyData), vs = [x] ∧ Dp Z.K H x d ∧ d.showable = true ∧ d.hasDict = false ∧ d.depth ≤ 60 ∧ d.shown.length ≤ sizeLine ∧ Q (.str d.shown) H) := by
  intro pins s σ H xs us Q I r h
  obtain ⟨x, d, rfl, hd, h1, h2, h3, h4, q⟩ := h
  obtain ⟨u, rfl, rx⟩ := vals1 r
  obtain ⟨as, rd⟩ := Dp.reads I d x u hd rx
  have key : ∀ h' tk t, (∀ b o, s.heap.get? b = some o → h'.get? b = some o) → EP Z pins σ Q (.str d.shown t) { s with heap := h', toks := tk } := fun h' tk t hk => ⟨.str d.shown, H, I.kept hk, ⟨t, rfl⟩, q⟩
  have kt : ∀ t, EP Z pins σ Q (.str d.shown t) { s with toks := s.toks + 1 } := fun t => key s.heap _ t fun _ _ e => e
  cases hd with
  | non =>
    obtain rfl : u = .none := rx
    exact PySem.P.repr_of_none (kt _)
  | bl b =>
    obtain rfl : u = .bool b := rx
    have := kt s.toks
    cases b
    · exact PySem.P.repr_of_bool this
    · exact PySem.P.repr_of_bool this
  | int i =>
    obtain ⟨t, rfl⟩ := rx
    exact PySem.P.repr_of_int (by simpa [PyData.showable] using h1) (kt _)
  | str z =>
    obtain ⟨t, rfl⟩ := rx
    exact PySem.P.repr_of_str (kt _) h4
  | lst hs ha =>
    obtain rfl : u = .ref _ := rx
    refine repr_of_reads' rd h1 (fun z => by rw [h2] at z; cases z) hg ?_ (fun _ _ e => e) (fun h' t tk hk => key h' tk t hk) h4
    omega
  | tup hs ha =>
    obtain rfl : u = .ref _ := rx
    refine repr_of_reads' rd h1 (fun z => by rw [h2] at z; cases z) hg ?_ (fun _ _ e => e) (fun h' t tk hk => key h' tk t hk) h4
    omega
end
end Ev

set_option Elab.async false
set_option linter.all false
set_option maxRecDepth 100000
set_option maxHeartbeats 4000000
/-! Ev2i: built-ins: the rules. -/
namespace Ev
open PySem L2 PyProof.Rows
theorem insI_perm (x : Int) : ∀ l, (insI x l).Perm (x :: l)
  | [] => .refl _
  | y :: l => by
    unfold insI
    split
    · exact .refl _
    · exact ((insI_perm x l).cons y).trans (.swap x y l)
theorem sortI_perm : ∀ l, (sortI l).Perm l
  | [] => .refl _
  | x :: l => (insI_perm x _).trans ((sortI_perm l).cons x)
theorem insI_sorted (x : Int) : ∀ l, l.Pairwise (· ≤ ·) → (insI x l).Pairwise (· ≤ ·)
  | [], _ => by simp [insI]
  | y :: l, h => by
    unfold insI
    rw [List.pairwise_cons] at h
    split
    · rename_i hx
      rw [List.pairwise_cons, List.pairwise_cons]
      refine ⟨fun z hz => ?_, h⟩
      rcases List.mem_cons.mp hz with e | e
      · rw [e]; exact hx
      · exact Int.le_trans hx (h.1 z e)
    · rename_i hx
      rw [List.pairwise_cons]
      refine ⟨fun z hz => ?_, insI_sorted x l h.2⟩
      rcases List.mem_cons.mp ((insI_perm x l).mem_iff.mp hz) with e | e
      · rw [e]; omega
      · exact h.1 z e
theorem sortI_sorted : ∀ l, (sortI l).Pairwise (· ≤ ·)
  | [] => by simp [sortI]
  | x :: l => insI_sorted x _ (sortI_sorted l)
theorem sortI_only {a l : List Int} (hp : a.Perm l) (hs : a.Pairwise (· ≤ ·)) : a = sortI l :=
  W.ksm_same (hp.trans (sortI_perm l).symm) hs (sortI_sorted l)
theorem minI_mem : ∀ (ns : List Int) (n : Int), minI n ns ∈ n :: ns
  | [], n => by simp [minI]
  | k :: ns, n => by
    have := minI_mem ns (min n k)
    show minI (min n k) ns ∈ _
    rcases List.mem_cons.mp this with e | e
    · rw [e]
      by_cases h : n ≤ k
      · simp [Int.min_def, h]
      · simp [Int.min_def, h]
    · exact List.mem_cons_of_mem _ (List.mem_cons_of_mem _ e)
theorem minI_le : ∀ (ns : List Int) (n : Int), ∀ y ∈ n :: ns, minI n ns ≤ y
  | [], n, y, h => by simp at h; subst h; simp [minI]
  | k :: ns, n, y, h => by
    have ih := minI_le ns (min n k)
    show minI (min n k) ns ≤ y
    rcases List.mem_cons.mp h with e | e
    · have := ih (min n k) (by simp)
      rw [e]; omega
    · rcases List.mem_cons.mp e with e | e
      · have := ih (min n k) (by simp)
        rw [e]; omega
      · exact ih y (List.mem_cons_of_mem _ e)
theorem maxI_mem : ∀ (ns : List Int) (n : Int), maxI n ns ∈ n :: ns
  | [], n => by simp [maxI]
  | k :: ns, n => by
    have := maxI_mem ns (max n k)
    show maxI (max n k) ns ∈ _
    rcases List.mem_cons.mp this with e | e
    · rw [e]
      by_cases h : n ≤ k
      · simp [Int.max_def, h]
      · simp [Int.max_def, h]
    · exact List.mem_cons_of_mem _ (List.mem_cons_of_mem _ e)
theorem maxI_le : ∀ (ns : List Int) (n : Int), ∀ y ∈ n :: ns, y ≤ maxI n ns
  | [], n, y, h => by simp at h; subst h; simp [maxI]
  | k :: ns, n, y, h => by
    have ih := maxI_le ns (max n k)
    show y ≤ maxI (max n k) ns
    rcases List.mem_cons.mp h with e | e
    · have := ih (max n k) (by simp)
      rw [e]; omega
    · rcases List.mem_cons.mp e with e | e
      · have := ih (max n k) (by simp)
        rw [e]; omega
      · exact ih y (List.mem_cons_of_mem _ e)
/-- a built-in as the model has it -/
def biV : Bi → Value
  | .len => .builtin "len" | .tuple => .type "tuple" | .list => .type "list" | .all => .builtin "all" | .any => .builtin "any" | .sum => .builtin "sum" | .min => .builtin "min" | .max => .builtin "max" | .abs => .builtin "abs"
  | .int => .type "int" | .str => .type "str" | .repr => .builtin "repr" | .sorted => .builtin "sorted" | .divmod => .builtin "divmod" | _ => .none
def rdBi (K : PySem.W.Frag) (ca : Nat → Addr) (T : List (Addr × Str)) (b : Bi) : List V → Hp → VK → Prop := fun vs H Q => ∃ L0 ρ hd ds d, RelH K ca T L0 ρ hd H ∧ Reps K ρ (Lv L0 ρ hd) H ds vs ∧ biD b hd ds = some d ∧ Gives K ca T L0 ρ hd H d Q
theorem CallR.imp {X : Cx} {f : Value} {r r' : List V → Hp → VK → Prop} (h : CallR X f r) (i : ∀ xs H Q, r' xs H Q → r xs H Q) : CallR X f r' :=
  fun pins s σ H xs us Q I r q => h pins s σ H xs us Q I r (i xs H Q q)
theorem CallR.or {X : Cx} {f : Value} {r r' : List V → Hp → VK → Prop} (h : CallR X f r) (h' : CallR X f r') : CallR X f (fun xs H Q => r xs H Q ∨ r' xs H Q) :=
  fun pins s σ H xs us Q I r q => q.elim (h pins s σ H xs us Q I r) (h' pins s σ H xs us Q I r)
theorem reps1 {K : PySem.W.Frag} {ρ : List Addr} {H : Hp} {L : Addr → Prop} {d : D} {vs : List V} (h : Reps K ρ L H [d] vs) : ∃ v, vs = [v] ∧ Rep K ρ L H d v := by
  rw [Reps] at h
  obtain ⟨v, r, e, h1, h2⟩ := h
  rw [Reps] at h2
  subst h2
  exact ⟨v, e, h1⟩
theorem reps2 {K : PySem.W.Frag} {ρ : List Addr} {H : Hp} {L : Addr → Prop} {d e : D} {vs : List V} (h : Reps K ρ L H [d, e] vs) : ∃ v w, vs = [v, w] ∧ Rep K ρ L H d v ∧ Rep K ρ L H e w := by
  rw [Reps] at h
  obtain ⟨v, r, e, h1, h2⟩ := h
  obtain ⟨w, rfl, h3⟩ := reps1 h2
  exact ⟨v, w, e, h1, h3⟩
theorem one_of {α : Type} {d : α} : ∀ {ds : List D} {f : D → Option α}, (match ds with | [x] => f x | _ => none) = some d → ∃ x, ds = [x] ∧ f x = some d
  | [x], f, h => ⟨x, rfl, h⟩
  | [], f, h => by cases h
  | _ :: _ :: _, f, h => by cases h
section
variable {Z : Cx} (ca : Nat → Addr) (T : List (Addr × Str))
theorem ok_len : CallR Z (.builtin "len") (rdBi Z.K ca T .len) := by
  refine CallR.imp (call_len (X := Z)) fun vs H Q h => ?_
  obtain ⟨L0, ρ, hd, ds, d, r, rs, e, g⟩ := h
  match ds, e, rs with
  | [x], e, rs =>
    obtain ⟨v, rfl, rv⟩ := reps1 rs
    simp only [biD] at e
    refine ⟨v, ?_⟩
    cases hs : see hd x with
    | tup xs =>
      rw [hs] at e; cases e
      have h2 := see_other rv hs (fun _ z => nomatch z)
      rw [Rep] at h2
      obtain ⟨p, ws, rfl, h1, h3⟩ := h2
      exact ⟨xs.length, rfl, .inr ⟨ws, h1.sq, h3.length⟩, g.int r⟩
    | lst xs =>
      rw [hs] at e; cases e
      obtain ⟨p, ws, rfl, h1, h3⟩ := see_lst r rv hs
      exact ⟨xs.length, rfl, .inl ⟨ws, SqL.of h1, h3.length⟩, g.int r⟩
    | ro xs =>
      rw [hs] at e; cases e
      have h2 : seqD hd x = some xs := by simp [seqD, hs]
      obtain ⟨p, ws, rfl, h1, h3⟩ := seq_of r rv h2
      exact ⟨xs.length, rfl, h1.elim (fun h => .inl ⟨ws, h, h3.length⟩) (fun h => .inr ⟨ws, h, h3.length⟩), g.int r⟩
    | str z =>
      rw [hs] at e
      simp only at e
      split at e
      · rename_i hz
        cases e
        have h2 := see_other rv hs (fun _ z => nomatch z)
        rw [Rep] at h2; subst h2
        exact ⟨z.length, rfl, ⟨by rw [St_length, ← szL_eq]; exact hz, by rw [St_length]⟩, g.int r⟩
      · cases e
    | _ => rw [hs] at e; cases e
  | [], e, rs => simp [biD] at e
  | _ :: _ :: _, e, rs => simp [biD] at e
theorem ok_tuple : CallR Z (.type "tuple") (rdBi Z.K ca T .tuple) := by
  refine CallR.imp (call_tupleB (X := Z)) fun vs H Q h => ?_
  obtain ⟨L0, ρ, hd, ds, d, r, rs, e, g⟩ := h
  match ds, e, rs with
  | [x], e, rs =>
    obtain ⟨v, rfl, rv⟩ := reps1 rs
    simp only [biD] at e
    cases hs : seqD hd x with
    | none => rw [hs] at e; cases e
    | some xs =>
      rw [hs] at e; cases e
      obtain ⟨p, ws, rfl, h1, h3⟩ := seq_ofT r rv hs
      refine ⟨p, ws, rfl, ?_⟩
      rcases h1 with h1 | h1
      · exact .inl ⟨h1, g.tup r h3⟩
      · exact .inr ⟨h1.sq, g.same r (by rw [Rep]; exact ⟨p, ws, rfl, h1, h3⟩)⟩
  | [], e, rs => simp [biD] at e
  | _ :: _ :: _, e, rs => simp [biD] at e
theorem ok_list : CallR Z (.type "list") (rdBi Z.K ca T .list) := by
  refine CallR.imp (call_list_of (X := Z)) fun vs H Q h => ?_
  obtain ⟨L0, ρ, hd, ds, d, r, rs, e, g⟩ := h
  match ds, e, rs with
  | [x], e, rs =>
    obtain ⟨v, rfl, rv⟩ := reps1 rs
    simp only [biD] at e
    cases hs : seqD hd x with
    | none => rw [hs] at e; cases e
    | some xs =>
      rw [hs] at e; cases e
      obtain ⟨p, ws, rfl, h1, h3⟩ := seq_of r rv hs
      exact ⟨p, ws, rfl, h1, fun l hl => g.lst r h3 hl⟩
  | [], e, rs => simp [biD] at e
  | _ :: _ :: _, e, rs => simp [biD] at e
theorem ok_all (hc : Z.calm = true) : CallR Z (.builtin "all") (rdBi Z.K ca T .all) := by
  refine CallR.imp (cr_all (X := Z) hc) fun vs H Q h => ?_
  obtain ⟨L0, ρ, hd, ds, d, r, rs, e, g⟩ := h
  match ds, e, rs with
  | [x], e, rs =>
    obtain ⟨v, rfl, rv⟩ := reps1 rs
    simp only [biD] at e
    cases hs : see hd x with
    | lst xs =>
      rw [hs] at e
      simp only at e
      cases hb : allB xs with
      | none => rw [hb] at e; cases e
      | some bs =>
        rw [hb] at e; cases e
        obtain ⟨p, ws, rfl, h1, h3⟩ := see_lst r rv hs
        have := h3.bls hb
        subst this
        exact ⟨p, bs, rfl, SqL.of h1, g.bl r⟩
    | _ => rw [hs] at e; cases e
  | [], e, rs => simp [biD] at e
  | _ :: _ :: _, e, rs => simp [biD] at e
theorem ok_any (hc : Z.calm = true) : CallR Z (.builtin "any") (rdBi Z.K ca T .any) := by
  refine CallR.imp (cr_any (X := Z) hc) fun vs H Q h => ?_
  obtain ⟨L0, ρ, hd, ds, d, r, rs, e, g⟩ := h
  match ds, e, rs with
  | [x], e, rs =>
    obtain ⟨v, rfl, rv⟩ := reps1 rs
    simp only [biD] at e
    cases hs : see hd x with
    | lst xs =>
      rw [hs] at e
      simp only at e
      cases hb : allB xs with
      | none => rw [hb] at e; cases e
      | some bs =>
        rw [hb] at e; cases e
        obtain ⟨p, ws, rfl, h1, h3⟩ := see_lst r rv hs
        have := h3.bls hb
        subst this
        exact ⟨p, bs, rfl, SqL.of h1, g.bl r⟩
    | _ => rw [hs] at e; cases e
  | [], e, rs => simp [biD] at e
  | _ :: _ :: _, e, rs => simp [biD] at e
theorem ok_sum (hc : Z.calm = true) : CallR Z (.builtin "sum") (rdBi Z.K ca T .sum) := by
  refine CallR.imp (CallR.or (cr_sum (X := Z) hc) (cr_sumT hc)) fun vs H Q h => ?_
  obtain ⟨L0, ρ, hd, ds, d, r, rs, e, g⟩ := h
  match ds, e, rs with
  | [x], e, rs =>
    obtain ⟨v, rfl, rv⟩ := reps1 rs
    simp only [biD] at e
    cases hs : seqD hd x with
    | none => rw [hs] at e; cases e
    | some xs =>
      rw [hs] at e
      simp only at e
      cases hb : allI xs with
      | none => rw [hb] at e; cases e
      | some ns =>
        rw [hb] at e; cases e
        obtain ⟨p, ws, rfl, h1, h3⟩ := seq_of r rv hs
        have := h3.ints hb
        subst this
        rcases h1 with h1 | h1
        · exact .inl ⟨p, ns, rfl, h1, g.int r⟩
        · exact .inr ⟨p, ns, rfl, h1, g.int r⟩
  | [], e, rs => simp [biD] at e
  | _ :: _ :: _, e, rs => simp [biD] at e
theorem ok_min (hc : Z.calm = true) (hu : Z.A.units + 64 < cLine) : CallR Z (.builtin "min") (rdBi Z.K ca T .min) := by
  refine CallR.imp (CallR.or (cr_min (X := Z) hc) (CallR.or (cr_minT hc hu) (call_min2 hc))) fun vs H Q h => ?_
  obtain ⟨L0, ρ, hd, ds, d, r, rs, e, g⟩ := h
  match ds, e, rs with
  | [x], e, rs =>
    obtain ⟨v, rfl, rv⟩ := reps1 rs
    simp only [biD] at e
    cases hs : seqD hd x with
    | none => rw [hs] at e; cases e
    | some xs =>
      rw [hs] at e
      simp only at e
      cases hb : allI xs with
      | none => rw [hb] at e; cases e
      | some ns =>
        rw [hb] at e
        obtain ⟨p, ws, rfl, h1, h3⟩ := seq_of r rv hs
        have := h3.ints hb
        subst this
        cases ns with
        | nil => cases e
        | cons n ns =>
          cases e
          rcases h1 with h1 | h1
          · refine .inl ⟨p, n :: ns, rfl, h1, by simp, fun m hm hle => ?_⟩
            have e1 := hle _ (minI_mem ns n)
            have e2 := minI_le ns n m hm
            have : m = minI n ns := by omega
            subst this
            exact g.int r
          · exact .inr (.inl ⟨p, n, ns, rfl, h1, g.int r⟩)
  | [.int i, .int j], e, rs =>
    obtain ⟨v, w, rfl, rv, rw'⟩ := reps2 rs
    rw [Rep] at rv rw'
    subst rv; subst rw'
    simp only [biD] at e
    cases e
    exact .inr (.inr ⟨i, j, rfl, g.int r⟩)
  | [], e, rs => simp [biD] at e
  | [.non, _], e, rs | [.bl _, _], e, rs | [.str _, _], e, rs | [.tup _, _], e, rs | [.lst _, _], e, rs | [.wtp _, _], e, rs | [.ro _, _], e, rs | [.loc _, _], e, rs => simp [biD] at e
  | [.int _, .non], e, rs | [.int _, .bl _], e, rs | [.int _, .str _], e, rs | [.int _, .tup _], e, rs | [.int _, .lst _], e, rs | [.int _, .wtp _], e, rs | [.int _, .ro _], e, rs | [.int _, .loc _], e, rs => simp [biD] at e
  | _ :: _ :: _ :: _, e, rs => simp [biD] at e
theorem ok_max (hc : Z.calm = true) (hu : Z.A.units + 64 < cLine) : CallR Z (.builtin "max") (rdBi Z.K ca T .max) := by
  refine CallR.imp (CallR.or (cr_max (X := Z) hc) (CallR.or (cr_maxT hc hu) (call_max2 hc))) fun vs H Q h => ?_
  obtain ⟨L0, ρ, hd, ds, d, r, rs, e, g⟩ := h
  match ds, e, rs with
  | [x], e, rs =>
    obtain ⟨v, rfl, rv⟩ := reps1 rs
    simp only [biD] at e
    cases hs : seqD hd x with
    | none => rw [hs] at e; cases e
    | some xs =>
      rw [hs] at e
      simp only at e
      cases hb : allI xs with
      | none => rw [hb] at e; cases e
      | some ns =>
        rw [hb] at e
        obtain ⟨p, ws, rfl, h1, h3⟩ := seq_of r rv hs
        have := h3.ints hb
        subst this
        cases ns with
        | nil => cases e
        | cons n ns =>
          cases e
          rcases h1 with h1 | h1
          · refine .inl ⟨p, n :: ns, rfl, h1, by simp, fun m hm hle => ?_⟩
            have e1 := hle _ (maxI_mem ns n)
            have e2 := maxI_le ns n m hm
            have : m = maxI n ns := by omega
            subst this
            exact g.int r
          · exact .inr (.inl ⟨p, n, ns, rfl, h1, g.int r⟩)
  | [.int i, .int j], e, rs =>
    obtain ⟨v, w, rfl, rv, rw'⟩ := reps2 rs
    rw [Rep] at rv rw'
    subst rv; subst rw'
    simp only [biD] at e
    cases e
    exact .inr (.inr ⟨i, j, rfl, g.int r⟩)
  | [], e, rs => simp [biD] at e
  | [.non, _], e, rs | [.bl _, _], e, rs | [.str _, _], e, rs | [.tup _, _], e, rs | [.lst _, _], e, rs | [.wtp _, _], e, rs | [.ro _, _], e, rs | [.loc _, _], e, rs => simp [biD] at e
  | [.int _, .non], e, rs | [.int _, .bl _], e, rs | [.int _, .str _], e, rs | [.int _, .tup _], e, rs | [.int _, .lst _], e, rs | [.int _, .wtp _], e, rs | [.int _, .ro _], e, rs | [.int _, .loc _], e, rs => simp [biD] at e
  | _ :: _ :: _ :: _, e, rs => simp [biD] at e
theorem ok_abs : CallR Z (.builtin "abs") (rdBi Z.K ca T .abs) := by
  refine CallR.imp (call_abs (X := Z)) fun vs H Q h => ?_
  obtain ⟨L0, ρ, hd, ds, d, r, rs, e, g⟩ := h
  match ds, e, rs with
  | [.int i], e, rs =>
    obtain ⟨v, rfl, rv⟩ := reps1 rs
    rw [Rep] at rv; subst rv
    simp only [biD] at e; cases e
    exact ⟨i, rfl, g.int r⟩
  | [], e, rs => simp [biD] at e
  | [.non], e, rs | [.bl _], e, rs | [.str _], e, rs | [.tup _], e, rs | [.lst _], e, rs | [.wtp _], e, rs | [.ro _], e, rs | [.loc _], e, rs => simp [biD] at e
  | _ :: _ :: _, e, rs => simp [biD] at e
theorem ok_int : CallR Z (.type "int") (rdBi Z.K ca T .int) := by
  refine CallR.imp (call_int1 (X := Z)) fun vs H Q h => ?_
  obtain ⟨L0, ρ, hd, ds, d, r, rs, e, g⟩ := h
  match ds, e, rs with
  | [.int i], e, rs =>
    obtain ⟨v, rfl, rv⟩ := reps1 rs
    rw [Rep] at rv; subst rv
    simp only [biD] at e; cases e
    exact .inl ⟨i, rfl, g.int r⟩
  | [.bl b], e, rs =>
    obtain ⟨v, rfl, rv⟩ := reps1 rs
    rw [Rep] at rv; subst rv
    simp only [biD] at e; cases e
    exact .inr ⟨b, rfl, g.int r⟩
  | [], e, rs => simp [biD] at e
  | [.non], e, rs | [.str _], e, rs | [.tup _], e, rs | [.lst _], e, rs | [.wtp _], e, rs | [.ro _], e, rs | [.loc _], e, rs => simp [biD] at e
  | _ :: _ :: _, e, rs => simp [biD] at e
theorem ok_str : CallR Z (.type "str") (rdBi Z.K ca T .str) := by
  refine CallR.imp (CallR.or (call_str_int (X := Z)) SkE.call_str_str) fun vs H Q h => ?_
  obtain ⟨L0, ρ, hd, ds, d, r, rs, e, g⟩ := h
  match ds, e, rs with
  | [.int i], e, rs =>
    obtain ⟨v, rfl, rv⟩ := reps1 rs
    rw [Rep] at rv; subst rv
    simp only [biD] at e
    split at e
    · rename_i hz
      cases e
      refine .inl ⟨i, rfl, hz, ?_⟩
      show Q (.str (Str.ofString (toString i))) H
      rw [intStr_ok]
      exact g.str r
    · cases e
  | [.str t], e, rs =>
    obtain ⟨v, rfl, rv⟩ := reps1 rs
    rw [Rep] at rv; subst rv
    simp only [biD] at e
    cases e
    exact .inr ⟨St t, rfl, g.str r⟩
  | [], e, rs => simp [biD] at e
  | [.non], e, rs | [.bl _], e, rs | [.tup _], e, rs | [.lst _], e, rs | [.wtp _], e, rs | [.ro _], e, rs | [.loc _], e, rs => simp [biD] at e
  | _ :: _ :: _, e, rs => simp [biD] at e
theorem ok_repr (hg : Z.A.guards = some []) (hu : Z.A.units + 65 < cLine) : CallR Z (.builtin "repr") (rdBi Z.K ca T .repr) := by
  refine CallR.imp (cr_repr (Z := Z) hg hu) fun vs H Q h => ?_
  obtain ⟨L0, ρ, hd, ds, d, r, rs, e, g⟩ := h
  match ds, e, rs with
  | [x], e, rs =>
    obtain ⟨v, rfl, rv⟩ := reps1 rs
    simp only [biD] at e
    cases ht : reprD x with
    | none => rw [ht] at e; cases e
    | some t =>
      rw [ht] at e
      simp only at e
      split at e
      · rename_i hz
        cases e
        simp only [Bool.and_eq_true, decide_eq_true_eq] at hz
        obtain ⟨h1, h2, h3, h4⟩ := shown_ok x t ht
        refine ⟨v, pd x, rfl, dp_of x v h4 rv, h2, h3, by rw [dep_pd]; exact hz.2, by rw [h1, St_length, ← szL_eq]; exact hz.1, ?_⟩
        rw [h1]
        exact g.str r
      · cases e
  | [], e, rs => simp [biD] at e
  | _ :: _ :: _, e, rs => simp [biD] at e
theorem ok_sorted : CallR Z (.builtin "sorted") (rdBi Z.K ca T .sorted) := by
  have base : CallR Z (.builtin "sorted") (fun vs H Q => ∃ (a : Addr) (ns : List Int), vs = [V.ref a] ∧ SqL Z.K H a (ns.map V.int) ∧ ns.length < 64 ∧ ∀ (ns' : List Int) (p : Addr), ns'.Perm ns → ns'.Pairwise (· ≤ ·) → H p = none → Q (.ref p) (upd H p (.lst (ns'.map V.int)))) := cr_sorted
  refine CallR.imp base fun vs H Q h => ?_
  obtain ⟨L0, ρ, hd, ds, d, r, rs, e, g⟩ := h
  match ds, e, rs with
  | [x], e, rs =>
    obtain ⟨v, rfl, rv⟩ := reps1 rs
    simp only [biD] at e
    cases hs : see hd x with
    | lst xs =>
      rw [hs] at e
      simp only at e
      cases hb : allI xs with
      | none => rw [hb] at e; cases e
      | some ns =>
        rw [hb] at e
        simp only at e
        split at e
        · rename_i hz
          cases e
          obtain ⟨p, ws, rfl, h1, h3⟩ := see_lst r rv hs
          have := h3.ints hb
          subst this
          refine ⟨p, ns, rfl, SqL.of h1, hz, fun ns' q hp hs hq => ?_⟩
          rw [sortI_only hp hs]
          exact g.lst r (Reps.of_ints _ _) hq
        · cases e
    | _ => rw [hs] at e; cases e
  | [], e, rs => simp [biD] at e
  | _ :: _ :: _, e, rs => simp [biD] at e
theorem ok_divmod : CallR Z (.builtin "divmod") (rdBi Z.K ca T .divmod) := by
  refine CallR.imp (call_divmod (X := Z)) fun vs H Q h => ?_
  obtain ⟨L0, ρ, hd, ds, d, r, rs, e, g⟩ := h
  match ds, e, rs with
  | [.int i, .int j], e, rs =>
    obtain ⟨v, w, rfl, rv, rw'⟩ := reps2 rs
    rw [Rep] at rv rw'
    subst rv; subst rw'
    simp only [biD] at e
    split at e
    · rename_i hz
      cases e
      simp only [Bool.and_eq_true, decide_eq_true_eq] at hz
      refine ⟨i, j, rfl, hz, fun p hp => ?_⟩
      exact g.wtp r (by simp [Reps, Rep]) hp
    · cases e
  | [], e, rs => simp [biD] at e
  | [_], e, rs => simp [biD] at e
  | [.non, _], e, rs | [.bl _, _], e, rs | [.str _, _], e, rs | [.tup _, _], e, rs | [.lst _, _], e, rs | [.wtp _, _], e, rs | [.ro _, _], e, rs | [.loc _, _], e, rs => simp [biD] at e
  | [.int _, .non], e, rs | [.int _, .bl _], e, rs | [.int _, .str _], e, rs | [.int _, .tup _], e, rs | [.int _, .lst _], e, rs | [.int _, .wtp _], e, rs | [.int _, .ro _], e, rs | [.int _, .loc _], e, rs => simp [biD] at e
  | _ :: _ :: _ :: _, e, rs => simp [biD] at e
end
end Ev

set_option Elab.async false
set_option linter.all false
set_option maxRecDepth 100000
set_option maxHeartbeats 4000000
/-! Ev3a: readings: what the evaluator says, as the layer's wishes; expressions one by one. -/
namespace Ev
open PySem L2 PyProof.Rows
abbrev Wish := Value → Option Addr → Hp → Prop
section
variable (K : PySem.W.Frag) (ca : Nat → Addr) (T : List (Addr × Str))
def ExOk (ρ : List Addr) (L : Addr → Prop) (H : Hp) (pl : Pl) (d : Option Addr) : Prop := (pl = [] ∧ d = none) ∨ ∃ a vfs, d = some a ∧ H a = some (.xd vfs) ∧ RepF K ρ L H pl vfs ∧ pl ≠ []
def Fin {α : Type} (W : Wish) (L0 : Addr → Prop) (ρ : List Addr) (hd : Hd) (H : Hp) (r : Option (Rr α × Hd)) (k : List Addr → Hd → Hp → α → Prop) : Prop :=
  match r with
  | none => False
  | some (.ok a, hd') => ∀ ρ' H', Post K ca T L0 ρ hd H ρ' hd' H' → k ρ' hd' H' a
  | some (.ex c pl, hd') => ∀ ρ' H' d, Post K ca T L0 ρ hd H ρ' hd' H' → ExOk K ρ' (Lv L0 ρ' hd') H' pl d → W (.ref (ca c)) d H'
end
section
variable {K : PySem.W.Frag} {ca : Nat → Addr} {T : List (Addr × Str)} {W : Wish} {L0 : Addr → Prop} {ρ : List Addr} {hd : Hd} {H : Hp}
theorem Fin.imp {α : Type} {r : Option (Rr α × Hd)} {k k' : List Addr → Hd → Hp → α → Prop} (h : Fin K ca T W L0 ρ hd H r k) (i : ∀ ρ' hd' H' a, Post K ca T L0 ρ hd H ρ' hd' H' → k ρ' hd' H' a → k' ρ' hd' H' a) : Fin K ca T W L0 ρ hd H r k' := by
  unfold Fin at h ⊢
  split at h
  · exact h
  · exact fun ρ' H' p => i _ _ _ _ p (h ρ' H' p)
  · exact h
theorem Fin.bnd {α β : Type} {m : M α} {f : α → M β} {k : List Addr → Hd → Hp → β → Prop} (h : Fin K ca T W L0 ρ hd H (bnd m f hd) k) :
    Fin K ca T W L0 ρ hd H (m hd) (fun ρ1 hd1 H1 a => Fin K ca T W L0 ρ1 hd1 H1 (f a hd1) k) := by
  unfold Ev.bnd at h
  cases hm : m hd with
  | none => rw [hm] at h; exact h
  | some p =>
    obtain ⟨r, h1⟩ := p
    rw [hm] at h
    cases r with
    | ex c pl => exact h
    | ok a =>
      intro ρ1 H1 p1
      show Fin K ca T W L0 ρ1 h1 H1 (f a h1) k
      have h : Fin K ca T W L0 ρ hd H (f a h1) k := h
      unfold Fin at h ⊢
      split at h
      · exact h
      · rename_i b hd' e2
        exact fun ρ' H' p => h ρ' H' (p1.trans p)
      · exact fun ρ' H' d p => h ρ' H' d (p1.trans p)
theorem Fin.ret {α : Type} {a : α} {k : List Addr → Hd → Hp → α → Prop} (r : RelH K ca T L0 ρ hd H) (h : Fin K ca T W L0 ρ hd H (some (.ok a, hd)) k) : k ρ hd H a := h ρ H (Post.refl r)
end
section
variable (K : PySem.W.Frag) (ca : Nat → Addr) (T : List (Addr × Str))
/-- a reading of the evaluator's m -/
def rd {α β : Type} (W : WX) (m : Sl → M α) (rp : List Addr → (Addr → Prop) → Hp → α → β → Prop) : L2.St → Hp → (β → Hp → Prop) → Prop := fun σ H Q =>
  ∃ L0 ρ σd hd, RelH K ca T L0 ρ hd H ∧ RelS K ρ (Lv L0 ρ hd) H σd σ ∧
    Fin K ca T (fun c d H' => W c d σ H') L0 ρ hd H (m σd hd) (fun ρ' hd' H' a => ∀ b, rp ρ' (Lv L0 ρ' hd') H' a b → Q b H')
abbrev rdV (W : WX) (m : Sl → M D) : TE := rd K ca T W m (fun ρ L H d v => Rep K ρ L H d v)
abbrev rdVs (W : WX) (m : Sl → M (List D)) : TA := rd K ca T W m (fun ρ L H d v => Reps K ρ L H d v)
abbrev rdB (W : WX) (m : Sl → M Bool) : TT := rd K ca T W m (fun _ _ _ d v => v = d)
abbrev rdI (W : WX) (m : Sl → M (Option Int)) : TO := rd K ca T W m (fun _ _ _ d v => v = d)
end
theorem PE.imp {X : Cx} {e : Expr} {t t' : TE} (h : PE X e t) (i : ∀ σ H Q, t' σ H Q → t σ H Q) : PE X e t' := ⟨fun pins s σ H Q I q => h.run pins s σ H Q I (i σ H Q q)⟩
theorem PT.imp {X : Cx} {e : Expr} {t t' : TT} (h : PT X e t) (i : ∀ σ H Q, t' σ H Q → t σ H Q) : PT X e t' := ⟨fun pins s σ H Q I q => h.run pins s σ H Q I (i σ H Q q)⟩
theorem PW.imp {X : Cx} {e : Expr} {t t' : TT} (h : PW X e t) (i : ∀ σ H Q, t' σ H Q → t σ H Q) : PW X e t' := ⟨fun w pins s σ H Q I q => h.run w pins s σ H Q I (i σ H Q q)⟩
theorem PA.imp {X : Cx} {e : List Expr} {t t' : TA} (h : PA X e t) (i : ∀ σ H Q, t' σ H Q → t σ H Q) : PA X e t' := ⟨fun p pins s σ H Q I q => h.run p pins s σ H Q I (i σ H Q q)⟩
section
variable {Z : Cx} {ca : Nat → Addr} {T : List (Addr × Str)} {W : WX}
abbrev pX (Z : Cx) (ca : Nat → Addr) (T : List (Addr × Str)) (W : WX) (e : Expr) (m : Sl → M D) : Prop := PE Z e (rdV Z.K ca T W m)
abbrev pT (Z : Cx) (ca : Nat → Addr) (T : List (Addr × Str)) (W : WX) (e : Expr) (m : Sl → M Bool) : Prop := PT Z e (rdB Z.K ca T W m)
abbrev pA (Z : Cx) (ca : Nat → Addr) (T : List (Addr × Str)) (W : WX) (es : List Expr) (m : Sl → M (List D)) : Prop := PA Z es (rdVs Z.K ca T W m)
variable {a b c : Expr} {ma mb mc : Sl → M D} {pos p2 : Pos}
theorem s_var {i : Nat} {x : Str} (hN : Z.N[i]? = some x) (hv : Vis Z.env.scope x) (hd : (x == ("__debug__" : Str)) = false) (hcd : (x == ("__classdict__" : Str)) = false) :
    pX Z ca T W (.Name x pos) (fun σ => fun h => match σ[i]? with | some (some d) => some (.ok d, h) | _ => none) := by
  refine PE.imp (pe_var hN hv hd hcd) fun σ H Q h => ?_
  obtain ⟨L0, ρ, σd, hd, r, rs, f⟩ := h
  simp only at f
  split at f
  · rename_i d e
    obtain ⟨v, e1, e2⟩ := rs.2 i d e
    exact ⟨v, e1, Fin.ret r f v e2⟩
  · exact False.elim f
theorem s_const {v : V} {d : D} {e : Expr} (h : PE Z e (tC v)) (hr : ∀ ρ L H, Rep Z.K ρ L H d v) : pX Z ca T W e (fun _ => ret d) := by
  refine PE.imp h fun σ H Q h => ?_
  obtain ⟨L0, ρ, σd, hd, r, rs, f⟩ := h
  exact Fin.ret r f v (hr _ _ _)
/-- two expressions, then an operation that keeps the heap -/
theorem rd_two {op : Sl → D → D → M D} {r : R2} {f : Hd → D → D → Option D} (hop : ∀ σ x y h, op σ x y h = opt (f h x y) h) (hr : ∀ x y H Q, rd2 Z.K ca T f x y H Q → r x y H Q) (σ : L2.St) (H : Hp) (Q : VK)
    (h : rdV Z.K ca T W (fun σ => bnd (ma σ) fun x => bnd (mb σ) fun y => op σ x y) σ H Q) : tOp r (rdV Z.K ca T W ma) (rdV Z.K ca T W mb) σ H Q := by
  obtain ⟨L0, ρ, σd, hd, rh, rs, fn⟩ := h
  refine ⟨L0, ρ, σd, hd, rh, rs, Fin.imp (Fin.bnd fn) fun ρ1 hd1 H1 x p1 f1 v rv => ?_⟩
  refine ⟨L0, ρ1, σd, hd1, p1.rel, rs.keep rh p1, Fin.imp (Fin.bnd f1) fun ρ2 hd2 H2 y p2 f2 w rw' => ?_⟩
  rw [hop] at f2
  unfold opt at f2
  cases he : f hd2 x y with
  | none => rw [he] at f2; exact False.elim f2
  | some d =>
    rw [he] at f2
    exact hr _ _ _ _ ⟨L0, ρ2, hd2, x, y, d, p2.rel, Rep.keep p1.rel p2 x v rv, rw', he, fun ρ' H' v' p h => f2 ρ' H' p v' h⟩
theorem s_bin {o : Bop} (ha : pX Z ca T W a ma) (hb : pX Z ca T W b mb) :
    pX Z ca T W (.BinOp a (bopA o) b pos) (fun σ => bnd (ma σ) fun x => bnd (mb σ) fun y => fun h => opt (binD o (see h x) (see h y)) h) :=
  PE.imp (pe_op (ok_bin ca T o) ha hb) fun σ H Q h => rd_two (f := fun hd a b => binD o (see hd a) (see hd b)) (fun _ _ _ _ => rfl) (fun _ _ _ _ h => h) σ H Q h
theorem s_neg (ha : pX Z ca T W a ma) : pX Z ca T W (.UnaryOp .USub a pos) (fun σ => bnd (ma σ) fun x => match x with | .int i => ret (.int (-i)) | _ => stuck) := by
  refine PE.imp (pe_un un_neg ha) fun σ H Q h => ?_
  obtain ⟨L0, ρ, σd, hd, rh, rs, fn⟩ := h
  refine ⟨L0, ρ, σd, hd, rh, rs, Fin.imp (Fin.bnd fn) fun ρ1 hd1 H1 x p1 f1 v rv => ?_⟩
  cases x <;> try exact False.elim f1
  rw [Rep] at rv; subst rv
  exact ⟨_, rfl, Fin.ret p1.rel f1 _ (by simp [Rep])⟩
theorem cmp_opt (o : Cop) (h : Hd) (x y : D) : (match cmpD o h x y with | some r => some (Rr.ok (D.bl r), h) | none => none) = opt ((cmpD o h x y).map D.bl) h := by
  cases cmpD o h x y <;> rfl
theorem s_cmp {o : Cop} (hu : Z.A.units + 65 < cLine) (ha : pX Z ca T W a ma) (hb : pX Z ca T W b mb) (hm : behindInMarks (copA o) b = false) :
    pX Z ca T W (.Compare a [copA o] [b] pos) (fun σ => bnd (ma σ) fun x => bnd (mb σ) fun y => fun h => match cmpD o h x y with | some r => some (.ok (.bl r), h) | none => none) :=
  PE.imp (pe_cmpR (ok_cmp ca T hu o) ha hb hm) fun σ H Q h => rd_two (f := fun hd a b => (cmpD o hd a b).map D.bl) (fun _ _ _ _ => cmp_opt _ _ _ _) (fun _ _ _ _ h => h) σ H Q h
theorem s_chn {o p : Cop} (hu : Z.A.units + 65 < cLine) (ha : pX Z ca T W a ma) (hb : pX Z ca T W b mb) (hc : pX Z ca T W c mc) (hm : lastMarks [copA o, copA p] [b, c] = false) :
    pX Z ca T W (.Compare a [copA o, copA p] [b, c] pos) (fun σ => bnd (ma σ) fun x => bnd (mb σ) fun y => fun h => match cmpD o h x y with
    | some true => bnd (mc σ) (fun z => fun h2 => match cmpD p h2 y z with
      | some r => some (.ok (.bl r), h2)
      | none => none) h
    | some false => some (.ok (.bl false), h)
    | none => none) := by
  refine PE.imp (pe_chain (ok_cmp ca T hu o) (ok_cmp ca T hu p) ha hb hc hm) fun σ H Q h => ?_
  obtain ⟨L0, ρ, σd, hd, rh, rs, fn⟩ := h
  refine ⟨L0, ρ, σd, hd, rh, rs, Fin.imp (Fin.bnd fn) fun ρ1 hd1 H1 x p1 f1 v rv => ?_⟩
  have rs1 := rs.keep rh p1
  refine ⟨L0, ρ1, σd, hd1, p1.rel, rs1, Fin.imp (Fin.bnd f1) fun ρ2 hd2 H2 y p2 f2 w rw' => ?_⟩
  have rs2 := rs1.keep p1.rel p2
  cases he : cmpD o hd2 x y with
  | none => rw [he] at f2; exact False.elim f2
  | some k =>
    rw [he] at f2
    refine ⟨L0, ρ2, hd2, x, y, .bl k, p2.rel, Rep.keep p1.rel p2 x v rv, rw', by simp [he], fun ρ3 H3 u p3 ru => ?_⟩
    rw [Rep] at ru; subst ru
    refine ⟨k, rfl, ?_⟩
    cases k with
    | false =>
      rw [if_neg (by simp)]
      exact f2 ρ3 H3 p3 _ (by simp [Rep])
    | true =>
      rw [if_pos rfl]
      have rs3 := rs2.keep p2.rel p3
      have f3 : Fin Z.K ca T (fun c d H' => W c d σ H') L0 ρ3 hd2 H3 (bnd (mc σd) (fun z => fun h2 => match cmpD p h2 y z with | some r => some (Rr.ok (D.bl r), h2) | none => none) hd2) (fun ρ' hd' H' a => ∀ b, Rep Z.K ρ' (Lv L0 ρ' hd') H' a b → Q b H') := by
        have f2' : Fin Z.K ca T (fun c d H' => W c d σ H') L0 ρ2 hd2 H2 (bnd (mc σd) (fun z => fun h2 => match cmpD p h2 y z with | some r => some (Rr.ok (D.bl r), h2) | none => none) hd2) (fun ρ' hd' H' a => ∀ b, Rep Z.K ρ' (Lv L0 ρ' hd') H' a b → Q b H') := f2
        unfold Fin at f2' ⊢
        split at f2'
        · exact f2'
        · exact fun ρ' H' p => f2' ρ' H' (p3.trans p)
        · exact fun ρ' H' d p => f2' ρ' H' d (p3.trans p)
      refine ⟨L0, ρ3, σd, hd2, p3.rel, rs3, Fin.imp (Fin.bnd f3) fun ρ4 hd4 H4 z p4 f4 t rt => ?_⟩
      cases he2 : cmpD p hd4 y z with
      | none => simp only [he2] at f4; exact False.elim f4
      | some j =>
        simp only [he2] at f4
        exact ⟨L0, ρ4, hd4, y, z, .bl j, p4.rel, Rep.keep p3.rel p4 y w (Rep.keep p2.rel p3 y w rw'), rt, by simp [he2], fun ρ' H' v' pp hh => f4 ρ' H' pp v' hh⟩
theorem s_nt (ha : pX Z ca T W a ma) : pX Z ca T W (.UnaryOp .Not a pos) (fun σ => bnd (ma σ) fun x => match x with | .bl b => ret (.bl (!b)) | _ => stuck) := by
  refine PE.imp (pe_not ha) fun σ H Q h => ?_
  obtain ⟨L0, ρ, σd, hd, rh, rs, fn⟩ := h
  refine ⟨L0, ρ, σd, hd, rh, rs, Fin.imp (Fin.bnd fn) fun ρ1 hd1 H1 x p1 f1 v rv => ?_⟩
  cases x <;> try exact False.elim f1
  rw [Rep] at rv; subst rv
  exact ⟨_, rfl, Fin.ret p1.rel f1 _ (by simp [Rep])⟩
theorem s_and {rest : List Expr} (ha : pX Z ca T W a ma) (hb : pX Z ca T W (.BoolOp .And (b :: rest) pos) mb) :
    pX Z ca T W (.BoolOp .And (a :: b :: rest) pos) (fun σ => bnd (ma σ) fun x => match x with | .bl true => mb σ | .bl false => ret (.bl false) | _ => stuck) := by
  refine PE.imp (pe_and ha hb) fun σ H Q h => ?_
  obtain ⟨L0, ρ, σd, hd, rh, rs, fn⟩ := h
  refine ⟨L0, ρ, σd, hd, rh, rs, Fin.imp (Fin.bnd fn) fun ρ1 hd1 H1 x p1 f1 v rv => ?_⟩
  cases x <;> try exact False.elim f1
  rename_i k
  rw [Rep] at rv; subst rv
  refine ⟨k, rfl, ?_⟩
  cases k with
  | true => exact ⟨L0, ρ1, σd, hd1, p1.rel, rs.keep rh p1, f1⟩
  | false => exact Fin.ret p1.rel f1 _ (by simp [Rep])
theorem s_or {rest : List Expr} (ha : pX Z ca T W a ma) (hb : pX Z ca T W (.BoolOp .Or (b :: rest) pos) mb) :
    pX Z ca T W (.BoolOp .Or (a :: b :: rest) pos) (fun σ => bnd (ma σ) fun x => match x with | .bl true => ret (.bl true) | .bl false => mb σ | _ => stuck) := by
  refine PE.imp (pe_or ha hb) fun σ H Q h => ?_
  obtain ⟨L0, ρ, σd, hd, rh, rs, fn⟩ := h
  refine ⟨L0, ρ, σd, hd, rh, rs, Fin.imp (Fin.bnd fn) fun ρ1 hd1 H1 x p1 f1 v rv => ?_⟩
  cases x <;> try exact False.elim f1
  rename_i k
  rw [Rep] at rv; subst rv
  refine ⟨k, rfl, ?_⟩
  cases k with
  | true => exact Fin.ret p1.rel f1 _ (by simp [Rep])
  | false => exact ⟨L0, ρ1, σd, hd1, p1.rel, rs.keep rh p1, f1⟩
theorem s_ite {mt : Sl → M Bool} (ht : pT Z ca T W c mt) (ha : pX Z ca T W a ma) (hb : pX Z ca T W b mb) :
    pX Z ca T W (.IfExp c a b pos) (fun σ => bnd (mt σ) fun k => if k then ma σ else mb σ) := by
  refine PE.imp (pe_ifExp ht ha hb) fun σ H Q h => ?_
  obtain ⟨L0, ρ, σd, hd, rh, rs, fn⟩ := h
  refine ⟨L0, ρ, σd, hd, rh, rs, Fin.imp (Fin.bnd fn) fun ρ1 hd1 H1 x p1 f1 v rv => ?_⟩
  subst rv
  cases v with
  | true => exact ⟨L0, ρ1, σd, hd1, p1.rel, rs.keep rh p1, f1⟩
  | false => exact ⟨L0, ρ1, σd, hd1, p1.rel, rs.keep rh p1, f1⟩
/-! ### displays, arguments -/
theorem s_anil : pA Z ca T W [] (fun _ => ret []) := by
  refine PA.imp pa_nil fun σ H Q h => ?_
  obtain ⟨L0, ρ, σd, hd, rh, rs, fn⟩ := h
  exact Fin.ret rh fn [] (by simp [Reps])
theorem s_acons {es : List Expr} {mr : Sl → M (List D)} (ha : pX Z ca T W a ma) (hr : pA Z ca T W es mr) (hs : starEach (a :: es) Z.env = (false, eval a Z.env) :: starEach es Z.env) :
    pA Z ca T W (a :: es) (fun σ => bnd (ma σ) fun x => bnd (mr σ) fun xs => ret (x :: xs)) := by
  refine PA.imp (pa_cons ha hr hs) fun σ H Q h => ?_
  obtain ⟨L0, ρ, σd, hd, rh, rs, fn⟩ := h
  refine ⟨L0, ρ, σd, hd, rh, rs, Fin.imp (Fin.bnd fn) fun ρ1 hd1 H1 x p1 f1 v rv => ?_⟩
  refine ⟨L0, ρ1, σd, hd1, p1.rel, rs.keep rh p1, Fin.imp (Fin.bnd f1) fun ρ2 hd2 H2 xs p2 f2 vs rvs => ?_⟩
  refine Fin.ret p2.rel f2 (v :: vs) ?_
  show Reps Z.K ρ2 (Lv L0 ρ2 hd2) H2 (x :: xs) (v :: vs)
  rw [Reps]
  exact ⟨v, vs, rfl, Rep.keep p1.rel p2 x v rv, rvs⟩
theorem s_tup {es : List Expr} {mr : Sl → M (List D)} {x1 : Nat} (hr : pA Z ca T W es mr) : pX Z ca T W (.Tuple es x1 pos) (fun σ => bnd (mr σ) fun vs => if vs.length ≤ szL then ret (.tup vs) else stuck) := by
  refine PE.imp (pe_tupB hr) fun σ H Q h => ?_
  obtain ⟨L0, ρ, σd, hd, rh, rs, fn⟩ := h
  refine ⟨L0, ρ, σd, hd, rh, rs, Fin.imp (Fin.bnd fn) fun ρ1 hd1 H1 xs p1 f1 vs rvs => ?_⟩
  by_cases hz : xs.length ≤ szL
  · rw [if_pos hz] at f1
    refine ⟨by rw [← rvs.length, ← szL_eq]; exact hz, ?_⟩
    have g : Gives Z.K ca T L0 ρ1 hd1 H1 (.tup xs) Q := fun ρ' H' v' pp hh => f1 ρ' H' pp v' hh
    exact g.tup p1.rel rvs
  · rw [if_neg hz] at f1; exact False.elim f1
theorem s_lst {es : List Expr} {mr : Sl → M (List D)} (hr : pA Z ca T W es mr) : pX Z ca T W (.List es pos) (fun σ => bnd (mr σ) fun vs => if vs.length ≤ szL then ret (.lst vs) else stuck) := by
  refine PE.imp (pe_lst hr) fun σ H Q h => ?_
  obtain ⟨L0, ρ, σd, hd, rh, rs, fn⟩ := h
  refine ⟨L0, ρ, σd, hd, rh, rs, Fin.imp (Fin.bnd fn) fun ρ1 hd1 H1 xs p1 f1 vs rvs => ?_⟩
  by_cases hz : xs.length ≤ szL
  · rw [if_pos hz] at f1
    refine ⟨by rw [← rvs.length, ← szL_eq]; exact hz, fun p hp => ?_⟩
    have g : Gives Z.K ca T L0 ρ1 hd1 H1 (.lst xs) Q := fun ρ' H' v' pp hh => f1 ρ' H' pp v' hh
    exact g.lst p1.rel rvs hp
  · rw [if_neg hz] at f1; exact False.elim f1
theorem s_sub (ha : pX Z ca T W a ma) (hb : pX Z ca T W b mb) (hs : PlainIx b) : pX Z ca T W (.Subscript a b pos) (fun σ => bnd (ma σ) fun x => bnd (mb σ) fun y => fun h => opt (subD h x y) h) :=
  PE.imp (pe_ix (ok_sub' ca T) ha hb hs) fun σ H Q h => rd_two (f := subD) (fun _ _ _ _ => rfl) (fun _ _ _ _ h => h) σ H Q h
theorem s_ono : PO Z none (rdI Z.K ca T W (fun _ => ret none)) := by
  have h := po_none (X := Z)
  refine ⟨fun pins s σ H Q I q => h.run pins s σ H Q I ?_⟩
  obtain ⟨L0, ρ, σd, hd, rh, rs, fn⟩ := q
  exact Fin.ret rh fn none rfl
theorem s_oyes (ha : pX Z ca T W a ma) : PO Z (some a) (rdI Z.K ca T W (fun σ => bnd (ma σ) fun x => match x with | .int i => ret (some i) | _ => stuck)) := by
  have h := po_some ha
  refine ⟨fun pins s σ H Q I q => h.run pins s σ H Q I ?_⟩
  obtain ⟨L0, ρ, σd, hd, rh, rs, fn⟩ := q
  refine ⟨L0, ρ, σd, hd, rh, rs, Fin.imp (Fin.bnd fn) fun ρ1 hd1 H1 x p1 f1 v rv => ?_⟩
  cases x <;> try exact False.elim f1
  rw [Rep] at rv; subst rv
  exact ⟨_, rfl, Fin.ret p1.rel f1 _ rfl⟩
theorem s_slc {lo hi : Option Expr} {ml mu : Sl → M (Option Int)} (ha : pX Z ca T W a ma) (hl : PO Z lo (rdI Z.K ca T W ml)) (hh : PO Z hi (rdI Z.K ca T W mu)) :
    pX Z ca T W (.Subscript a (.Slice lo hi none p2) pos) (fun σ => bnd (ma σ) fun x => bnd (ml σ) fun l => bnd (mu σ) fun u => fun h => opt (slcD h x l u) h) := by
  refine PE.imp (pe_slice (ok_slc ca T) ha hl hh) fun σ H Q h => ?_
  obtain ⟨L0, ρ, σd, hd, rh, rs, fn⟩ := h
  refine ⟨L0, ρ, σd, hd, rh, rs, Fin.imp (Fin.bnd fn) fun ρ1 hd1 H1 x p1 f1 v rv => ?_⟩
  have rs1 := rs.keep rh p1
  refine ⟨L0, ρ1, σd, hd1, p1.rel, rs1, Fin.imp (Fin.bnd f1) fun ρ2 hd2 H2 l p2 f2 l' el => ?_⟩
  subst el
  have rs2 := rs1.keep p1.rel p2
  refine ⟨L0, ρ2, σd, hd2, p2.rel, rs2, Fin.imp (Fin.bnd f2) fun ρ3 hd3 H3 u p3 f3 u' eu => ?_⟩
  subst eu
  cases he : slcD hd3 x l' u' with
  | none => rw [he] at f3; exact False.elim f3
  | some d =>
    rw [he] at f3
    exact ⟨L0, ρ3, hd3, x, d, p3.rel, Rep.keep p2.rel p3 x v (Rep.keep p1.rel p2 x v rv), he, fun ρ' H' v' pp hh => f3 ρ' H' pp v' hh⟩
/-! ### built-ins called -/
theorem s_cb {bi : Bi} {es : List Expr} {mr : Sl → M (List D)} {x : Str} (hg : Gl Z x) (hm : Z.mg x = none) (hn : x ≠ "__name__") (hdb : (x == ("__debug__" : Str)) = false) (hr : pA Z ca T W (a :: es) mr)
    (he : starEach (a :: es) Z.env = (false, eval a Z.env) :: starEach es Z.env) (hpl : (backTo pos (starEach es Z.env)).any (·.1) = false)
    (hc : CallR Z (biV bi) (rdBi Z.K ca T bi)) (hv : bootBuiltins x = some (biV bi)) (hk : (∃ id, biV bi = .builtin id) ∨ ∃ t, biV bi = .type t) :
    pX Z ca T W (.Call (.Name x p2) (a :: es) [] pos) (fun σ => bnd (mr σ) fun vs => fun h => opt (biD bi h vs) h) := by
  have key : ∀ σ H Q, rdV Z.K ca T W (fun σ => bnd (mr σ) fun vs => fun h => opt (biD bi h vs) h) σ H Q → tCB (rdBi Z.K ca T bi) (rdVs Z.K ca T W mr) σ H Q := fun σ H Q h => by
    obtain ⟨L0, ρ, σd, hd, rh, rs, fn⟩ := h
    refine ⟨L0, ρ, σd, hd, rh, rs, Fin.imp (Fin.bnd fn) fun ρ1 hd1 H1 xs p1 f1 vs rvs => ?_⟩
    cases he : biD bi hd1 xs with
    | none => rw [he] at f1; exact False.elim f1
    | some d =>
      rw [he] at f1
      exact ⟨L0, ρ1, hd1, xs, d, p1.rel, rvs, he, fun ρ' H' v' pp hh => f1 ρ' H' pp v' hh⟩
  rcases hk with ⟨id, ei⟩ | ⟨t, et⟩
  · rw [ei] at hc hv
    exact PE.imp (pe_callB hc hg hm hv hr hn hdb he hpl) key
  · rw [et] at hc hv
    exact PE.imp (pe_callTy hc hg hm hv hr hn hdb he hpl) key
/-! ### tests -/
theorem s_tval (ha : pX Z ca T W a ma) (he : ∀ whole, isTrue a Z.env whole = (do let v ← whole; standAt a.pos; holding [v] (truthy v))) : pT Z ca T W a (fun σ => bnd (ma σ) fun x => fun h => opt (truD h x) h) := by
  refine PT.imp (pt_truth ha he) fun σ H Q h => ?_
  obtain ⟨L0, ρ, σd, hd, rh, rs, fn⟩ := h
  refine ⟨L0, ρ, σd, hd, rh, rs, Fin.imp (Fin.bnd fn) fun ρ1 hd1 H1 x p1 f1 v rv => ?_⟩
  cases ht : truD hd1 x with
  | none => rw [ht] at f1; exact False.elim f1
  | some k =>
    rw [ht] at f1
    refine ⟨k, ?_, Fin.ret p1.rel f1 k rfl⟩
    unfold truD at ht
    cases hs : see hd1 x with
    | non =>
      rw [hs] at ht; cases ht
      have h2 := see_other rv hs (fun _ z => nomatch z)
      rw [Rep] at h2; subst h2; rfl
    | bl b =>
      rw [hs] at ht; cases ht
      have h2 := see_other rv hs (fun _ z => nomatch z)
      rw [Rep] at h2; subst h2; rfl
    | int b =>
      rw [hs] at ht; cases ht
      have h2 := see_other rv hs (fun _ z => nomatch z)
      rw [Rep] at h2; subst h2; rfl
    | str z =>
      rw [hs] at ht
      simp only at ht
      split at ht
      · rename_i hz
        cases ht
        have h2 := see_other rv hs (fun _ z => nomatch z)
        rw [Rep] at h2; subst h2
        refine ⟨by rw [St_length, ← szL_eq]; exact hz, ?_⟩
        rw [St_length]
        cases z <;> simp
        omega
      · cases ht
    | tup xs =>
      rw [hs] at ht; cases ht
      have h2 : seqD hd1 x = some xs := by simp [seqD, hs]
      obtain ⟨p, ws, rfl, h1, h3⟩ := seq_of p1.rel rv h2
      have hb : (!xs.isEmpty) = !ws.isEmpty := by
        have := h3.length
        cases xs <;> cases ws <;> simp at this ⊢
      rw [hb]
      exact h1.elim (fun h => .inl ⟨ws, h, rfl⟩) (fun h => .inr (.inl ⟨ws, h, rfl⟩))
    | lst xs =>
      rw [hs] at ht; cases ht
      have h2 : seqD hd1 x = some xs := by simp [seqD, hs]
      obtain ⟨p, ws, rfl, h1, h3⟩ := seq_of p1.rel rv h2
      have hb : (!xs.isEmpty) = !ws.isEmpty := by
        have := h3.length
        cases xs <;> cases ws <;> simp at this ⊢
      rw [hb]
      exact h1.elim (fun h => .inl ⟨ws, h, rfl⟩) (fun h => .inr (.inl ⟨ws, h, rfl⟩))
    | ro xs =>
      rw [hs] at ht; cases ht
      have h2 : seqD hd1 x = some xs := by simp [seqD, hs]
      obtain ⟨p, ws, rfl, h1, h3⟩ := seq_of p1.rel rv h2
      have hb : (!xs.isEmpty) = !ws.isEmpty := by
        have := h3.length
        cases xs <;> cases ws <;> simp at this ⊢
      rw [hb]
      exact h1.elim (fun h => .inl ⟨ws, h, rfl⟩) (fun h => .inr (.inl ⟨ws, h, rfl⟩))
    | wtp n => rw [hs] at ht; cases ht
    | loc n => rw [hs] at ht; cases ht
theorem s_tnot {mt : Sl → M Bool} (ha : pT Z ca T W a mt) : pT Z ca T W (.UnaryOp .Not a pos) (fun σ => bnd (mt σ) fun k => ret (!k)) := by
  refine PT.imp (pt_not ha) fun σ H Q h => ?_
  obtain ⟨L0, ρ, σd, hd, rh, rs, fn⟩ := h
  refine ⟨L0, ρ, σd, hd, rh, rs, Fin.imp (Fin.bnd fn) fun ρ1 hd1 H1 x p1 f1 v rv => ?_⟩
  subst rv
  exact Fin.ret p1.rel f1 _ rfl
abbrev pW (Z : Cx) (ca : Nat → Addr) (T : List (Addr × Str)) (W : WX) (e : Expr) (m : Sl → M Bool) : Prop := PW Z e (rdB Z.K ca T W m)
theorem s_tand1 {mt : Sl → M Bool} (ha : pT Z ca T W a mt) : pW Z ca T W (.BoolOp .And [a] pos) (fun σ => bnd (mt σ) fun k => if k then ret true else ret false) := by
  refine PW.imp (pw_and1 ha) fun σ H Q h => ?_
  obtain ⟨L0, ρ, σd, hd, rh, rs, fn⟩ := h
  refine ⟨L0, ρ, σd, hd, rh, rs, Fin.imp (Fin.bnd fn) fun ρ1 hd1 H1 x p1 f1 v rv => ?_⟩
  subst rv
  cases v with
  | true => exact Fin.ret p1.rel f1 _ rfl
  | false => exact Fin.ret p1.rel f1 _ rfl
theorem s_tand {mt mu : Sl → M Bool} {rest : List Expr} (ha : pT Z ca T W a mt) (hb : pW Z ca T W (.BoolOp .And (b :: rest) pos) mu) :
    pW Z ca T W (.BoolOp .And (a :: b :: rest) pos) (fun σ => bnd (mt σ) fun k => if k then mu σ else ret false) := by
  refine PW.imp (pw_and ha hb) fun σ H Q h => ?_
  obtain ⟨L0, ρ, σd, hd, rh, rs, fn⟩ := h
  refine ⟨L0, ρ, σd, hd, rh, rs, Fin.imp (Fin.bnd fn) fun ρ1 hd1 H1 x p1 f1 v rv => ?_⟩
  subst rv
  cases v with
  | true => exact ⟨L0, ρ1, σd, hd1, p1.rel, rs.keep rh p1, f1⟩
  | false => exact Fin.ret p1.rel f1 _ rfl
theorem s_tor1 {mt : Sl → M Bool} (ha : pT Z ca T W a mt) : pW Z ca T W (.BoolOp .Or [a] pos) (fun σ => bnd (mt σ) fun k => if k then ret true else ret false) := by
  refine PW.imp (pw_or1 ha) fun σ H Q h => ?_
  obtain ⟨L0, ρ, σd, hd, rh, rs, fn⟩ := h
  refine ⟨L0, ρ, σd, hd, rh, rs, Fin.imp (Fin.bnd fn) fun ρ1 hd1 H1 x p1 f1 v rv => ?_⟩
  subst rv
  cases v with
  | true => exact Fin.ret p1.rel f1 _ rfl
  | false => exact Fin.ret p1.rel f1 _ rfl
theorem s_tor {mt mu : Sl → M Bool} {rest : List Expr} (ha : pT Z ca T W a mt) (hb : pW Z ca T W (.BoolOp .Or (b :: rest) pos) mu) :
    pW Z ca T W (.BoolOp .Or (a :: b :: rest) pos) (fun σ => bnd (mt σ) fun k => if k then ret true else mu σ) := by
  refine PW.imp (pw_or ha hb) fun σ H Q h => ?_
  obtain ⟨L0, ρ, σd, hd, rh, rs, fn⟩ := h
  refine ⟨L0, ρ, σd, hd, rh, rs, Fin.imp (Fin.bnd fn) fun ρ1 hd1 H1 x p1 f1 v rv => ?_⟩
  subst rv
  cases v with
  | true => exact Fin.ret p1.rel f1 _ rfl
  | false => exact ⟨L0, ρ1, σd, hd1, p1.rel, rs.keep rh p1, f1⟩
end
end Ev

set_option Elab.async false
set_option linter.all false
set_option maxRecDepth 100000
set_option maxHeartbeats 4000000
/-! Ev3b: calls of defs, methods, classes; fields. -/
namespace Ev
open PySem L2 PyProof.Rows
/-- a def of the text keeps its promise; gz: it asks that no repr is under way around it -/
structure FnE (P : Program) (w : World) (K : PySem.W.Frag) (mg : Str → Option Value) (base : Heap) (k : Nat) (f : Addr) (fd : FuncData) (ps : List Str) (sp : Sp) (gz : Bool) : Prop where
  len : ∀ vs H Q E, sp vs H Q E → vs.length = ps.length
  run : ∀ (A : Around) (outer : List Env) (s : Shared) (H : Hp) (args : Args) (us : List Value) (vs : List V) (Q : VK) (E : XK), Room k A → (gz = true → A.guards = some []) → Env0 P w K mg base A outer s H → BindsTo s fd args (ps.zip us) → Vals vs us → sp vs H Q E →
    codeAny (model P w) A (.call (.ref f) args) (CR (L2.CX P w) outer P w H s Q E) s
section
variable (K : PySem.W.Frag) (ca : Nat → Addr) (T : List (Addr × Str))
def spC (f : List D → M D) (np : Nat) : Sp := fun vs H Q E => vs.length = np ∧ ∃ L0 ρ hd ds, RelH K ca T L0 ρ hd H ∧ Reps K ρ (Lv L0 ρ hd) H ds vs ∧ Fin K ca T E L0 ρ hd H (f ds hd) (fun ρ' hd' H' d => ∀ v, Rep K ρ' (Lv L0 ρ' hd') H' d v → Q v H')
end
section
variable {Z : Cx} {k : Nat} {f C : Addr} {fd : FuncData} {ps ks : List Str} {sp : Sp} {gz : Bool} {W : WX}
/-- what comes back -/
theorem back_of {pins : List (Addr × Obj)} {σ : L2.St} {H : Hp} {s : Shared} {Q : VK} {r : Result} {s' : Shared} (tk : Takes Z W) (I : Inv Z pins σ H s) (hq : CR (L2.CX Z.prog Z.w) Z.stack Z.prog Z.w H s Q (fun c d H' => W c d σ H') r s') :
    match r with
    | .ok (.ret v) => EP Z pins σ Q v s'
    | .ok _ => False
    | .error e => Z.xe e s' := by
  cases r with
  | error e => exact passAt tk σ pins H s e s' I hq
  | ok fl =>
    cases fl with
    | ret u => exact I.after hq
    | next => exact False.elim hq
    | brk => exact False.elim hq
    | cont => exact False.elim hq
theorem run_fnE {pins : List (Addr × Obj)} {σ : L2.St} {H : Hp} {s : Shared} {Q : VK} {us us' : List Value} {kw : List (Str × Value)} {vs : List V} (F : FnE Z.prog Z.w Z.K Z.mg Z.base k f fd ps sp gz) (hr : Room k Z.A) (hg : gz = true → Z.A.guards = some []) (tk : Takes Z W)
    (I : Inv Z pins σ H s) (hb : us'.length = ps.length → BindsTo s fd ⟨us, kw⟩ (ps.zip us')) (r : Vals vs us') (h : sp vs H Q (fun c d H' => W c d σ H')) : wpAny (model Z.prog Z.w) Z.A (call (.ref f) us kw) (EP Z pins σ Q) Z.xe s := by
  have hl : us'.length = ps.length := by rw [← r.length]; exact F.len _ _ _ _ h
  refine wpAny_call (codeAny_mono (F.run Z.A Z.stack s H ⟨us, kw⟩ us' vs Q _ hr hg I.env0 (hb hl) r h) fun r s' hq => ?_)
  have := back_of tk I hq
  cases r with
  | error e => exact this
  | ok fl =>
    cases fl with
    | ret u => exact this
    | next => exact False.elim this
    | brk => exact False.elim this
    | cont => exact False.elim this
theorem run_makeE {pins : List (Addr × Obj)} {σ : L2.St} {H : Hp} {s : Shared} {Q : VK} {us us' : List Value} {kw : List (Str × Value)} {vs : List V} (M : Mk Z.K C f) (F : FnE Z.prog Z.w Z.K Z.mg Z.base k f fd ps sp false) (hr : Room (k + 1) Z.A) (tk : Takes Z W)
    (I : Inv Z pins σ H s) (hb : ∀ (x : Addr) (s : Shared), Z.K.In s.heap → (Value.ref x :: us').length = ps.length → BindsTo s fd ⟨Value.ref x :: us, kw⟩ (ps.zip (Value.ref x :: us'))) (r : Vals vs us')
    (h : ∀ x dx, H x = none → H dx = none → dx ≠ x → sp (.ref x :: vs) (upd (upd H dx (.own x)) x (.ins C dx [])) (fun v H2 => v = .non ∧ Q (.ref x) H2) (fun c d H' => W c d σ H')) :
    wpAny (model Z.prog Z.w) Z.A (call (.ref C) us kw) (EP Z pins σ Q) Z.xe s := by
  have hq := h (s.heap.objs.size + 1) s.heap.objs.size (I.hok.fresh (Nat.le_succ _)) (I.hok.fresh (Nat.le_refl _)) (Nat.ne_of_lt (Nat.lt_succ_self _))
  have I2 := Inv.made (C := C) I
  have r2 : Vals (V.ref (s.heap.objs.size + 1) :: vs) (Value.ref (s.heap.objs.size + 1) :: us') := .cons rfl r
  have hl : (Value.ref (s.heap.objs.size + 1) :: us').length = ps.length := by
    have e := r2.length
    rw [F.len _ _ _ _ hq] at e
    exact e.symm
  refine wpAny_call (make_map (f := f) I.kIn M.makes M.init (beq_iff_eq.mp M.fn) (codeAny_mono (F.run _ Z.stack _ _ ⟨Value.ref (s.heap.objs.size + 1) :: us, kw⟩ (Value.ref (s.heap.objs.size + 1) :: us') _ _ _ (hr.make C us kw) (fun z => nomatch z)
    (I2.env0.make C us kw) (hb _ _ I2.kIn hl) r2 hq) fun r s' hq' => ?_))
  have := back_of tk I2 hq'
  cases r with
  | error e => exact this
  | ok fl =>
    cases fl with
    | ret u =>
      obtain ⟨v, H', I3, rv, ev, q3⟩ := this
      subst ev
      exact ⟨rv, ⟨V.ref (s.heap.objs.size + 1), H', I3, rfl, q3⟩⟩
    | next => exact False.elim this
    | brk => exact False.elim this
    | cont => exact False.elim this
end
/-! ### the values in another order -/
theorem permD_len {α : Type} : ∀ {pm : List Nat} {xs ys : List α}, permD pm xs = some ys → ys.length = pm.length
  | [], xs, ys, h => by simp [permD] at h; subst h; rfl
  | i :: is, xs, ys, h => by
    simp only [permD] at h
    split at h
    · rename_i v r h1 h2
      cases h
      simp [permD_len h2]
    · cases h
theorem permD_reps {K : PySem.W.Frag} {ρ : List Addr} {H : Hp} {L : Addr → Prop} : ∀ {pm : List Nat} {ds es : List D} {vs : List V}, Reps K ρ L H ds vs → permD pm ds = some es → ∃ ws, permD pm vs = some ws ∧ Reps K ρ L H es ws
  | [], ds, es, vs, r, h => by simp [permD] at h; subst h; exact ⟨[], rfl, by simp [Reps]⟩
  | i :: is, ds, es, vs, r, h => by
    simp only [permD] at h
    split at h
    · rename_i v rr h1 h2
      cases h
      obtain ⟨w, e1, e2⟩ := r.get h1
      obtain ⟨ws, f1, f2⟩ := permD_reps r h2
      exact ⟨w :: ws, by simp [permD, e1, f1], by rw [Reps]; exact ⟨w, ws, rfl, e2, f2⟩⟩
    · cases h
theorem permD_vals : ∀ {pm : List Nat} {vs ws : List V} {us : List Value}, Vals vs us → permD pm vs = some ws → ∃ us', permD pm us = some us' ∧ Vals ws us'
  | [], vs, ws, us, r, h => by simp [permD] at h; subst h; exact ⟨[], rfl, .nil⟩
  | i :: is, vs, ws, us, r, h => by
    simp only [permD] at h
    split at h
    · rename_i v rr h1 h2
      cases h
      obtain ⟨w, e1, e2⟩ := r.get h1
      obtain ⟨us', f1, f2⟩ := permD_vals r h2
      exact ⟨w :: us', by simp [permD, e1, f1], .cons e2 f2⟩
    · cases h
section
variable {Z : Cx} {ca : Nat → Addr} {T : List (Addr × Str)} {W : WX} {a b c o : Expr} {ma mb mc mo : Sl → M D} {pos p2 apos : Pos} {k : Nat} {f : Addr} {fd : FuncData} {ps ks : List Str} {gz : Bool} {x m : Str} {F : List D → M D} {es : List Expr} {mr mk : Sl → M (List D)} {kws : List Keyword}
/-- the call itself, from the arguments' reading -/
theorem call_go {σ : L2.St} {H : Hp} {Q : VK} {vs : List V} {L0 : Addr → Prop} {ρ : List Addr} {hd : Hd} {ds : List D} (r : RelH Z.K ca T L0 ρ hd H) (rs : Reps Z.K ρ (Lv L0 ρ hd) H ds vs) (hl : vs.length = ps.length)
    (f : Fin Z.K ca T (fun c d H' => W c d σ H') L0 ρ hd H (F ds hd) (fun ρ' hd' H' a => ∀ b, Rep Z.K ρ' (Lv L0 ρ' hd') H' a b → Q b H')) : spC Z.K ca T F ps.length vs H Q (fun c d H' => W c d σ H') :=
  ⟨hl, L0, ρ, hd, ds, r, rs, f⟩
/-- what follows behind some values -/
def Nxt (K : PySem.W.Frag) (ca : Nat → Addr) (T : List (Addr × Str)) (W : Wish) (Q : VK) (G : List D → M D) (vs : List V) (H : Hp) : Prop :=
  ∃ L0 ρ hd ds, RelH K ca T L0 ρ hd H ∧ Reps K ρ (Lv L0 ρ hd) H ds vs ∧ Fin K ca T W L0 ρ hd H (G ds hd) (fun ρ' hd' H' a => ∀ b, Rep K ρ' (Lv L0 ρ' hd') H' a b → Q b H')
theorem nxt_of {σ : L2.St} {H : Hp} {Q : VK} {G : List D → M D} (h : rdV Z.K ca T W (fun σ => bnd (mr σ) fun vs => G vs) σ H Q) : rdVs Z.K ca T W mr σ H (Nxt Z.K ca T (fun c d H' => W c d σ H') Q G) := by
  obtain ⟨L0, ρ, σd, hd, rh, rs, fn⟩ := h
  exact ⟨L0, ρ, σd, hd, rh, rs, Fin.imp (Fin.bnd fn) fun ρ1 hd1 H1 xs p1 f1 vs rvs => ⟨L0, ρ1, hd1, xs, p1.rel, rvs, f1⟩⟩
/-- from there to the promise -/
theorem Nxt.go {W : Wish} {Q : VK} {vs : List V} {H : Hp} (h : Nxt Z.K ca T W Q F vs H) (hlen : ∀ ds h, F ds h ≠ none → ds.length = ps.length) : spC Z.K ca T F ps.length vs H Q W := by
  obtain ⟨L0, ρ, hd, ds, r, rs, f⟩ := h
  refine ⟨?_, L0, ρ, hd, ds, r, rs, f⟩
  rw [← rs.length]
  refine hlen ds hd fun e => ?_
  rw [e] at f; exact f
/-- .. in another order -/
theorem Nxt.perm {W : Wish} {Q : VK} {vs : List V} {H : Hp} {pm : List Nat} (h : Nxt Z.K ca T W Q (fun vs => match permD pm vs with | some us => F us | none => stuck) vs H) : ∃ ws, permD pm vs = some ws ∧ Nxt Z.K ca T W Q F ws H := by
  obtain ⟨L0, ρ, hd, ds, r, rs, f⟩ := h
  cases hp : permD pm ds with
  | none => simp only [hp] at f; exact False.elim f
  | some ys =>
    simp only [hp] at f
    obtain ⟨ws, e1, e2⟩ := permD_reps rs hp
    exact ⟨ws, e1, L0, ρ, hd, ys, r, e2, f⟩
theorem s_call (hF : FnE Z.prog Z.w Z.K Z.mg Z.base k f fd ps (spC Z.K ca T F ps.length) gz) (hlen : ∀ ds h, F ds h ≠ none → ds.length = ps.length) (hr : Room k Z.A) (hz : gz = true → Z.A.guards = some []) (tk : Takes Z W) (hg : Gl Z x) (hm : Z.mg x = some (.ref f)) (hk : PySem.W.keepIn Z.K (.ref f) = true) (hb : Binds Z.K fd ps [])
    (ha : pA Z ca T W (a :: es) mr) (hdb : (x == ("__debug__" : Str)) = false) (he : starEach (a :: es) Z.env = (false, eval a Z.env) :: starEach es Z.env) (hpl : (backTo pos (starEach es Z.env)).any (·.1) = false) :
    pX Z ca T W (.Call (.Name x p2) (a :: es) [] pos) (fun σ => bnd (mr σ) fun vs => F vs) := by
  refine ⟨fun pins s σ H Q I h => ?_⟩
  refine wpAny_Call_Name_kw (ld_glob I hg hm ?_ hdb)
  refine PySem.W.callWith_K (h₀ := Z.base) I.ok.mod.kin hk (thn (ha.run pos pins s σ H _ I (nxt_of h)) fun us s1 ⟨vs, H1, I1, r, n⟩ => ⟨I1.kIn, ?_⟩) he hpl
  refine run_fnE hF hr hz tk I1 (fun h' => ?_) r (n.go hlen)
  have := hb s1 us I1.kIn (by rw [List.append_nil]; exact h')
  rw [List.append_nil] at this
  exact this
theorem s_call0 (hF : FnE Z.prog Z.w Z.K Z.mg Z.base k f fd ps (spC Z.K ca T F ps.length) gz) (hlen : ∀ ds h, F ds h ≠ none → ds.length = ps.length) (hr : Room k Z.A) (hz : gz = true → Z.A.guards = some []) (tk : Takes Z W) (hg : Gl Z x) (hm : Z.mg x = some (.ref f)) (hk : PySem.W.keepIn Z.K (.ref f) = true) (hb : Binds Z.K fd ps [])
    (hdb : (x == ("__debug__" : Str)) = false) :
    pX Z ca T W (.Call (.Name x p2) [] [] pos) (fun σ => bnd (ret []) fun vs => F vs) := by
  refine ⟨fun pins s σ H Q I h => ?_⟩
  obtain ⟨L0, ρ, σd, hd, rh, rs, fn⟩ := h
  have n : Nxt Z.K ca T (fun c d H' => W c d σ H') Q F [] H := ⟨L0, ρ, hd, [], rh, by simp [Reps], fn⟩
  refine wpAny_Call_Name_kw (ld_glob I hg hm ?_ hdb)
  refine PySem.W.callWith_K0 I.kIn hk (run_fnE (us := []) hF hr hz tk I (fun h' => ?_) .nil (n.go hlen))
  have := hb s [] I.kIn (by rw [List.append_nil]; exact h')
  rw [List.append_nil] at this
  exact this
/-- keywords -/
abbrev pK (Z : Cx) (ca : Nat → Addr) (T : List (Addr × Str)) (W : WX) (kws : List Keyword) (m : Sl → M (List D)) : Prop := PK Z kws (rdVs Z.K ca T W m)
theorem s_knil : pK Z ca T W [] (fun _ => ret []) := by
  have h := pk_nil (X := Z)
  refine ⟨fun pos pins s σ H Q I q => h.run pos pins s σ H Q I ?_⟩
  obtain ⟨L0, ρ, σd, hd, rh, rs, fn⟩ := q
  exact Fin.ret rh fn [] (by simp [Reps])
theorem s_kcons {nm : Option Str} {kpos : Pos} (ha : pX Z ca T W a ma) (hr : pK Z ca T W kws mr) : pK Z ca T W (⟨nm, a, kpos⟩ :: kws) (fun σ => bnd (ma σ) fun x => bnd (mr σ) fun xs => ret (x :: xs)) := by
  have h := pk_cons (nm := nm) (kpos := kpos) ha hr
  refine ⟨fun pos pins s σ H Q I q => h.run pos pins s σ H Q I ?_⟩
  obtain ⟨L0, ρ, σd, hd, rh, rs, fn⟩ := q
  refine ⟨L0, ρ, σd, hd, rh, rs, Fin.imp (Fin.bnd fn) fun ρ1 hd1 H1 x p1 f1 v rv => ?_⟩
  refine ⟨L0, ρ1, σd, hd1, p1.rel, rs.keep rh p1, Fin.imp (Fin.bnd f1) fun ρ2 hd2 H2 xs p2 f2 vs rvs => ?_⟩
  refine Fin.ret p2.rel f2 (v :: vs) ?_
  show Reps Z.K ρ2 (Lv L0 ρ2 hd2) H2 (x :: xs) (v :: vs)
  rw [Reps]
  exact ⟨v, vs, rfl, Rep.keep p1.rel p2 x v rv, rvs⟩
/-- how names fall to parameters: p by place, the others named ks, pm the order -/
def KwOk (K : PySem.W.Frag) (fd : FuncData) (ps : List Str) (p : Nat) (ks : List Str) (pm : List Nat) : Prop :=
  ∀ (s : Shared) (us ws us' : List Value), K.In s.heap → us.length = p → ws.length = ks.length → permD pm (us ++ ws) = some us' → BindsTo s fd ⟨us, ks.zip ws⟩ (ps.zip us')
theorem s_callk {pm : List Nat} (hF : FnE Z.prog Z.w Z.K Z.mg Z.base k f fd ps (spC Z.K ca T F ps.length) gz) (hlen : ∀ ds h, F ds h ≠ none → ds.length = ps.length) (hr : Room k Z.A) (hz : gz = true → Z.A.guards = some []) (tk : Takes Z W) (hg : Gl Z x) (hm : Z.mg x = some (.ref f)) (hk : PySem.W.keepIn Z.K (.ref f) = true)
    (hb : KwOk Z.K fd ps 0 ks pm) (hkw : pK Z ca T W kws mk) (hks : kws.length = ks.length) (hall : (backToKw pos (keywordEach kws Z.env)).all (·.1.isSome) = true) (hkn : (backToKw pos (keywordEach kws Z.env)).filterMap (·.1) = ks)
    (hpl : ((backTo pos (starEach [] Z.env)).any (·.1) || (backToKw pos (keywordEach kws Z.env)).any (·.1.isNone)) = false) (hdb : (x == ("__debug__" : Str)) = false) (hmk : ∀ σ h xs h', mk σ h = some (.ok xs, h') → xs.length = kws.length) :
    pX Z ca T W (.Call (.Name x p2) [] kws pos) (fun σ => bnd (mk σ) fun vs => match permD pm vs with | some us => F us | none => stuck) := by
  refine ⟨fun pins s σ H Q I h => ?_⟩
  refine wpAny_Call_Name_kw (ld_glob I hg hm ?_ hdb)
  have h2 : rdVs Z.K ca T W mk σ H (fun vs H1 => vs.length = ks.length ∧ Nxt Z.K ca T (fun c d H' => W c d σ H') Q (fun vs => match permD pm vs with | some us => F us | none => stuck) vs H1) := by
    obtain ⟨L0, ρ, σd, hd, rh, rs, fn⟩ := h
    refine ⟨L0, ρ, σd, hd, rh, rs, ?_⟩
    have f2 := Fin.bnd fn
    unfold Fin at f2 ⊢
    split at f2
    · exact f2
    · rename_i xs hd' e
      refine fun ρ' H' p vs rvs => ⟨?_, L0, ρ', hd', xs, p.rel, rvs, f2 ρ' H' p⟩
      rw [← rvs.length, hmk _ _ _ _ e, hks]
    · exact f2
  refine PySem.W.callWith_KW0 (h₀ := Z.base) I.ok.mod.kin hk hall (thn (hkw.run pos pins s σ H _ I h2) fun us s1 ⟨vs, H1, I1, r, hl, n⟩ => ⟨I1.kIn, ?_⟩) hpl
  obtain ⟨ws, e1, n2⟩ := n.perm
  obtain ⟨us', g1, g2⟩ := permD_vals r e1
  rw [hkn]
  refine run_fnE (us := []) hF hr hz tk I1 (fun h' => ?_) g2 (n2.go hlen)
  exact hb s1 [] us us' I1.kIn rfl (by rw [← r.length, hl]) g1
/-! ### fields -/
theorem RepF.lookup {K : PySem.W.Frag} {ρ : List Addr} {H : Hp} {L : Addr → Prop} {f : Nm} : ∀ {fs : Pl} {vfs : List (Str × V)}, RepF K ρ L H fs vfs → (∀ d, lkF f fs = some d → ∃ v, vfs.lookup (St f) = some v ∧ Rep K ρ L H d v) ∧ (lkF f fs = none → vfs.lookup (St f) = none)
  | [], vfs, h => by
    rw [RepF] at h; subst h
    exact ⟨fun d e => (by simp [lkF] at e), fun _ => rfl⟩
  | (g, d) :: fs, vfs, h => by
    rw [RepF] at h
    obtain ⟨v, r, rfl, h1, h2⟩ := h
    obtain ⟨i1, i2⟩ := RepF.lookup (f := f) h2
    by_cases hg : g = f
    · subst hg
      refine ⟨fun d' e => ?_, fun e => ?_⟩
      · simp [lkF] at e; subst e
        exact ⟨v, by simp [List.lookup], h1⟩
      · simp [lkF] at e
    · have hne : ((St f : Str) == St g) = false := beq_eq_false_iff_ne.mpr fun z => hg (St_inj z).symm
      refine ⟨fun d' e => ?_, fun e => ?_⟩
      · simp only [lkF, if_neg hg] at e
        obtain ⟨w, e1, e2⟩ := i1 d' e
        exact ⟨w, by simp [List.lookup, hne, e1], e2⟩
      · simp only [lkF, if_neg hg] at e
        simp [List.lookup, hne, i2 e]
theorem RepF.len {K : PySem.W.Frag} {ρ : List Addr} {H : Hp} {L : Addr → Prop} : ∀ {fs : Pl} {vfs : List (Str × V)}, RepF K ρ L H fs vfs → fs.length = vfs.length
  | [], vfs, h => by rw [RepF] at h; subst h; rfl
  | (g, d) :: fs, vfs, h => by
    rw [RepF] at h
    obtain ⟨v, r, rfl, h1, h2⟩ := h
    simp [RepF.len h2]
theorem RepF.put {K : PySem.W.Frag} {ρ : List Addr} {H : Hp} {L : Addr → Prop} {f : Nm} {d : D} {v : V} (hv : Rep K ρ L H d v) : ∀ {fs : Pl} {vfs : List (Str × V)}, RepF K ρ L H fs vfs → RepF K ρ L H (Ev.putF f d fs) (L2.putF (St f) v vfs)
  | [], vfs, h => by
    rw [RepF] at h; subst h
    show RepF K ρ L H [(f, d)] [(St f, v)]
    rw [RepF]
    exact ⟨v, [], rfl, hv, by simp [RepF]⟩
  | (g, e) :: fs, vfs, h => by
    rw [RepF] at h
    obtain ⟨w, r, rfl, h1, h2⟩ := h
    show RepF K ρ L H (if g = f then (g, d) :: fs else (g, e) :: Ev.putF f d fs) (if St g = St f then (St g, v) :: r else (St g, w) :: L2.putF (St f) v r)
    by_cases hg : g = f
    · subst hg
      rw [if_pos rfl, if_pos rfl, RepF]
      exact ⟨v, r, rfl, hv, h2⟩
    · rw [if_neg hg, if_neg (fun z => hg (St_inj z)), RepF]
      exact ⟨w, _, rfl, h1, RepF.put hv h2⟩
/-- what the classes of instances are -/
structure ClsOk (K : PySem.W.Frag) (ca : Nat → Addr) (flds : Nat → List Nm) : Prop where
  fld : ∀ c f, (flds c).contains f = true → Cls K (ca c) ∧ NoAttr K (ca c) (St f)
theorem s_fld {C : Cfg} {f : Nm} (hC : ClsOk Z.K ca C.flds) (ha : pX Z ca T W a ma) (hb : attributeBase a (St f) Z.env (eval a Z.env) = eval a Z.env) :
    pX Z ca T W (.Attribute a (St f) pos) (fun σ => bnd (ma σ) fun x => fun h => opt (fldD C h x f) h) := by
  refine PE.imp (pe_fld ha hb) fun σ H Q h => ?_
  obtain ⟨L0, ρ, σd, hd, rh, rs, fn⟩ := h
  refine ⟨L0, ρ, σd, hd, rh, rs, Fin.imp (Fin.bnd fn) fun ρ1 hd1 H1 x p1 f1 v rv => ?_⟩
  cases x with
  | loc n =>
    rw [Rep] at rv
    obtain ⟨p, rfl, e1⟩ := rv
    unfold fldD at f1
    simp only at f1
    cases hn : hd1[n]? with
    | none => rw [hn] at f1; exact False.elim f1
    | some cl =>
      rw [hn] at f1
      cases cl with
      | ins c fs =>
        simp only at f1
        by_cases hc : (C.flds c).contains f = true
        · rw [if_pos hc] at f1
          cases hl : lkF f fs with
          | none => rw [hl] at f1; exact False.elim f1
          | some d =>
            rw [hl] at f1
            obtain ⟨dx, vfs, e2, e3⟩ := p1.rel.cell n _ p hn e1
            obtain ⟨w, e4, e5⟩ := (RepF.lookup e3).1 d hl
            obtain ⟨h1, h2⟩ := hC.fld c f hc
            exact ⟨p, ca c, dx, vfs, w, rfl, e2, h1, h2, e4, Fin.ret p1.rel f1 w e5⟩
        · rw [if_neg hc] at f1; exact False.elim f1
      | lst xs => exact False.elim f1
      | dead => exact False.elim f1
  | _ => exact False.elim f1
/-! ### methods -/
theorem isIns_of {K : PySem.W.Frag} {L0 : Addr → Prop} {ρ : List Addr} {hd : Hd} {H : Hp} (r : RelH K ca T L0 ρ hd H) {x : D} {v : V} {c : Nat} {m : Nm} (h : isIns hd x c m = true) (rv : Rep K ρ (Lv L0 ρ hd) H x v) : ∃ p dx vfs, v = .ref p ∧ H p = some (.ins (ca c) dx vfs) ∧ vfs.lookup (St m) = none := by
  cases x with
  | loc n =>
    rw [Rep] at rv
    obtain ⟨p, rfl, e1⟩ := rv
    simp only [isIns] at h
    cases hn : hd[n]? with
    | none => rw [hn] at h; cases h
    | some cl =>
      rw [hn] at h
      cases cl with
      | ins c' fs =>
        simp only [Bool.and_eq_true, beq_iff_eq, Option.isNone_iff_eq_none] at h
        obtain ⟨rfl, h2⟩ := h
        obtain ⟨dx, vfs, e2, e3⟩ := r.cell n _ p hn e1
        exact ⟨p, dx, vfs, rfl, e2, (RepF.lookup e3).2 h2⟩
      | lst xs => cases h
      | dead => cases h
  | _ => cases h
theorem s_me {pl : Sem Bool} {c : Nat} {m : Nm} (hF : FnE Z.prog Z.w Z.K Z.mg Z.base k f fd ps (spC Z.K ca T F ps.length) gz) (hlen : ∀ ds h, F ds h ≠ none → ds.length = ps.length) (hr : Room k Z.A) (hz : gz = true → Z.A.guards = some []) (tk : Takes Z W) (hC : Cls Z.K (ca c)) (hm : Meth Z.K (ca c) (St m) f) (hb : Binds Z.K fd ps [])
    (ho : pX Z ca T W o mo) (ha : pA Z ca T W (a :: es) mr) (hst : starEach (a :: es) Z.env = (false, eval a Z.env) :: starEach es Z.env) (hpl : (backTo pos (starEach es Z.env)).any (·.1) = false)
    (ht : eval (.Call (.Attribute o (St m) apos) (a :: es) [] pos) Z.env = (do
      let ov ← eval o Z.env
      standAt apos.atName
      let (f, first) ← holding [ov] (getMethod ov (St m) pl)
      callWith pos f first (backTo pos (starEach (a :: es) Z.env)) (backToKw pos (keywordEach [] Z.env)))) :
    pX Z ca T W (.Call (.Attribute o (St m) apos) (a :: es) [] pos) (fun σ => bnd (mo σ) fun x => fun h => if isIns h x c m then bnd (mr σ) (fun vs => F (x :: vs)) h else none) := by
  refine ⟨fun pins s σ H Q I h => ?_⟩
  obtain ⟨L0, ρ, σd, hd, rh, rs, fn⟩ := h
  refine PySem.W.methodCall_KW (pl := pl) (thn (ho.run pins s σ H (fun x H1 => ∃ p dx vfs, x = .ref p ∧ H1 p = some (.ins (ca c) dx vfs) ∧ vfs.lookup (St m) = none ∧ rdVs Z.K ca T W mr σ H1 (fun vs H2 => Nxt Z.K ca T (fun c d H' => W c d σ H') Q F (x :: vs) H2)) I ⟨L0, ρ, σd, hd, rh, rs, Fin.imp (Fin.bnd fn) fun ρ1 hd1 H1 x p1 f1 v rv => ?_⟩)
    fun u s1 ⟨x, H1, I1, rx, p, dx, vfs, ex, ea, l, q⟩ => ?_) ht
  · by_cases hi : isIns hd1 x c m = true
    · rw [if_pos hi] at f1
      obtain ⟨p, dx, vfs, rfl, e1, e2⟩ := isIns_of p1.rel hi rv
      refine ⟨p, dx, vfs, rfl, e1, e2, L0, ρ1, σd, hd1, p1.rel, rs.keep rh p1, Fin.imp (Fin.bnd f1) fun ρ2 hd2 H2 xs p2 f2 vs rvs => ⟨L0, ρ2, hd2, x :: xs, p2.rel, ?_, f2⟩⟩
      rw [Reps]
      exact ⟨_, vs, rfl, Rep.keep p1.rel p2 x _ rv, rvs⟩
    · rw [if_neg hi] at f1; exact False.elim f1
  · subst ex
    obtain rfl : u = Value.ref p := rx
    refine getmeth_ok I1 ea hC hm l ?_
    refine PySem.W.callWith_K (first := [.ref p]) (h₀ := Z.base) I.ok.mod.kin hm.kp (thn (ha.run pos pins s1 σ H1 _ I1 q) fun us s2 ⟨vs, H2, I2, r, q2⟩ => ⟨I2.kIn, ?_⟩) hst hpl
    refine run_fnE (us := .ref p :: us) (vs := .ref p :: vs) hF hr hz tk I2 (fun h' => ?_) (.cons rfl r) (q2.go hlen)
    have := hb s2 (.ref p :: us) I2.kIn (by rw [List.append_nil]; exact h')
    rw [List.append_nil] at this
    exact this
theorem s_me0 {pl : Sem Bool} {c : Nat} {m : Nm} (hF : FnE Z.prog Z.w Z.K Z.mg Z.base k f fd ps (spC Z.K ca T F ps.length) gz) (hlen : ∀ ds h, F ds h ≠ none → ds.length = ps.length) (hr : Room k Z.A) (hz : gz = true → Z.A.guards = some []) (tk : Takes Z W) (hC : Cls Z.K (ca c)) (hm : Meth Z.K (ca c) (St m) f) (hb : Binds Z.K fd ps [])
    (ho : pX Z ca T W o mo)
    (ht : eval (.Call (.Attribute o (St m) apos) [] [] pos) Z.env = (do
      let ov ← eval o Z.env
      standAt apos.atName
      let (f, first) ← holding [ov] (getMethod ov (St m) pl)
      callWith pos f first (backTo pos (starEach [] Z.env)) (backToKw pos (keywordEach [] Z.env)))) :
    pX Z ca T W (.Call (.Attribute o (St m) apos) [] [] pos) (fun σ => bnd (mo σ) fun x => fun h => if isIns h x c m then bnd (ret []) (fun vs => F (x :: vs)) h else none) := by
  refine ⟨fun pins s σ H Q I h => ?_⟩
  obtain ⟨L0, ρ, σd, hd, rh, rs, fn⟩ := h
  refine PySem.W.methodCall_KW (pl := pl) (thn (ho.run pins s σ H (fun x H1 => ∃ p dx vfs, x = .ref p ∧ H1 p = some (.ins (ca c) dx vfs) ∧ vfs.lookup (St m) = none ∧ Nxt Z.K ca T (fun c d H' => W c d σ H') Q F [x] H1) I ⟨L0, ρ, σd, hd, rh, rs, Fin.imp (Fin.bnd fn) fun ρ1 hd1 H1 x p1 f1 v rv => ?_⟩)
    fun u s1 ⟨x, H1, I1, rx, p, dx, vfs, ex, ea, l, q⟩ => ?_) ht
  · by_cases hi : isIns hd1 x c m = true
    · rw [if_pos hi] at f1
      obtain ⟨p, dx, vfs, rfl, e1, e2⟩ := isIns_of p1.rel hi rv
      refine ⟨p, dx, vfs, rfl, e1, e2, L0, ρ1, hd1, [x], p1.rel, ?_, f1⟩
      rw [Reps]
      exact ⟨_, [], rfl, rv, by simp [Reps]⟩
    · rw [if_neg hi] at f1; exact False.elim f1
  · subst ex
    obtain rfl : u = Value.ref p := rx
    refine getmeth_ok I1 ea hC hm l ?_
    refine PySem.W.callWith_K0 (first := [.ref p]) I1.kIn hm.kp (run_fnE (us := [.ref p]) (vs := [.ref p]) hF hr hz tk I1 (fun h' => ?_) (.cons rfl .nil) (q.go hlen))
    have := hb s1 [.ref p] I1.kIn (by rw [List.append_nil]; exact h')
    rw [List.append_nil] at this
    exact this
/-- o.m(k = v, ..) -/
theorem s_mek {pl : Sem Bool} {c : Nat} {m : Nm} {pm : List Nat} (hF : FnE Z.prog Z.w Z.K Z.mg Z.base k f fd ps (spC Z.K ca T F ps.length) gz) (hlen : ∀ ds h, F ds h ≠ none → ds.length = ps.length) (hr : Room k Z.A) (hz : gz = true → Z.A.guards = some []) (tk : Takes Z W) (hC : Cls Z.K (ca c)) (hm : Meth Z.K (ca c) (St m) f) (hb : KwOk Z.K fd ps 1 ks pm)
    (ho : pX Z ca T W o mo) (hkw : pK Z ca T W kws mk) (hks : kws.length = ks.length) (hall : (backToKw pos (keywordEach kws Z.env)).all (·.1.isSome) = true) (hkn : (backToKw pos (keywordEach kws Z.env)).filterMap (·.1) = ks)
    (hpl : ((backTo pos (starEach [] Z.env)).any (·.1) || (backToKw pos (keywordEach kws Z.env)).any (·.1.isNone)) = false) (hmk : ∀ σ h xs h', mk σ h = some (.ok xs, h') → xs.length = kws.length)
    (ht : eval (.Call (.Attribute o (St m) apos) [] kws pos) Z.env = (do
      let ov ← eval o Z.env
      standAt apos.atName
      let (f, first) ← holding [ov] (getMethod ov (St m) pl)
      callWith pos f first (backTo pos (starEach [] Z.env)) (backToKw pos (keywordEach kws Z.env)))) :
    pX Z ca T W (.Call (.Attribute o (St m) apos) [] kws pos) (fun σ => bnd (mo σ) fun x => fun h => if isIns h x c m then bnd (mk σ) (fun vs => match permD pm (x :: vs) with | some us => F us | none => stuck) h else none) := by
  refine ⟨fun pins s σ H Q I h => ?_⟩
  obtain ⟨L0, ρ, σd, hd, rh, rs, fn⟩ := h
  refine PySem.W.methodCall_KW (pl := pl) (thn (ho.run pins s σ H (fun x H1 => ∃ p dx vfs, x = .ref p ∧ H1 p = some (.ins (ca c) dx vfs) ∧ vfs.lookup (St m) = none ∧ rdVs Z.K ca T W mk σ H1 (fun vs H2 => vs.length = ks.length ∧ Nxt Z.K ca T (fun c d H' => W c d σ H') Q (fun vs => match permD pm vs with | some us => F us | none => stuck) (x :: vs) H2)) I ⟨L0, ρ, σd, hd, rh, rs, Fin.imp (Fin.bnd fn) fun ρ1 hd1 H1 x p1 f1 v rv => ?_⟩)
    fun u s1 ⟨x, H1, I1, rx, p, dx, vfs, ex, ea, l, q⟩ => ?_) ht
  · by_cases hi : isIns hd1 x c m = true
    · rw [if_pos hi] at f1
      obtain ⟨p, dx, vfs, rfl, e1, e2⟩ := isIns_of p1.rel hi rv
      refine ⟨p, dx, vfs, rfl, e1, e2, L0, ρ1, σd, hd1, p1.rel, rs.keep rh p1, ?_⟩
      have f2 := Fin.bnd f1
      unfold Fin at f2 ⊢
      split at f2
      · exact f2
      · rename_i xs hd' e
        refine fun ρ' H' pp vs rvs => ⟨?_, L0, ρ', hd', x :: xs, pp.rel, ?_, f2 ρ' H' pp⟩
        · rw [← rvs.length, hmk _ _ _ _ e, hks]
        · rw [Reps]
          exact ⟨_, vs, rfl, Rep.keep p1.rel pp x _ rv, rvs⟩
      · exact f2
    · rw [if_neg hi] at f1; exact False.elim f1
  · subst ex
    obtain rfl : u = Value.ref p := rx
    refine getmeth_ok I1 ea hC hm l ?_
    refine PySem.W.callWith_KW0 (first := [.ref p]) (h₀ := Z.base) I.ok.mod.kin hm.kp hall (thn (hkw.run pos pins s1 σ H1 _ I1 q) fun us s2 ⟨vs, H2, I2, r, hl, q2⟩ => ⟨I2.kIn, ?_⟩) hpl
    obtain ⟨ws, e1, n2⟩ := q2.perm
    have r' : Vals (V.ref p :: vs) (Value.ref p :: us) := .cons rfl r
    obtain ⟨us', g1, g2⟩ := permD_vals r' e1
    rw [hkn]
    refine run_fnE (us := [.ref p]) hF hr hz tk I2 (fun h' => ?_) g2 (n2.go hlen)
    exact hb s2 [.ref p] us us' I2.kIn rfl (by rw [← r.length, hl]) g1
end
end Ev

set_option Elab.async false
set_option linter.all false
set_option maxRecDepth 100000
set_option maxHeartbeats 4000000
/-! Ev3c: classes made, methods of lists and tuples, isinstance, starred items, new lists of ours. -/
namespace Ev
open PySem L2 PyProof.Rows
section
variable {Z : Cx} {ca : Nat → Addr} {T : List (Addr × Str)} {W : WX} {a b c o : Expr} {ma mb mc mo : Sl → M D} {pos p2 apos : Pos} {k : Nat} {f : Addr} {fd : FuncData} {ps ks : List Str} {x m : Str} {F : List D → M D} {es : List Expr} {mr mk : Sl → M (List D)} {kws : List Keyword}
/-- the evaluator's new instance -/
def mkF (c : Nat) (F : List D → M D) (vs : List D) : M D := fun h => match F (.loc h.length :: vs) (h ++ [.ins c []]) with
  | some (.ok .non, h1) => some (.ok (.loc h.length), h1)
  | some (.ok _, _) => none
  | some (.ex e pl, h1) => some (.ex e pl, h1)
  | none => none
theorem make_sp {c : Nat} {Q : VK} {vs : List V} {H : Hp} {W : Wish} {x dx : Addr} (n : Nxt Z.K ca T W Q (mkF c F) vs H) (hlen : ∀ ds h, F ds h ≠ none → ds.length = ps.length) (hx : H x = none) (hdx : H dx = none) (hne : dx ≠ x) :
    spC Z.K ca T F ps.length (.ref x :: vs) (upd (upd H dx (.own x)) x (.ins (ca c) dx [])) (fun v H2 => v = .non ∧ Q (.ref x) H2) W := by
  obtain ⟨L0, ρ, hd, ds, r, rs, fn⟩ := n
  have p1 := Post.alloc r hdx (o := .own x) (fun ps z => nomatch z)
  have hx1 : upd H dx (.own x) x = none := by rw [upd_ne (Ne.symm hne)]; exact hx
  have p2 := Post.grow p1.rel (a := x) (c := .ins c []) (o := .ins (ca c) dx []) hx1 (fun z => nomatch z) (fun ps z => nomatch z) (fun ρ' hd' H' mo e => ⟨dx, [], e, by simp [RepF]⟩)
  have p12 := p1.trans p2
  have rs2 := Reps.keep r p12 ds vs rs
  have hlx : Rep Z.K (ρ ++ [x]) (Lv L0 (ρ ++ [x]) (hd ++ [.ins c []])) (upd (upd H dx (.own x)) x (.ins (ca c) dx [])) (.loc hd.length) (.ref x) := by
    rw [Rep]
    exact ⟨x, rfl, by rw [← r.len]; simp⟩
  have rs3 : Reps Z.K (ρ ++ [x]) (Lv L0 (ρ ++ [x]) (hd ++ [.ins c []])) (upd (upd H dx (.own x)) x (.ins (ca c) dx [])) (.loc hd.length :: ds) (.ref x :: vs) := by
    rw [Reps]
    exact ⟨_, vs, rfl, hlx, rs2⟩
  refine ⟨?_, L0, ρ ++ [x], hd ++ [.ins c []], .loc hd.length :: ds, p2.rel, rs3, ?_⟩
  · rw [← rs3.length]
    refine hlen _ (hd ++ [.ins c []]) fun e => ?_
    unfold Fin mkF at fn
    rw [e] at fn
    exact fn
  · unfold Fin mkF at fn
    unfold Fin
    cases e : F (.loc hd.length :: ds) (hd ++ [.ins c []]) with
    | none => rw [e] at fn; exact fn
    | some q =>
      obtain ⟨q, hd'⟩ := q
      rw [e] at fn
      cases q with
      | ex e' pl => exact fun ρ' H' d p => fn ρ' H' d (p12.trans p)
      | ok d =>
        cases d <;> simp only at fn <;> try exact False.elim fn
        intro ρ' H' p v rv
        rw [Rep] at rv
        refine ⟨rv, fn ρ' H' (p12.trans p) _ ?_⟩
        have := Rep.keep p2.rel p _ _ hlx
        exact this
theorem s_mk {c : Nat} (Mo : Mk Z.K (ca c) f) (hF : FnE Z.prog Z.w Z.K Z.mg Z.base k f fd ps (spC Z.K ca T F ps.length) false) (hlen : ∀ ds h, F ds h ≠ none → ds.length = ps.length) (hr : Room (k + 1) Z.A) (tk : Takes Z W) (hg : Gl Z x) (hm : Z.mg x = some (.ref (ca c))) (hk : PySem.W.keepIn Z.K (.ref (ca c)) = true) (hb : Binds Z.K fd ps [])
    (ha : pA Z ca T W (a :: es) mr) (hdb : (x == ("__debug__" : Str)) = false) (he : starEach (a :: es) Z.env = (false, eval a Z.env) :: starEach es Z.env) (hpl : (backTo pos (starEach es Z.env)).any (·.1) = false) :
    pX Z ca T W (.Call (.Name x p2) (a :: es) [] pos) (fun σ => bnd (mr σ) fun vs => mkF c F vs) := by
  refine ⟨fun pins s σ H Q I h => ?_⟩
  refine wpAny_Call_Name_kw (ld_glob I hg hm ?_ hdb)
  refine PySem.W.callWith_K (h₀ := Z.base) I.ok.mod.kin hk (thn (ha.run pos pins s σ H _ I (nxt_of h)) fun us s1 ⟨vs, H1, I1, r, n⟩ => ⟨I1.kIn, ?_⟩) he hpl
  refine run_makeE Mo hF hr tk I1 (fun x s2 k2 h' => ?_) r fun x dx hx hdx hne => make_sp n hlen hx hdx hne
  have := hb s2 (.ref x :: us) k2 (by rw [List.append_nil]; exact h')
  rw [List.append_nil] at this
  exact this
theorem s_mk0 {c : Nat} (Mo : Mk Z.K (ca c) f) (hF : FnE Z.prog Z.w Z.K Z.mg Z.base k f fd ps (spC Z.K ca T F ps.length) false) (hlen : ∀ ds h, F ds h ≠ none → ds.length = ps.length) (hr : Room (k + 1) Z.A) (tk : Takes Z W) (hg : Gl Z x) (hm : Z.mg x = some (.ref (ca c))) (hk : PySem.W.keepIn Z.K (.ref (ca c)) = true) (hb : Binds Z.K fd ps [])
    (hdb : (x == ("__debug__" : Str)) = false) :
    pX Z ca T W (.Call (.Name x p2) [] [] pos) (fun σ => bnd (ret []) fun vs => mkF c F vs) := by
  refine ⟨fun pins s σ H Q I h => ?_⟩
  obtain ⟨L0, ρ, σd, hd, rh, rs, fn⟩ := h
  have n : Nxt Z.K ca T (fun c d H' => W c d σ H') Q (mkF c F) [] H := ⟨L0, ρ, hd, [], rh, by simp [Reps], fn⟩
  refine wpAny_Call_Name_kw (ld_glob I hg hm ?_ hdb)
  refine PySem.W.callWith_K0 I.kIn hk (run_makeE (us := []) (us' := []) Mo hF hr tk I (fun x s2 k2 h' => ?_) .nil fun x dx hx hdx hne => make_sp n hlen hx hdx hne)
  have := hb s2 [.ref x] k2 (by rw [List.append_nil]; exact h')
  rw [List.append_nil] at this
  exact this
theorem s_mkk {c : Nat} {pm : List Nat} (Mo : Mk Z.K (ca c) f) (hF : FnE Z.prog Z.w Z.K Z.mg Z.base k f fd ps (spC Z.K ca T F ps.length) false) (hlen : ∀ ds h, F ds h ≠ none → ds.length = ps.length) (hr : Room (k + 1) Z.A) (tk : Takes Z W) (hg : Gl Z x) (hm : Z.mg x = some (.ref (ca c))) (hk : PySem.W.keepIn Z.K (.ref (ca c)) = true)
    (hb : ∀ (s : Shared) (y : Value) (ws us' : List Value), Z.K.In s.heap → ws.length = ks.length → permD pm ws = some us' → BindsTo s fd ⟨[y], ks.zip ws⟩ (ps.zip (y :: us')))
    (hkw : pK Z ca T W kws mk) (hks : kws.length = ks.length) (hall : (backToKw pos (keywordEach kws Z.env)).all (·.1.isSome) = true) (hkn : (backToKw pos (keywordEach kws Z.env)).filterMap (·.1) = ks)
    (hpl : ((backTo pos (starEach [] Z.env)).any (·.1) || (backToKw pos (keywordEach kws Z.env)).any (·.1.isNone)) = false) (hdb : (x == ("__debug__" : Str)) = false) (hmk : ∀ σ h xs h', mk σ h = some (.ok xs, h') → xs.length = kws.length) :
    pX Z ca T W (.Call (.Name x p2) [] kws pos) (fun σ => bnd (mk σ) fun vs => match permD pm vs with | some us => mkF c F us | none => stuck) := by
  refine ⟨fun pins s σ H Q I h => ?_⟩
  refine wpAny_Call_Name_kw (ld_glob I hg hm ?_ hdb)
  have h2 : rdVs Z.K ca T W mk σ H (fun vs H1 => vs.length = ks.length ∧ Nxt Z.K ca T (fun c d H' => W c d σ H') Q (fun vs => match permD pm vs with | some us => mkF c F us | none => stuck) vs H1) := by
    obtain ⟨L0, ρ, σd, hd, rh, rs, fn⟩ := h
    refine ⟨L0, ρ, σd, hd, rh, rs, ?_⟩
    have f2 := Fin.bnd fn
    unfold Fin at f2 ⊢
    split at f2
    · exact f2
    · rename_i xs hd' e
      refine fun ρ' H' p vs rvs => ⟨?_, L0, ρ', hd', xs, p.rel, rvs, f2 ρ' H' p⟩
      rw [← rvs.length, hmk _ _ _ _ e, hks]
    · exact f2
  refine PySem.W.callWith_KW0 (h₀ := Z.base) I.ok.mod.kin hk hall (thn (hkw.run pos pins s σ H _ I h2) fun us s1 ⟨vs, H1, I1, r, hl, n⟩ => ⟨I1.kIn, ?_⟩) hpl
  obtain ⟨ws, e1, n2⟩ := n.perm (F := mkF c F)
  obtain ⟨us', g1, g2⟩ := permD_vals r e1
  rw [hkn]
  refine run_makeE (us := []) (us' := us') Mo hF hr tk I1 (fun y s2 k2 h' => ?_) g2 fun x dx hx hdx hne => make_sp n2 hlen hx hdx hne
  exact hb s2 (.ref y) us us' k2 (by rw [← r.length, hl]) g1
end
end Ev

set_option Elab.async false
set_option linter.all false
set_option maxRecDepth 100000
set_option maxHeartbeats 4000000
/-! Ev3d: a list that nobody else holds. -/
namespace Ev
open PySem L2 PyProof.Rows
section
variable {K : PySem.W.Frag} {ca : Nat → Addr} {T : List (Addr × Str)} {L0 L1 : Addr → Prop} {ρ ρ' : List Addr} {hd hd' : Hd} {H H' : Hp}
mutual
theorem Rep.monoL {L L' : Addr → Prop} (r : RelH K ca T L0 ρ hd H) (p : Mono T L0 ρ hd H ρ' hd' H') (hO : ∀ a, Own ρ hd a → L a) (hL : ∀ a, Held H a → ¬ L a → ¬ L' a) : ∀ (d : D) (v : V), Rep K ρ L H d v → Rep K ρ' L' H' d v
  | .non, v, h => by rw [Rep] at h ⊢; exact h
  | .bl b, v, h => by rw [Rep] at h ⊢; exact h
  | .int b, v, h => by rw [Rep] at h ⊢; exact h
  | .str b, v, h => by rw [Rep] at h ⊢; exact h
  | .tup ds, v, h => by
    rw [Rep] at h ⊢
    obtain ⟨a, vs, e, h1, h2⟩ := h
    exact ⟨a, vs, e, TpS_keep r p h1, Reps.monoL r p hO hL ds vs h2⟩
  | .wtp ds, v, h => by
    rw [Rep] at h ⊢
    obtain ⟨a, vs, e, h1, h2⟩ := h
    exact ⟨a, vs, e, SqT_keep r p h1, Reps.monoL r p hO hL ds vs h2⟩
  | .lst ds, v, h => by
    rw [Rep] at h ⊢
    obtain ⟨a, vs, e, h1, h2, h3⟩ := h
    have hh : Held H a := ⟨_, h1, fun ps z => nomatch z⟩
    exact ⟨a, vs, e, p.keep a _ h1 (fun z => h2 (hO a z)) (fun ps z => nomatch z), hL a hh h2, Reps.monoL r p hO hL ds vs h3⟩
  | .ro ds, v, h => by
    rw [Rep] at h ⊢
    obtain ⟨a, vs, e, h1, h3⟩ := h
    refine ⟨a, vs, e, ?_, Reps.monoL r p hO hL ds vs h3⟩
    rcases h1 with ⟨h1, h2⟩ | ⟨o, h1⟩ | h1
    · have hh : Held H a := ⟨_, h1, fun ps z => nomatch z⟩
      exact .inl ⟨p.keep a _ h1 (fun z => h2 (hO a z)) (fun ps z => nomatch z), hL a hh h2⟩
    · refine .inr (.inl ⟨o, p.keep a _ h1 (fun z => ?_) fun ps z => nomatch z⟩)
      rcases r.own_held z with ⟨vs, e⟩ | ⟨C, dx, fs, e⟩ <;> (rw [h1] at e; cases e)
    · exact .inr (.inr h1)
  | .loc n, v, h => by
    rw [Rep] at h ⊢
    obtain ⟨a, e, h1⟩ := h
    obtain ⟨m, em⟩ := p.ext
    refine ⟨a, e, ?_⟩
    rw [em, List.getElem?_append_left (List.getElem?_eq_some_iff.mp h1).1]
    exact h1
theorem Reps.monoL {L L' : Addr → Prop} (r : RelH K ca T L0 ρ hd H) (p : Mono T L0 ρ hd H ρ' hd' H') (hO : ∀ a, Own ρ hd a → L a) (hL : ∀ a, Held H a → ¬ L a → ¬ L' a) : ∀ (ds : List D) (vs : List V), Reps K ρ L H ds vs → Reps K ρ' L' H' ds vs
  | [], vs, h => by rw [Reps] at h ⊢; exact h
  | d :: ds, vs, h => by
    rw [Reps] at h ⊢
    obtain ⟨v, w, e, h1, h2⟩ := h
    exact ⟨v, w, e, Rep.monoL r p hO hL d v h1, Reps.monoL r p hO hL ds w h2⟩
end
theorem RepF.monoL {L L' : Addr → Prop} (r : RelH K ca T L0 ρ hd H) (p : Mono T L0 ρ hd H ρ' hd' H') (hO : ∀ a, Own ρ hd a → L a) (hL : ∀ a, Held H a → ¬ L a → ¬ L' a) : ∀ (ds : Pl) (vs : List (Str × V)), RepF K ρ L H ds vs → RepF K ρ' L' H' ds vs
  | [], vs, h => by rw [RepF] at h ⊢; exact h
  | (f, d) :: ds, vs, h => by
    rw [RepF] at h ⊢
    obtain ⟨v, w, e, h1, h2⟩ := h
    exact ⟨v, w, e, Rep.monoL r p hO hL d v h1, RepF.monoL r p hO hL ds w h2⟩
theorem CellOk.monoL {L L' : Addr → Prop} (r : RelH K ca T L0 ρ hd H) (p : Mono T L0 ρ hd H ρ' hd' H') (hO : ∀ a, Own ρ hd a → L a) (hL : ∀ a, Held H a → ¬ L a → ¬ L' a) {c : Cell} {a : Addr} (h : CellOk K ca ρ L H c a) (hk : H' a = H a) : CellOk K ca ρ' L' H' c a := by
  cases c with
  | lst ds => obtain ⟨vs, e, h4⟩ := h; exact ⟨vs, by rw [hk]; exact e, Reps.monoL r p hO hL ds vs h4⟩
  | ins c fs => obtain ⟨dx, vfs, e, h4⟩ := h; exact ⟨dx, vfs, by rw [hk]; exact e, RepF.monoL r p hO hL fs vfs h4⟩
  | dead => exact h
theorem Mono.refl : Mono T L0 ρ hd H ρ hd H := ⟨⟨[], by simp⟩, fun _ _ e _ _ => e, fun _ h => .inl h, fun _ h => h⟩
theorem Mono.trans {ρ'' : List Addr} {hd'' : Hd} {H'' : Hp} (p : Mono T L0 ρ hd H ρ' hd' H') (q : Mono T L0 ρ' hd' H' ρ'' hd'' H'') : Mono T L0 ρ hd H ρ'' hd'' H'' := by
  refine ⟨?_, ?_, ?_, fun a h => q.held a (p.held a h)⟩
  · obtain ⟨m1, e1⟩ := p.ext
    obtain ⟨m2, e2⟩ := q.ext
    exact ⟨m1 ++ m2, by rw [e2, e1, List.append_assoc]⟩
  · intro b o e ho ht
    refine q.keep b o (p.keep b o e ho ht) (fun hb => ?_) ht
    rcases p.fresh b hb with h | h
    · exact ho h
    · exact h ⟨o, e, ht⟩
  · intro a h
    rcases q.fresh a h with h | h
    · exact p.fresh a h
    · exact .inr fun z => h (p.held a z)
/-- Mono does not ask what is ours -/
theorem Mono.cast (p : Mono T L0 ρ hd H ρ' hd' H') : Mono T L1 ρ hd H ρ' hd' H' := ⟨p.ext, p.keep, p.fresh, p.held⟩
/-- one place more is ours -/
def Plus (L0 : Addr → Prop) (p : Addr) : Addr → Prop := fun a => L0 a ∨ a = p
/-- p: a list that stands by itself -/
structure Fresh (K : PySem.W.Frag) (ca : Nat → Addr) (T : List (Addr × Str)) (L0 : Addr → Prop) (ρ : List Addr) (hd : Hd) (H : Hp) (ys : List D) (p : Addr) : Prop where
  rel : RelH K ca T (Plus L0 p) ρ hd H
  out : ¬ L0 p
  at_ : ∃ vs, H p = some (.lst vs) ∧ Reps K ρ (Lv (Plus L0 p) ρ hd) H ys vs
/-- fewer places are ours -/
theorem RelH.less (r : RelH K ca T L1 ρ hd H) (h : ∀ a, L0 a → L1 a) : RelH K ca T L0 ρ hd H := by
  refine ⟨r.len, r.nd, fun n c a h1 h2 => ?_, fun a ha => r.l0 a (h a ha), r.tabs⟩
  refine CellOk.monoL r Mono.refl (fun a z => .inr z) (fun a _ z y => z ?_) (r.cell n c a h1 h2) rfl
  rcases y with y | y
  · exact .inl (h a y)
  · exact .inr y
theorem Reps.less (r : RelH K ca T L1 ρ hd H) (h : ∀ a, L0 a → L1 a) {ds : List D} {vs : List V} (q : Reps K ρ (Lv L1 ρ hd) H ds vs) : Reps K ρ (Lv L0 ρ hd) H ds vs := by
  refine Reps.monoL r Mono.refl (fun a z => .inr z) (fun a _ z y => z ?_) ds vs q
  rcases y with y | y
  · exact .inl (h a y)
  · exact .inr y
/-- it is told as a value -/
theorem Fresh.lst {ys : List D} {p : Addr} (f : Fresh K ca T L0 ρ hd H ys p) : RelH K ca T L0 ρ hd H ∧ Rep K ρ (Lv L0 ρ hd) H (.lst ys) (.ref p) := by
  obtain ⟨vs, e, q⟩ := f.at_
  have sub : ∀ a, L0 a → Plus L0 p a := fun a h => .inl h
  refine ⟨f.rel.less sub, ?_⟩
  rw [Rep]
  refine ⟨p, vs, rfl, e, ?_, Reps.less f.rel sub q⟩
  rintro (z | z)
  · exact f.out z
  · exact (f.rel.l0 p (.inr rfl)).2 z
/-- it becomes ours -/
theorem Fresh.own {ys : List D} {p : Addr} (f : Fresh K ca T L0 ρ hd H ys p) : RelH K ca T L0 (ρ ++ [p]) (hd ++ [.lst ys]) H ∧ Rep K (ρ ++ [p]) (Lv L0 (ρ ++ [p]) (hd ++ [.lst ys])) H (.loc hd.length) (.ref p) ∧ (∀ a, Own (ρ ++ [p]) (hd ++ [.lst ys]) a → Own ρ hd a ∨ a = p) := by
  obtain ⟨vs, e, q⟩ := f.at_
  have r := f.rel
  have no : ¬ Own ρ hd p := (r.l0 p (.inr rfl)).2
  have back : ∀ (i : Nat) (d : Cell) (b : Addr), (hd ++ [Cell.lst ys])[i]? = some d → (ρ ++ [p])[i]? = some b → (hd[i]? = some d ∧ ρ[i]? = some b) ∨ (i = hd.length ∧ d = .lst ys ∧ b = p) := fun i d b h1 h2 => by
    by_cases hi : i < hd.length
    · rw [List.getElem?_append_left hi] at h1
      rw [List.getElem?_append_left (by rw [r.len]; exact hi)] at h2
      exact .inl ⟨h1, h2⟩
    · have hle := (List.getElem?_eq_some_iff.mp h1).1
      simp at hle
      have : i = hd.length := by omega
      subst this
      simp at h1
      have h3 : (ρ ++ [p])[ρ.length]? = some b := by rw [r.len]; exact h2
      simp at h3
      exact .inr ⟨rfl, h1.symm, h3.symm⟩
  have own_b : ∀ b, Own (ρ ++ [p]) (hd ++ [Cell.lst ys]) b → Own ρ hd b ∨ b = p := by
    rintro b ⟨m, d, h1, h2, h3⟩
    rcases back m d b h1 h3 with ⟨e1, e2⟩ | ⟨_, _, e⟩
    · exact .inl ⟨m, d, e1, h2, e2⟩
    · exact .inr e
  have hL : ∀ a, ¬ Lv (Plus L0 p) ρ hd a → ¬ Lv L0 (ρ ++ [p]) (hd ++ [Cell.lst ys]) a := fun a z y => z (by
    rcases y with y | y
    · exact .inl (.inl y)
    · rcases own_b a y with y | y
      · exact .inr y
      · exact .inl (.inr y))
  have mo : Mono T (Plus L0 p) ρ hd H (ρ ++ [p]) hd H := ⟨⟨[p], rfl⟩, fun b o e _ _ => e, fun a h => .inl (by
    obtain ⟨n, c, h1, h2, h3⟩ := h
    refine ⟨n, c, h1, h2, ?_⟩
    have hi : n < ρ.length := by rw [r.len]; exact (List.getElem?_eq_some_iff.mp h1).1
    rw [List.getElem?_append_left hi] at h3
    exact h3), fun a h => h⟩
  refine ⟨⟨by simp [r.len], ?_, ?_, fun a h => ⟨(r.l0 a (.inl h)).1, fun z => ?_⟩, r.tabs⟩, ?_, own_b⟩
  · intro i j b c d h1 h2 h3 h4 h5 h6
    rcases back i c b h1 h5 with ⟨e1, e2⟩ | ⟨ei, _, eb⟩
    · rcases back j d b h3 h6 with ⟨f1, f2⟩ | ⟨_, _, fb⟩
      · exact r.nd i j b c d e1 h2 f1 h4 e2 f2
      · subst fb; exact absurd ⟨i, c, e1, h2, e2⟩ no
    · rcases back j d b h3 h6 with ⟨f1, f2⟩ | ⟨ej, _, fb⟩
      · subst eb; exact absurd ⟨j, d, f1, h4, f2⟩ no
      · rw [ei, ej]
  · intro m d b h1 h2
    rcases back m d b h1 h2 with ⟨e1, e2⟩ | ⟨_, e1, e2⟩
    · exact CellOk.monoL r mo (fun a z => .inr z) (fun a _ z => hL a z) (r.cell m d b e1 e2) rfl
    · subst e1; subst e2
      exact ⟨vs, e, Reps.monoL r mo (fun a z => .inr z) (fun a _ z => hL a z) ys vs q⟩
  · rcases own_b a z with z | rfl
    · exact (r.l0 a (.inl h)).2 z
    · exact f.out h
  · rw [Rep]
    exact ⟨p, rfl, by rw [← r.len]; simp⟩
/-- a list just laid -/
theorem Fresh.new {ys : List D} {vs : List V} {p : Addr} (r : RelH K ca T L0 ρ hd H) (q : Reps K ρ (Lv L0 ρ hd) H ys vs) (hp : H p = none) : Fresh K ca T L0 ρ hd (upd H p (.lst vs)) ys p ∧ Mono T L0 ρ hd H ρ hd (upd H p (.lst vs)) := by
  have po := Post.alloc r hp (o := .lst vs) (fun ps z => nomatch z)
  have no : ¬ Own ρ hd p := r.notOwn hp
  have hn : ∀ a, Held H a → a ≠ p := fun a ⟨o, e, _⟩ z => by subst z; rw [hp] at e; cases e
  have hL : ∀ a, Held H a → ¬ Lv L0 ρ hd a → ¬ Lv (Plus L0 p) ρ hd a := fun a h z y => z (by
    rcases y with (y | y) | y
    · exact .inl y
    · exact absurd y (hn a h)
    · exact .inr y)
  refine ⟨⟨⟨r.len, r.nd, fun n c a h1 h2 => ?_, fun a h => ?_, po.rel.tabs⟩, fun z => ?_, ⟨vs, upd_same, Reps.monoL r po.toMono (fun a z => .inr z) hL ys vs q⟩⟩, po.toMono⟩
  · by_cases hc : c = .dead
    · subst hc; trivial
    · obtain ⟨u, e, _⟩ := r.own_Held ⟨n, c, h1, hc, h2⟩
      exact CellOk.monoL r po.toMono (fun a z => .inr z) hL (r.cell n c a h1 h2) (by rw [upd_ne (ne_of_none e hp)])
  · rcases h with h | rfl
    · exact po.rel.l0 a h
    · exact ⟨⟨_, upd_same, fun ps z => nomatch z⟩, no⟩
  · obtain ⟨o, e, _⟩ := (r.l0 p z).1
    rw [hp] at e; cases e
end
section
variable (K : PySem.W.Frag) (ca : Nat → Addr) (T : List (Addr × Str))
/-- a reading: a list that nobody else holds -/
def rdF (W : WX) (m : Sl → M (List D)) : TE := fun σ H Q => ∃ L0 ρ σd hd, RelH K ca T L0 ρ hd H ∧ RelS K ρ (Lv L0 ρ hd) H σd σ ∧
  (match m σd hd with
    | none => False
    | some (.ok ys, hd') => ∀ ρ' H' p, Mono T L0 ρ hd H ρ' hd' H' → ¬ Held H p → Fresh K ca T L0 ρ' hd' H' ys p → Q (.ref p) H'
    | some (.ex c pl, hd') => ∀ ρ' H' d, Post K ca T L0 ρ hd H ρ' hd' H' → ExOk K ρ' (Lv L0 ρ' hd') H' pl d → W (.ref (ca c)) d σ H')
end
section
variable {Z : Cx} {ca : Nat → Addr} {T : List (Addr × Str)} {W : WX}
abbrev pF (Z : Cx) (ca : Nat → Addr) (T : List (Addr × Str)) (W : WX) (e : Expr) (m : Sl → M (List D)) : Prop := PE Z e (rdF Z.K ca T W m)
/-- as a value -/
theorem val_red {K : PySem.W.Frag} {m : Sl → M (List D)} {σ : L2.St} {H : Hp} {Q : VK} (h : rdV K ca T W (fun σ => bnd (m σ) fun xs => ret (.lst xs)) σ H Q) : rdF K ca T W m σ H Q := by
  obtain ⟨L0, ρ, σd, hd, r, rs, f⟩ := h
  refine ⟨L0, ρ, σd, hd, r, rs, ?_⟩
  unfold Fin bnd at f
  cases e : m σd hd with
  | none => simp only [e] at f
  | some q =>
    obtain ⟨q, hd'⟩ := q
    simp only [e] at f
    cases q with
    | ex c pl => exact f
    | ok ys => exact fun ρ' H' p mo hp fr => f ρ' H' ⟨mo, fr.lst.1⟩ _ fr.lst.2
/-- as a place of ours -/
theorem own_red {K : PySem.W.Frag} {m : Sl → M (List D)} {σ : L2.St} {H : Hp} {Q : VK} (h : rdV K ca T W (fun σ => bnd (m σ) fun xs => fun h => some (.ok (.loc h.length), h ++ [.lst xs])) σ H Q) : rdF K ca T W m σ H Q := by
  obtain ⟨L0, ρ, σd, hd, r, rs, f⟩ := h
  refine ⟨L0, ρ, σd, hd, r, rs, ?_⟩
  unfold Fin bnd at f
  cases e : m σd hd with
  | none => simp only [e] at f
  | some q =>
    obtain ⟨q, hd'⟩ := q
    simp only [e] at f
    cases q with
    | ex c pl => exact f
    | ok ys =>
      intro ρ' H' p mo hp fr
      obtain ⟨r1, r2, r3⟩ := fr.own
      refine f (ρ' ++ [p]) H' ⟨⟨?_, mo.keep, fun a h => ?_, mo.held⟩, r1⟩ _ r2
      · obtain ⟨m, e⟩ := mo.ext
        exact ⟨m ++ [p], by rw [e, List.append_assoc]⟩
      · rcases r3 a h with h | rfl
        · exact mo.fresh a h
        · exact .inr hp
theorem pF.val {e : Expr} {m : Sl → M (List D)} (h : pF Z ca T W e m) : pX Z ca T W e (fun σ => bnd (m σ) fun xs => ret (.lst xs)) := PE.imp h fun σ H Q h => val_red h
theorem pF.own {e : Expr} {m : Sl → M (List D)} (h : pF Z ca T W e m) : pX Z ca T W e (fun σ => bnd (m σ) fun xs => fun h => some (.ok (.loc h.length), h ++ [.lst xs])) := PE.imp h fun σ H Q h => own_red h
/-- a rule that lays a list at its end -/
theorem pF_of {e : Expr} {t : TE} {m : Sl → M (List D)} (h : PE Z e t) (i : ∀ σ H Q, rdVs Z.K ca T W m σ H (fun vs H1 => ∀ p, H1 p = none → Q (.ref p) (upd H1 p (.lst vs))) → t σ H Q) : pF Z ca T W e m := by
  refine PE.imp h fun σ H Q h => i σ H Q ?_
  obtain ⟨L0, ρ, σd, hd, r, rs, f⟩ := h
  refine ⟨L0, ρ, σd, hd, r, rs, ?_⟩
  unfold Fin
  cases e : m σd hd with
  | none => rw [e] at f; exact f
  | some q =>
    obtain ⟨q, hd'⟩ := q
    rw [e] at f
    cases q with
    | ex c pl => exact f
    | ok ys =>
      intro ρ' H' po vs rv p hp
      obtain ⟨f1, m1⟩ := Fresh.new po.rel rv hp
      refine f ρ' _ p (po.toMono.trans m1) (fun z => ?_) f1
      obtain ⟨o, e, _⟩ := po.held p z
      rw [hp] at e; cases e
theorem sF_lst {es : List Expr} {mr : Sl → M (List D)} {pos : Pos} (hr : pA Z ca T W es mr) : pF Z ca T W (.List es pos) (fun σ => bnd (mr σ) fun vs => if vs.length ≤ szL then ret vs else stuck) := by
  refine pF_of (pe_lst hr) fun σ H Q h => ?_
  obtain ⟨L0, ρ, σd, hd, rh, rs, fn⟩ := h
  refine ⟨L0, ρ, σd, hd, rh, rs, Fin.imp (Fin.bnd fn) fun ρ1 hd1 H1 xs p1 f1 vs rvs => ?_⟩
  by_cases hz : xs.length ≤ szL
  · rw [if_pos hz] at f1
    exact ⟨by rw [← rvs.length, ← szL_eq]; exact hz, Fin.ret p1.rel f1 vs rvs⟩
  · rw [if_neg hz] at f1; exact False.elim f1
theorem sF_list {a : Expr} {ma : Sl → M D} {pos p2 : Pos} {x : Str} (hg : Gl Z x) (hm : Z.mg x = none) (hv : bootBuiltins x = some (.type "list")) (hn : x ≠ "__name__") (hdb : (x == ("__debug__" : Str)) = false) (ha : pX Z ca T W a ma)
    (he : starEach [a] Z.env = (false, eval a Z.env) :: starEach [] Z.env) (hpl : (backTo pos (starEach [] Z.env)).any (·.1) = false) :
    pF Z ca T W (.Call (.Name x p2) [a] [] pos) (fun σ => bnd (ma σ) fun x => fun h => opt (seqD h x) h) := by
  refine pF_of (pe_callTy call_list_of hg hm hv (pa_cons ha pa_nil he) hn hdb he hpl) fun σ H Q h => ?_
  obtain ⟨L0, ρ, σd, hd, rh, rs, fn⟩ := h
  refine ⟨L0, ρ, σd, hd, rh, rs, Fin.imp (Fin.bnd fn) fun ρ1 hd1 H1 d p1 f1 v rv => ?_⟩
  cases hs : seqD hd1 d with
  | none => rw [hs] at f1; exact False.elim f1
  | some xs =>
    rw [hs] at f1
    obtain ⟨p, ws, rfl, h1, h3⟩ := seq_of p1.rel rv hs
    exact ⟨p, ws, rfl, h1, Fin.ret p1.rel f1 ws h3⟩
end
end Ev

set_option Elab.async false
set_option linter.all false
set_option maxRecDepth 100000
set_option maxHeartbeats 4000000
/-! Ev3e: methods of lists, tuples, texts; isinstance; starred items. -/
namespace Ev
open PySem L2 PyProof.Rows
def tyW (K : PySem.W.Frag) (T : String) (x : V) (H : Hp) : Prop := tyV K T x H ∨ (T = "tuple" ∧ ∃ p vs, x = .ref p ∧ TpS K H p vs)
section
variable {X : Cx} {pins : List (Addr × Obj)} {σ : L2.St} {H : Hp} {s : Shared}
theorem tyW_is {T : String} {x : V} {v : Value} (I : Inv X pins σ H s) (r : RelV x v) (ty : tyW X.K T x H) :
    s.TypeIs v T ∧ ∀ a, v = .ref a → ∃ ob, s.heap.get? a = some ob ∧ ob.dict = none := by
  rcases ty with ty | ⟨rfl, p, vs, rfl, h⟩
  · exact tyV_is I r ty
  · cases r
    rcases h with ⟨o, ho, h⟩ | ⟨o, its, n, h1, h2, h3, h4⟩
    · obtain ⟨e, _, _, _, o2, e2, c2, _⟩ := I.hok p _ h
      rw [e] at e2; cases e2
      exact ⟨⟨o, e, c2⟩, fun a z => by cases z; exact ⟨o, e, ho⟩⟩
    · exact ⟨⟨o, I.kIn p o h1, h3⟩, fun a z => by cases z; exact ⟨o, I.kIn p o h1, h2⟩⟩
variable {o e : Expr} {es : List Expr} {to : TE} {t : TA} {name : Str} {apos cpos : Pos} {T id : String} {r : V → List V → Hp → VK → Prop}
theorem pe_bmW0 (pa : PlainAttrs T) (slot : Slot T name id) (hty : typeOf (.builtin id) = pure (.type "method_descriptor")) (hm : MtR X id r) (ho : PE X o to)
    (hbase : attributeBase o name X.env (eval o X.env) = eval o X.env) (hline : (apos.endLine == cpos.line) = true) : PE X (.Call (.Attribute o name apos) [] [] cpos) (fun σ H Q => to σ H fun x H1 => tyW X.K T x H1 ∧ r x [] H1 Q) := by
  refine ⟨fun pins s σ H Q I h => ?_⟩
  refine wpAny_Call_method0_late hbase hline (thn (ho.run pins s σ H _ I h) fun v s1 ⟨x, H1, I1, r1, ty, q1⟩ => ?_)
  obtain ⟨h1, h2⟩ := tyW_is I1 r1 ty
  exact ⟨T, id, pa, slot, hty, h1, h2, Calls.callWith_builtin rfl (PySem.evalArgs_none (hm pins s1 σ H1 x [] v [] Q I1 r1 .nil q1))⟩
theorem pe_bmW (pa : PlainAttrs T) (slot : Slot T name id) (hty : typeOf (.builtin id) = pure (.type "method_descriptor")) (hm : MtR X id r) (ho : PE X o to) (ha : PA X (e :: es) t)
    (hbase : attributeBase o name X.env (eval o X.env) = eval o X.env)
    (hfew : ((backTo cpos (starEach (e :: es) X.env)).all (fun x => !x.1) && (backToKw cpos (keywordEach [] X.env)).all (fun x => x.1.isSome)
      && decide ((e :: es).length + ([] : List Keyword).length + (if ([] : List Keyword).isEmpty then 0 else 1) < 30)) = true)
    (hline : (apos.endLine == cpos.line) = true) (hs : starEach (e :: es) X.env = (false, eval e X.env) :: starEach es X.env) (hplain : (backTo cpos (starEach es X.env)).any (·.1) = false) :
    PE X (.Call (.Attribute o name apos) (e :: es) [] cpos) (fun σ H Q => to σ H fun x H1 => tyW X.K T x H1 ∧ t σ H1 fun xs H2 => r x xs H2 Q) := by
  refine ⟨fun pins s σ H Q I h => ?_⟩
  refine wpAny_Call_method_late hbase hfew hline rfl (thn (ho.run pins s σ H _ I h) fun v s1 ⟨x, H1, I1, r1, ty, q1⟩ => ?_)
  obtain ⟨h1, h2⟩ := tyW_is I1 r1 ty
  refine ⟨T, id, pa, slot, hty, h1, h2, ?_⟩
  have hA := ha.run cpos pins s1 σ H1 _ I1 q1
  rw [hs] at hA ⊢
  refine Calls.callWith_builtin (by show (false || (backTo cpos (starEach es X.env)).any (·.1)) = false; rw [hplain] <;> rfl) (Calls.evalArgs_plain ?_)
  exact thn hA fun us s2 ⟨vs, H2, I2, r2, q2⟩ => hm pins s2 σ H2 x vs v us Q I2 r1 r2 q2
theorem mt_tindex : MtR X "tuple.index" (fun x xs H Q => ∃ (p : Addr) (ns : List Int) (k : Int), x = .ref p ∧ xs = [.int k] ∧ SqT X.K H p (ns.map V.int) ∧ k ∈ ns ∧ Q (.int (ns.idxOf k : Nat)) H) := by
  intro pins s σ H x xs v us Q I rx rs h
  obtain ⟨p, ns, k, rfl, rfl, hp, hk, h⟩ := h
  cases rx
  obtain ⟨u, rfl, t, rfl⟩ := vals1 rs
  obtain ⟨its, r, ht, _⟩ := I.tuple hp
  exact SeqAt.tuple_index_ints (vs := its) (show s.heap.IsTuple p its.toArray from ht) (intsAre_of r) hk ⟨.int (ns.idxOf k : Nat), H, I.tok _, ⟨_, rfl⟩, h⟩
end
theorem MtR.imp {X : Cx} {id : String} {r r' : V → List V → Hp → VK → Prop} (h : MtR X id r) (i : ∀ x xs H Q, r' x xs H Q → r x xs H Q) : MtR X id r' :=
  fun pins s σ H x xs v us Q I rx rs q => h pins s σ H x xs v us Q I rx rs (i x xs H Q q)
theorem MtR.orM {X : Cx} {id : String} {r r' : V → List V → Hp → VK → Prop} (h : MtR X id r) (h' : MtR X id r') : MtR X id (fun x xs H Q => r x xs H Q ∨ r' x xs H Q) :=
  fun pins s σ H x xs v us Q I rx rs q => q.elim (h pins s σ H x xs v us Q I rx rs) (h' pins s σ H x xs v us Q I rx rs)
def miT : Mi → String
  | .append | .extend | .pop => "list"
  | .index => "tuple"
  | .join | .split | .sindex => "str"
def miN : Mi → Str
  | .append => "append" | .extend => "extend" | .pop => "pop" | .index => "index" | .join => "join" | .split => "split" | .sindex => "index"
def miI : Mi → String
  | .append => "list.append" | .extend => "list.extend" | .pop => "list.pop" | .index => "tuple.index" | .join => "str.join" | .split => "str.split" | .sindex => "str.index"
section
variable {Z : Cx} (ca : Nat → Addr) (T : List (Addr × Str))
def rdMb (K : PySem.W.Frag) (m : Mi) : V → List V → Hp → VK → Prop := fun x xs H Q => ∃ L0 ρ hd dx ds, RelH K ca T L0 ρ hd H ∧ Rep K ρ (Lv L0 ρ hd) H dx x ∧ Reps K ρ (Lv L0 ρ hd) H ds xs ∧
  match mbD m dx ds hd with
  | some (.ok d, hd') => ∀ ρ' H' v, Post K ca T L0 ρ hd H ρ' hd' H' → Rep K ρ' (Lv L0 ρ' hd') H' d v → Q v H'
  | _ => False
variable {ca T}
/-- our list is written -/
theorem lst_write {K : PySem.W.Frag} {L0 : Addr → Prop} {ρ : List Addr} {hd : Hd} {H : Hp} {n : Nat} {a : Addr} {xs ys : List D} {ws : List V} (r : RelH K ca T L0 ρ hd H) (hn : hd[n]? = some (.lst xs)) (ha : ρ[n]? = some a) (h : Reps K ρ (Lv L0 ρ hd) H ys ws) :
    Post K ca T L0 ρ hd H ρ (hd.set n (.lst ys)) (upd H a (.lst ws)) :=
  Post.write r hn (fun z => nomatch z) ha (fun z => nomatch z) (fun ps z => nomatch z) fun ρ' hd' H' mo e => ⟨ws, e, Reps.mono r mo ys ws h⟩
theorem loc_lst {K : PySem.W.Frag} {L0 : Addr → Prop} {ρ : List Addr} {hd : Hd} {H : Hp} {n : Nat} {xs : List D} {x : V} (r : RelH K ca T L0 ρ hd H) (hx : Rep K ρ (Lv L0 ρ hd) H (.loc n) x) (hn : hd[n]? = some (.lst xs)) : ∃ a vs, x = .ref a ∧ ρ[n]? = some a ∧ H a = some (.lst vs) ∧ Reps K ρ (Lv L0 ρ hd) H xs vs := by
  rw [Rep] at hx
  obtain ⟨a, rfl, h1⟩ := hx
  obtain ⟨vs, h2, h3⟩ := r.cell n _ a hn h1
  exact ⟨a, vs, rfl, h1, h2, h3⟩
theorem ok_append : MtR Z "list.append" (rdMb ca T Z.K .append) := by
  refine MtR.imp (mt_append (X := Z)) fun x xs H Q h => ?_
  obtain ⟨L0, ρ, hd, dx, ds, r, rx, rs, h⟩ := h
  match dx, ds, h, rx, rs with
  | .loc n, [d], h, rx, rs =>
    simp only [mbD] at h
    cases hn : hd[n]? with
    | none => simp only [hn] at h
    | some c =>
      cases c with
      | lst ys =>
        simp only [hn] at h
        by_cases hz : ys.length < szL
        · rw [if_pos hz] at h
          obtain ⟨v, rfl, rv⟩ := reps1 rs
          obtain ⟨a, vs, rfl, h1, h2, h3⟩ := loc_lst r rx hn
          refine ⟨a, vs, v, rfl, rfl, h2, by rw [← h3.length, ← szL_eq]; exact hz, ?_⟩
          exact h _ _ _ (lst_write r hn h1 (h3.append (by rw [Reps]; exact ⟨v, [], rfl, rv, by simp [Reps]⟩))) (by simp [Rep])
        · rw [if_neg hz] at h; exact False.elim h
      | ins c fs => simp only [hn] at h
      | dead => simp only [hn] at h
  | .loc n, [], h, rx, rs => exact False.elim h
  | .loc n, _ :: _ :: _, h, rx, rs => exact False.elim h
  | .non, _, h, rx, rs | .bl _, _, h, rx, rs | .int _, _, h, rx, rs | .str _, _, h, rx, rs | .tup _, _, h, rx, rs | .wtp _, _, h, rx, rs | .lst _, _, h, rx, rs | .ro _, _, h, rx, rs => simp [mbD] at h
theorem ok_extend : MtR Z "list.extend" (rdMb ca T Z.K .extend) := by
  refine MtR.imp (mt_extend (X := Z)) fun x xs H Q h => ?_
  obtain ⟨L0, ρ, hd, dx, ds, r, rx, rs, h⟩ := h
  match dx, ds, h, rx, rs with
  | .loc n, [.lst zs], h, rx, rs =>
    simp only [mbD] at h
    cases hn : hd[n]? with
    | none => simp only [hn] at h
    | some c =>
      cases c with
      | lst ys =>
        simp only [hn] at h
        by_cases hz : ys.length + zs.length ≤ szL
        · rw [if_pos hz] at h
          obtain ⟨v, rfl, rv⟩ := reps1 rs
          rw [Rep] at rv
          obtain ⟨b, ws, rfl, g1, _, g3⟩ := rv
          obtain ⟨a, vs, rfl, h1, h2, h3⟩ := loc_lst r rx hn
          refine ⟨a, b, vs, ws, rfl, rfl, h2, g1, by rw [← h3.length, ← g3.length, ← szL_eq]; exact hz, ?_⟩
          exact h _ _ _ (lst_write r hn h1 (h3.append g3)) (by simp [Rep])
        · rw [if_neg hz] at h; exact False.elim h
      | ins c fs => simp only [hn] at h
      | dead => simp only [hn] at h
  | .loc n, [], h, rx, rs => simp [mbD] at h
  | .loc n, _ :: _ :: _, h, rx, rs => simp [mbD] at h
  | .loc n, [.non], h, rx, rs | .loc n, [.bl _], h, rx, rs | .loc n, [.int _], h, rx, rs | .loc n, [.str _], h, rx, rs | .loc n, [.tup _], h, rx, rs | .loc n, [.wtp _], h, rx, rs | .loc n, [.ro _], h, rx, rs | .loc n, [.loc _], h, rx, rs => simp [mbD] at h
  | .non, _, h, rx, rs | .bl _, _, h, rx, rs | .int _, _, h, rx, rs | .str _, _, h, rx, rs | .tup _, _, h, rx, rs | .wtp _, _, h, rx, rs | .lst _, _, h, rx, rs | .ro _, _, h, rx, rs => simp [mbD] at h
theorem ok_pop : MtR Z "list.pop" (rdMb ca T Z.K .pop) := by
  refine MtR.imp (MtR.orM (mt_pop (X := Z)) mt_popAt) fun x xs H Q h => ?_
  obtain ⟨L0, ρ, hd, dx, ds, r, rx, rs, h⟩ := h
  match dx, ds, h, rx, rs with
  | .loc n, [], h, rx, rs =>
    simp only [mbD] at h
    cases hn : hd[n]? with
    | none => simp only [hn] at h
    | some c =>
      cases c with
      | lst ys =>
        simp only [hn] at h
        cases hl : ys.getLast? with
        | none => simp only [hl] at h
        | some y =>
          simp only [hl] at h
          rw [Reps] at rs; subst rs
          obtain ⟨a, vs, rfl, h1, h2, h3⟩ := loc_lst r rx hn
          rw [List.getLast?_eq_getElem?] at hl
          obtain ⟨w, e1, e2⟩ := h3.get hl
          refine .inl ⟨a, vs, w, rfl, rfl, h2, by rw [← h3.length]; exact e1, ?_⟩
          have po := lst_write r hn h1 h3.dropLast
          exact h _ _ _ po (Rep.keep r po _ _ e2)
      | ins c fs => simp only [hn] at h
      | dead => simp only [hn] at h
  | .loc n, [.int i], h, rx, rs =>
    simp only [mbD] at h
    cases hn : hd[n]? with
    | none => simp only [hn] at h
    | some c =>
      cases c with
      | lst ys =>
        simp only [hn] at h
        cases hl : Ev.ixN ys.length i with
        | none => simp only [hl] at h
        | some k =>
          simp only [hl] at h
          cases hy : ys[k]? with
          | none => simp only [hy] at h
          | some y =>
            simp only [hy] at h
            obtain ⟨v, rfl, rv⟩ := reps1 rs
            rw [Rep] at rv; subst rv
            obtain ⟨a, vs, rfl, h1, h2, h3⟩ := loc_lst r rx hn
            obtain ⟨w, e1, e2⟩ := h3.get hy
            have hl2 : L2.ixN vs.length i = some k := by rw [← h3.length]; exact hl
            obtain ⟨q1, q2, q3, q4⟩ := ixN_seq hl2
            by_cases hz : ys.length ≤ szL
            · have hz' : vs.length ≤ 16777216 := by rw [← h3.length]; exact hz
              refine .inr ⟨a, vs, i, k, w, rfl, rfl, h2, by omega, by omega, q1, e1, ?_⟩
              have po := lst_write r hn h1 (h3.eraseIdx k)
              rw [if_pos hz] at h
              exact h _ _ _ po (Rep.keep r po _ _ e2)
            · rw [if_neg hz] at h; exact False.elim h
      | ins c fs => simp only [hn] at h
      | dead => simp only [hn] at h
  | .loc n, _ :: _ :: _, h, rx, rs => simp [mbD] at h
  | .loc n, [.non], h, rx, rs | .loc n, [.bl _], h, rx, rs | .loc n, [.lst _], h, rx, rs | .loc n, [.str _], h, rx, rs | .loc n, [.tup _], h, rx, rs | .loc n, [.wtp _], h, rx, rs | .loc n, [.ro _], h, rx, rs | .loc n, [.loc _], h, rx, rs => simp [mbD] at h
  | .non, _, h, rx, rs | .bl _, _, h, rx, rs | .int _, _, h, rx, rs | .str _, _, h, rx, rs | .tup _, _, h, rx, rs | .wtp _, _, h, rx, rs | .lst _, _, h, rx, rs | .ro _, _, h, rx, rs => simp [mbD] at h
theorem ok_index : MtR Z "tuple.index" (rdMb ca T Z.K .index) := by
  refine MtR.imp (mt_tindex (X := Z)) fun x xs H Q h => ?_
  obtain ⟨L0, ρ, hd, dx, ds, r, rx, rs, h⟩ := h
  match dx, ds, h, rx, rs with
  | .tup ys, [.int k], h, rx, rs =>
    simp only [mbD] at h
    cases hn : Ev.allI ys with
    | none => simp only [hn] at h
    | some ns =>
      simp only [hn] at h
      by_cases hk : ns.contains k = true
      · rw [if_pos hk] at h
        obtain ⟨v, rfl, rv⟩ := reps1 rs
        rw [Rep] at rx
        rw [Rep] at rv; subst rv
        obtain ⟨p, vs, rfl, h1, h2⟩ := rx
        have e := h2.ints hn
        subst e
        exact ⟨p, ns, k, rfl, rfl, h1.sq, by simpa using hk, h _ _ _ (Post.refl r) (by simp [Rep])⟩
      · rw [if_neg hk] at h; exact False.elim h
  | .tup _, [], h, rx, rs => simp [mbD] at h
  | .tup _, _ :: _ :: _, h, rx, rs => simp [mbD] at h
  | .tup n, [.non], h, rx, rs | .tup n, [.bl _], h, rx, rs | .tup n, [.lst _], h, rx, rs | .tup n, [.str _], h, rx, rs | .tup n, [.tup _], h, rx, rs | .tup n, [.wtp _], h, rx, rs | .tup n, [.ro _], h, rx, rs | .tup n, [.loc _], h, rx, rs => simp [mbD] at h
  | .non, _, h, rx, rs | .bl _, _, h, rx, rs | .int _, _, h, rx, rs | .str _, _, h, rx, rs | .loc _, _, h, rx, rs | .wtp _, _, h, rx, rs | .lst _, _, h, rx, rs | .ro _, _, h, rx, rs => simp [mbD] at h
end
end Ev

set_option Elab.async false
set_option linter.all false
set_option maxRecDepth 100000
set_option maxHeartbeats 4000000
/-! Ev3f: join, isinstance, starred items, methods called. -/
namespace Ev
open PySem L2 PyProof.Rows
theorem joinS_flat (sep : Nm) : ∀ (x : Nm) (ts : List Nm), joinS sep (x :: ts) = x ++ (ts.map fun t => sep ++ t).flatten
  | x, [] => by simp [joinS]
  | x, y :: r => by
    rw [joinS, joinS_flat sep y r]
    · simp
    · intro z; cases z
theorem foldl_glue (sep : Nm) : ∀ (ts : List Nm) (x : Nm), (ts.map St).foldl (fun (acc : Array Nat) p => acc ++ (St sep).cps ++ p.cps) x.toArray = (x ++ (ts.map fun t => sep ++ t).flatten).toArray
  | [], x => by simp
  | t :: ts, x => by
    rw [List.map_cons, List.foldl_cons]
    have e : x.toArray ++ (St sep).cps ++ (St t).cps = (x ++ sep ++ t).toArray := by simp [St]
    rw [e, foldl_glue sep ts]
    simp
theorem glue_ok (sep : Nm) (ts : List Nm) : Txt.join (St sep) (ts.map St) = St (joinS sep ts) := by
  cases ts with
  | nil => rfl
  | cons x r =>
    show (⟨(r.map St).foldl (fun (acc : Array Nat) p => acc ++ (St sep).cps ++ p.cps) x.toArray⟩ : Str) = _
    rw [foldl_glue, joinS_flat]
    rfl
section
variable {Z : Cx} {ca : Nat → Addr} {T : List (Addr × Str)}
theorem ok_joinM : MtR Z "str.join" (rdMb ca T Z.K .join) := by
  refine MtR.imp (mt_join (X := Z)) fun x xs H Q h => ?_
  obtain ⟨L0, ρ, hd, dx, ds, r, rx, rs, h⟩ := h
  match dx, ds, h, rx, rs with
  | .str sep, [y], h, rx, rs =>
    simp only [mbD] at h
    obtain ⟨v, rfl, rv⟩ := reps1 rs
    rw [Rep] at rx; subst rx
    cases hs : see hd y with
    | lst ys =>
      simp only [hs] at h
      cases hn : allS ys with
      | none => simp only [hn] at h
      | some ts =>
        simp only [hn] at h
        by_cases hz : (ts.map List.length).sum + ts.length * sep.length ≤ 16777216
        · rw [if_pos hz] at h
          obtain ⟨p, vs, rfl, h2, h3⟩ := see_lst r rv hs
          have e := h3.strs hn
          subst e
          refine ⟨St sep, p, ts.map St, rfl, rfl, .inl (SqL.of h2), ?_, ?_⟩
          · have e1 : (ts.map St).map (·.length) = ts.map List.length := by
              rw [List.map_map]
              exact List.map_congr_left fun t _ => St_length t
            rw [e1, List.length_map, St_length]
            exact hz
          · have e2 : Txt.join (St sep) (ts.map St) = St (joinS sep ts) := glue_ok sep ts
            rw [e2]
            exact h _ _ _ (Post.refl r) (by simp [Rep])
        · rw [if_neg hz] at h; exact False.elim h
    | _ => simp only [hs] at h
  | .str _, [], h, rx, rs => simp [mbD] at h
  | .str _, _ :: _ :: _, h, rx, rs => simp [mbD] at h
  | .non, _, h, rx, rs | .bl _, _, h, rx, rs | .int _, _, h, rx, rs | .tup _, _, h, rx, rs | .loc _, _, h, rx, rs | .wtp _, _, h, rx, rs | .lst _, _, h, rx, rs | .ro _, _, h, rx, rs => simp [mbD] at h
/-- the kind of thing, as the layer says it -/
theorem tyMb_ok {K : PySem.W.Frag} {L0 : Addr → Prop} {ρ : List Addr} {hd : Hd} {H : Hp} {m : Mi} {x : D} {v : V} (r : RelH K ca T L0 ρ hd H) (h : tyMb m hd x = true) (rv : Rep K ρ (Lv L0 ρ hd) H x v) : tyW K (miT m) v H := by
  have lst : ∀ n, x = .loc n → (∃ xs, hd[n]? = some (.lst xs)) → tyW K "list" v H := fun n e ⟨xs, hn⟩ => by
    subst e
    obtain ⟨a, vs, rfl, _, h2, _⟩ := loc_lst r rv hn
    exact .inl (.inl ⟨rfl, vs, SqL.of h2⟩)
  have get : ∀ n : Nat, (match hd[n]? with | some (Cell.lst _) => true | _ => false) = true → ∃ xs, hd[n]? = some (Cell.lst xs) := fun n e => by
    split at e
    · rename_i xs e2; exact ⟨xs, e2⟩
    · cases e
  cases m <;> cases x <;> simp only [tyMb] at h <;> first
    | (cases h; done)
    | exact lst _ rfl (get _ h)
    | (rw [Rep] at rv; subst rv; exact .inl rfl)
    | (rw [Rep] at rv; obtain ⟨a, vs, rfl, h1, _⟩ := rv; exact .inr ⟨rfl, a, vs, rfl, h1⟩)
variable {W : WX} {a b c o : Expr} {ma mb mc mo : Sl → M D} {pos p2 apos : Pos} {es : List Expr} {mr mk : Sl → M (List D)} {m : Mi} {x : Str}
theorem mb_end {L0 : Addr → Prop} {ρ : List Addr} {hd : Hd} {H : Hp} {W : Wish} {Q : VK} {dx : D} {ds : List D} {v : V} {vs : List V} (r : RelH Z.K ca T L0 ρ hd H) (rx : Rep Z.K ρ (Lv L0 ρ hd) H dx v) (rs : Reps Z.K ρ (Lv L0 ρ hd) H ds vs)
    (f : Fin Z.K ca T W L0 ρ hd H (mbD m dx ds hd) (fun ρ' hd' H' a => ∀ b, Rep Z.K ρ' (Lv L0 ρ' hd') H' a b → Q b H')) (hne : ∀ c pl h', mbD m dx ds hd ≠ some (.ex c pl, h')) : rdMb ca T Z.K m v vs H Q := by
  refine ⟨L0, ρ, hd, dx, ds, r, rx, rs, ?_⟩
  unfold Fin at f
  cases e : mbD m dx ds hd with
  | none => rw [e] at f; exact f
  | some q =>
    obtain ⟨q, hd'⟩ := q
    cases q with
    | ok d => rw [e] at f; exact fun ρ' H' v p h => f ρ' H' p v h
    | ex c pl => exact absurd e (hne c pl hd')
theorem mbD_ex (m : Mi) (dx : D) (ds : List D) (hd : Hd) : ∀ c pl h', mbD m dx ds hd ≠ some (.ex c pl, h') := by
  intro c pl h' e
  unfold mbD at e
  repeat' split at e
  all_goals cases e
theorem s_mb (pa : PlainAttrs (miT m)) (slot : Slot (miT m) (miN m) (miI m)) (hty : typeOf (.builtin (miI m)) = pure (.type "method_descriptor")) (hm : MtR Z (miI m) (rdMb ca T Z.K m)) (ho : pX Z ca T W o mo) (ha : pA Z ca T W (a :: es) mr)
    (hbase : attributeBase o (miN m) Z.env (eval o Z.env) = eval o Z.env)
    (hfew : ((backTo pos (starEach (a :: es) Z.env)).all (fun x => !x.1) && (backToKw pos (keywordEach [] Z.env)).all (fun x => x.1.isSome)
      && decide ((a :: es).length + ([] : List Keyword).length + (if ([] : List Keyword).isEmpty then 0 else 1) < 30)) = true)
    (hline : (apos.endLine == pos.line) = true) (hs : starEach (a :: es) Z.env = (false, eval a Z.env) :: starEach es Z.env) (hplain : (backTo pos (starEach es Z.env)).any (·.1) = false) :
    pX Z ca T W (.Call (.Attribute o (miN m) apos) (a :: es) [] pos) (fun σ => bnd (mo σ) fun x => fun h => if tyMb m h x then bnd (mr σ) (fun vs => mbD m x vs) h else none) := by
  refine PE.imp (pe_bmW pa slot hty hm ho ha hbase hfew hline hs hplain) fun σ H Q h => ?_
  obtain ⟨L0, ρ, σd, hd, rh, rs, fn⟩ := h
  refine ⟨L0, ρ, σd, hd, rh, rs, Fin.imp (Fin.bnd fn) fun ρ1 hd1 H1 x p1 f1 v rv => ?_⟩
  by_cases ht : tyMb m hd1 x = true
  · rw [if_pos ht] at f1
    refine ⟨tyMb_ok p1.rel ht rv, L0, ρ1, σd, hd1, p1.rel, rs.keep rh p1, Fin.imp (Fin.bnd f1) fun ρ2 hd2 H2 xs p2 f2 vs rvs => ?_⟩
    exact mb_end p2.rel (Rep.keep p1.rel p2 x v rv) rvs f2 (mbD_ex m x xs hd2)
  · rw [if_neg ht] at f1; exact False.elim f1
theorem s_mb0 (pa : PlainAttrs (miT m)) (slot : Slot (miT m) (miN m) (miI m)) (hty : typeOf (.builtin (miI m)) = pure (.type "method_descriptor")) (hm : MtR Z (miI m) (rdMb ca T Z.K m)) (ho : pX Z ca T W o mo)
    (hbase : attributeBase o (miN m) Z.env (eval o Z.env) = eval o Z.env) (hline : (apos.endLine == pos.line) = true) :
    pX Z ca T W (.Call (.Attribute o (miN m) apos) [] [] pos) (fun σ => bnd (mo σ) fun x => fun h => if tyMb m h x then bnd (ret []) (fun vs => mbD m x vs) h else none) := by
  refine PE.imp (pe_bmW0 pa slot hty hm ho hbase hline) fun σ H Q h => ?_
  obtain ⟨L0, ρ, σd, hd, rh, rs, fn⟩ := h
  refine ⟨L0, ρ, σd, hd, rh, rs, Fin.imp (Fin.bnd fn) fun ρ1 hd1 H1 x p1 f1 v rv => ?_⟩
  by_cases ht : tyMb m hd1 x = true
  · rw [if_pos ht] at f1
    exact ⟨tyMb_ok p1.rel ht rv, mb_end p1.rel rv (by simp [Reps]) f1 (mbD_ex m x [] hd1)⟩
  · rw [if_neg ht] at f1; exact False.elim f1
/-- *a, .. -/
theorem s_astar (ha : pX Z ca T W a ma) (hr : pA Z ca T W es mr) (hs : starEach (.Starred a p2 :: es) Z.env = (true, eval a Z.env) :: starEach es Z.env) :
    pA Z ca T W (.Starred a p2 :: es) (fun σ => bnd (ma σ) fun x => fun h => match seqD h x with | some ys => bnd (mr σ) (fun xs => ret (ys ++ xs)) h | none => none) := by
  refine PA.imp (StX.pa_star ha hr hs) fun σ H Q h => ?_
  obtain ⟨L0, ρ, σd, hd, rh, rs, fn⟩ := h
  refine ⟨L0, ρ, σd, hd, rh, rs, Fin.imp (Fin.bnd fn) fun ρ1 hd1 H1 x p1 f1 v rv => ?_⟩
  cases he : seqD hd1 x with
  | none => simp only [he] at f1; exact False.elim f1
  | some ys =>
    simp only [he] at f1
    obtain ⟨p, ws, rfl, h1, h3⟩ := seq_of p1.rel rv he
    refine ⟨p, ws, rfl, h1.symm, L0, ρ1, σd, hd1, p1.rel, rs.keep rh p1, Fin.imp (Fin.bnd f1) fun ρ2 hd2 H2 xs p2 f2 vs rvs => ?_⟩
    exact Fin.ret p2.rel f2 (ws ++ vs) ((Reps.keep p1.rel p2 _ _ h3).append rvs)
/-! ### isinstance -/
def tyStr : Ty → String
  | .non => "NoneType" | .bl => "bool" | .int => "int" | .str => "str" | .tup => "tuple" | .lst => "list"
theorem tyX_of {K : PySem.W.Frag} {L0 : Addr → Prop} {ρ : List Addr} {hd : Hd} {H : Hp} {x : D} {v : V} {t : Ty} (r : RelH K ca T L0 ρ hd H) (rv : Rep K ρ (Lv L0 ρ hd) H x v) (h : tyD (see hd x) = some t) : TyX K H v (.type (tyStr t)) := by
  cases hs : see hd x with
  | lst ys =>
    rw [hs] at h; cases h
    obtain ⟨p, vs, rfl, h2, _⟩ := see_lst r rv hs
    exact .base (.lst h2)
  | tup ys =>
    rw [hs] at h; cases h
    have h2 := see_other rv hs (fun _ z => nomatch z)
    rw [Rep] at h2
    obtain ⟨p, vs, rfl, h1, _⟩ := h2
    rcases h1 with ⟨o, _, h1⟩ | ⟨o, its, n, h1, _, h2, _⟩
    · exact .fTuple h1
    · exact .kTuple h1 h2
  | non =>
    rw [hs] at h; cases h
    have h2 := see_other rv hs (fun _ z => nomatch z)
    rw [Rep] at h2; subst h2; exact .base .non
  | bl b =>
    rw [hs] at h; cases h
    have h2 := see_other rv hs (fun _ z => nomatch z)
    rw [Rep] at h2; subst h2; exact .base (.bl b)
  | int b =>
    rw [hs] at h; cases h
    have h2 := see_other rv hs (fun _ z => nomatch z)
    rw [Rep] at h2; subst h2; exact .base (.int b)
  | str b =>
    rw [hs] at h; cases h
    have h2 := see_other rv hs (fun _ z => nomatch z)
    rw [Rep] at h2; subst h2; exact .base (.str _)
  | _ => rw [hs] at h; cases h
def isiStr : Isi → String
  | .int => "int" | .bool => "bool" | .str => "str" | .tuple => "tuple" | .intStr => "" | .cls _ => ""
theorem isi_kit (K : PySem.W.Frag) (k : Isi) (hk : k = .int ∨ k = .bool ∨ k = .str ∨ k = .tuple) (t : Ty) : PySem.W.kitOne K (.type (tyStr t)) (.type (isiStr k)) = some (isiT k t) := by
  have key : ∀ k ∈ [Isi.int, .bool, .str, .tuple], ∀ t ∈ [Ty.non, .bl, .int, .str, .tup, .lst], kitB (tyStr t) (isiStr k) = some (isiT k t) := by decide +kernel
  refine kit_ty (key k (by rcases hk with rfl | rfl | rfl | rfl <;> decide) t (by cases t <;> decide))
theorem s_isi {k : Isi} (hk : k = .int ∨ k = .bool ∨ k = .str ∨ k = .tuple) (hg : Gl Z "isinstance") (hm : Z.mg "isinstance" = none) (ha : pX Z ca T W a ma) (hb : PE Z b (tC (.ty (isiStr k))))
    (he : starEach [a, b] Z.env = (false, eval a Z.env) :: starEach [b] Z.env) (he2 : starEach [b] Z.env = (false, eval b Z.env) :: starEach [] Z.env) (hpl : (backTo pos (starEach [b] Z.env)).any (·.1) = false) :
    pX Z ca T W (.Call (.Name "isinstance" p2) [a, b] [] pos) (fun σ => bnd (ma σ) fun x => fun h => match isiD k h x with | some r => some (.ok (.bl r), h) | none => none) := by
  refine PE.imp (pe_callB call_isi hg hm rfl (pa_cons ha (pa_cons hb pa_nil he2) he) (by decide) (by decide) he hpl) fun σ H Q h => ?_
  obtain ⟨L0, ρ, σd, hd, rh, rs, fn⟩ := h
  refine ⟨L0, ρ, σd, hd, rh, rs, Fin.imp (Fin.bnd fn) fun ρ1 hd1 H1 x p1 f1 v rv => ?_⟩
  have f1' : (match isiD k hd1 x with | some r => (∀ v, v = V.bl r → Q v H1) | none => False) := by
    cases e : isiD k hd1 x with
    | none => simp only [e] at f1; exact f1
    | some r =>
      simp only [e] at f1
      intro v hv
      exact Fin.ret p1.rel f1 v (by rw [Rep]; exact hv)
  unfold isiD at f1'
  cases ht : tyD (see hd1 x) with
  | some t =>
    simp only [ht] at f1'
    exact ⟨v, .ty (isiStr k), _, _, isiT k t, rfl, .ty _, tyX_of p1.rel rv ht, isi_kit Z.K k hk t, f1' _ rfl⟩
  | none =>
    simp only [ht] at f1'
    rcases hk with rfl | rfl | rfl | rfl <;> exact False.elim f1'
/-- isinstance(x, (int, str)) -/
theorem s_isiIS {b1 b2 : Expr} {n1 : Nat} {p3 : Pos} (hg : Gl Z "isinstance") (hm : Z.mg "isinstance" = none) (ha : pX Z ca T W a ma) (hb1 : PE Z b1 (tC (.ty "int"))) (hb2 : PE Z b2 (tC (.ty "str")))
    (he : starEach [a, .Tuple [b1, b2] n1 p3] Z.env = (false, eval a Z.env) :: starEach [.Tuple [b1, b2] n1 p3] Z.env) (he2 : starEach [.Tuple [b1, b2] n1 p3] Z.env = (false, eval (.Tuple [b1, b2] n1 p3) Z.env) :: starEach [] Z.env)
    (he3 : starEach [b1, b2] Z.env = (false, eval b1 Z.env) :: starEach [b2] Z.env) (he4 : starEach [b2] Z.env = (false, eval b2 Z.env) :: starEach [] Z.env) (hpl : (backTo pos (starEach [.Tuple [b1, b2] n1 p3] Z.env)).any (·.1) = false) :
    pX Z ca T W (.Call (.Name "isinstance" p2) [a, .Tuple [b1, b2] n1 p3] [] pos) (fun σ => bnd (ma σ) fun x => fun h => match isiD .intStr h x with | some r => some (.ok (.bl r), h) | none => none) := by
  refine PE.imp (pe_callB call_isiT hg hm rfl (pa_cons ha (pa_cons (pe_tup (pa_cons hb1 (pa_cons hb2 pa_nil he4) he3)) pa_nil he2) he) (by decide) (by decide) he hpl) fun σ H Q h => ?_
  obtain ⟨L0, ρ, σd, hd, rh, rs, fn⟩ := h
  refine ⟨L0, ρ, σd, hd, rh, rs, Fin.imp (Fin.bnd fn) fun ρ1 hd1 H1 x p1 f1 v rv => ?_⟩
  show 2 ≤ sizeLine ∧ _
  refine ⟨by decide, fun q hq => ?_⟩
  have po := Post.alloc p1.rel hq (o := .tup [.ty "int", .ty "str"]) (fun ps z => nomatch z)
  cases e : isiD .intStr hd1 x with
  | none => simp only [e] at f1; exact False.elim f1
  | some r =>
    simp only [e] at f1
    unfold isiD at e
    cases ht : tyD (see hd1 x) with
    | none => simp only [ht] at e; cases e
    | some t =>
      simp only [ht] at e; cases e
      refine ⟨v, q, [.ty "int", .ty "str"], _, [.type "int", .type "str"], isiT .intStr t, rfl, upd_same, .cons (.ty _) (.cons (.ty _) .nil), tyX_of po.rel (Rep.keep p1.rel po x v rv) ht, ?_, ?_⟩
      · have key : ∀ t ∈ [Ty.non, .bl, .int, .str, .tup, .lst], kitB (tyStr t) "int" = some (isiT .int t) ∧ kitB (tyStr t) "str" = some (isiT .str t) ∧ isiT .intStr t = (isiT .int t || isiT .str t) := by decide +kernel
        obtain ⟨k1, k2, k3⟩ := key t (by cases t <;> decide)
        refine kitAny_cons (kit_ty k1) (fun h1 => kitAny_cons (kit_ty k2) (fun h2 => ?_) fun h2 => ?_) fun h1 => ?_
        · rw [k3, h1, h2]; rfl
        · rw [k3, h2]; simp
        · rw [k3, h1]; rfl
      · exact f1 _ _ po _ (by rw [Rep])
/-- what isinstance asks of an own class -/
structure ClsIs (K : PySem.W.Frag) (C : Addr) : Prop where
  cls : Cls K C
  gt : PySem.W.findIn K (.ref C) "__class__" = some (some (.builtin "object.__class__"))
  sp : PySem.W.specialIn K (.builtin "object.__class__") "__get__" = some (some (.builtin "getset_descriptor.__get__"))
  tk : PySem.W.takesIn K (.builtin "object.__class__") = some true
  mro : PySem.W.mroIn K C (.type "object") = some true
  not : ∀ t ∈ [Ty.non, .bl, .int, .str, .tup, .lst], PySem.W.kitOne K (.type (tyStr t)) (.ref C) = some false
theorem s_isiC {k : Nat} (hC : ClsIs Z.K (ca k)) (hg : Gl Z "isinstance") (hm : Z.mg "isinstance" = none) (ha : pX Z ca T W a ma) (hb : PE Z b (tC (.ref (ca k))))
    (he : starEach [a, b] Z.env = (false, eval a Z.env) :: starEach [b] Z.env) (he2 : starEach [b] Z.env = (false, eval b Z.env) :: starEach [] Z.env) (hpl : (backTo pos (starEach [b] Z.env)).any (·.1) = false) :
    pX Z ca T W (.Call (.Name "isinstance" p2) [a, b] [] pos) (fun σ => bnd (ma σ) fun x => fun h => match isiD (.cls k) h x with | some r => some (.ok (.bl r), h) | none => none) := by
  refine PE.imp (pe_callB call_isi hg hm rfl (pa_cons ha (pa_cons hb pa_nil he2) he) (by decide) (by decide) he hpl) fun σ H Q h => ?_
  obtain ⟨L0, ρ, σd, hd, rh, rs, fn⟩ := h
  refine ⟨L0, ρ, σd, hd, rh, rs, Fin.imp (Fin.bnd fn) fun ρ1 hd1 H1 x p1 f1 v rv => ?_⟩
  have f1' : (match isiD (.cls k) hd1 x with | some r => (∀ v, v = V.bl r → Q v H1) | none => False) := by
    cases e : isiD (.cls k) hd1 x with
    | none => simp only [e] at f1; exact f1
    | some r =>
      simp only [e] at f1
      intro v hv
      exact Fin.ret p1.rel f1 v (by rw [Rep]; exact hv)
  unfold isiD at f1'
  cases ht : tyD (see hd1 x) with
  | some t =>
    simp only [ht] at f1'
    have e : isiT (.cls k) t = false := by cases t <;> rfl
    rw [e] at f1'
    exact ⟨v, .ref (ca k), _, _, false, rfl, .own _, tyX_of p1.rel rv ht, hC.not t (by cases t <;> decide), f1' _ rfl⟩
  | none =>
    simp only [ht] at f1'
    cases x <;> simp only at f1' <;> try exact False.elim f1'
    rename_i n
    cases hn : hd1[n]? with
    | none => simp only [hn] at f1'
    | some cl =>
      cases cl with
      | ins c' fs =>
        simp only [hn] at f1'
        by_cases hc : c' = k
        · subst hc
          rw [if_pos rfl] at f1'
          rw [Rep] at rv
          obtain ⟨p, rfl, e1⟩ := rv
          obtain ⟨dx, vfs, e2, _⟩ := p1.rel.cell n _ p hn e1
          refine ⟨_, .ref (ca c'), _, _, true, rfl, .own _, .base (.ins e2 hC.cls hC.gt hC.sp hC.tk hC.mro), ?_, f1' _ rfl⟩
          unfold PySem.W.kitOne
          rw [if_pos (by simp)]
        · rw [if_neg hc] at f1'; exact False.elim f1'
      | lst xs => simp only [hn] at f1'
      | dead => simp only [hn] at f1'
end
end Ev

set_option Elab.async false
set_option linter.all false
set_option maxRecDepth 100000
set_option maxHeartbeats 4000000
/-! Ev3g: what is walked; targets. -/
namespace Ev
open PySem L2 PyProof.Rows
section
variable {X : Cx} {tg : Expr}
/-- a list, a tuple or a text, walked -/
theorem pi_any {l : Expr} {tl : TE} (hl : PE X l tl) : PI X tg l (fun σ H R => tl σ H fun x H1 => (∃ a xs, x = .ref a ∧ SqL X.K H1 a xs ∧ R (Itl X.K a) H1) ∨ (∃ a xs, x = .ref a ∧ SqT X.K H1 a xs ∧ R (Itt X.K a) H1) ∨ (∃ y, x = .str y ∧ R (Its y) H1)) := by
  refine ⟨fun pins s σ H R I h => ?_⟩
  refine thn (hl.run pins s σ H _ I h) fun v s1 ⟨x, H1, I1, r1, q1⟩ => ?_
  rcases q1 with ⟨a, xs, rfl, hq, q⟩ | ⟨a, xs, rfl, hq, q⟩ | ⟨x, ex, q⟩
  · cases r1
    obtain ⟨its, rv, p, hz⟩ := I1.list hq
    refine wpAny_pyIter_list p.isList ?_
    refine ⟨s1.heap.objs.size, [s1.heap.objs.size], _, _, H1, rfl, I1.kept (t' := s1.toks) fun b o e => Heap.get?_push_of_some _ e, turn_list a _, ⟨_, Heap.get?_push_size _ rfl, rfl, rfl⟩, fun b hb => ?_, q⟩
    have e : b = s1.heap.objs.size := by simpa using hb
    subst e
    exact I1.fpOk (Nat.le_refl _) (I1.hok.fresh (Nat.le_refl _))
  · cases r1
    obtain ⟨its, rv, p, hz⟩ := I1.tuple hq
    refine wpAny_pyIter_tuple (show s1.heap.IsTuple a its.toArray from p) ?_
    refine ⟨s1.heap.objs.size, [s1.heap.objs.size], _, _, H1, rfl, I1.kept (t' := s1.toks) fun b o e => Heap.get?_push_of_some _ e, turn_tuple a _, ⟨_, Heap.get?_push_size _ rfl, rfl, rfl⟩, fun b hb => ?_, q⟩
    have e : b = s1.heap.objs.size := by simpa using hb
    subst e
    exact I1.fpOk (Nat.le_refl _) (I1.hok.fresh (Nat.le_refl _))
  · subst ex
    obtain ⟨t, rfl⟩ := r1
    cases ha : x.cps.all (· < 128)
    · exact wpAny_pyIter_wide ha (pi_one (tk := s1.toks) I1 _ (turn_str _ x t "str_iterator" (.inr rfl)) ⟨_, Heap.get?_push_size _ rfl, rfl, rfl⟩ q)
    · exact wpAny_pyIter_ascii ha (pi_one (tk := s1.toks) I1 _ (turn_str _ x t "str_ascii_iterator" (.inl rfl)) ⟨_, Heap.get?_push_size _ rfl, rfl, rfl⟩ q)
end
section
variable (K : PySem.W.Frag) (ca : Nat → Addr) (T : List (Addr × Str))
/-- the iterator J tells these data, whatever happens to what is ours -/
def ItOk (L0 : Addr → Prop) (ρ : List Addr) (hd : Hd) (H : Hp) (J : L2.It) (its : List D) : Prop :=
  ∀ L1 ρ' hd' H', Mono T L0 ρ hd H ρ' hd' H' → RelH K ca T L1 ρ' hd' H' → (∀ a, L1 a → L0 a ∨ ¬ Held H a) → ∀ i,
    (∀ d, its[i]? = some d → J.go i H' ∧ ∀ x H'', J.yld i H' x H'' → Post K ca T L1 ρ' hd' H' ρ' hd' H'' ∧ Rep K ρ' (Lv L1 ρ' hd') H'' d x) ∧ (its.length ≤ i → J.stop i H')
def rdIt (W : WX) (m : Sl → M (List D)) : TI := fun σ H R => ∃ L0 ρ σd hd, RelH K ca T L0 ρ hd H ∧ RelS K ρ (Lv L0 ρ hd) H σd σ ∧
  Fin K ca T (fun c d H' => W c d σ H') L0 ρ hd H (m σd hd) (fun ρ' hd' H' its => ∀ J, ItOk K ca T L0 ρ' hd' H' J its → R J H')
end
theorem PI.imp {X : Cx} {tg e : Expr} {t t' : TI} (h : PI X tg e t) (i : ∀ σ H R, t' σ H R → t σ H R) : PI X tg e t' := ⟨fun pins s σ H R I q => h.run pins s σ H R I (i σ H R q)⟩
section
variable {K : PySem.W.Frag} {ca : Nat → Addr} {T : List (Addr × Str)} {L0 L1 : Addr → Prop} {ρ ρ' : List Addr} {hd hd' : Hd} {H H' : Hp}
theorem notL (mo : Mono T L0 ρ hd H ρ' hd' H') (hL : ∀ a, L1 a → L0 a ∨ ¬ Held H a) : ∀ a, Held H a → ¬ Lv L0 ρ hd a → ¬ Lv L1 ρ' hd' a := fun a h z y => by
  rcases y with y | y
  · rcases hL a y with y | y
    · exact z (.inl y)
    · exact y h
  · rcases mo.fresh a y with y | y
    · exact z (.inr y)
    · exact y h
theorem Rep.carry (r : RelH K ca T L0 ρ hd H) (mo : Mono T L0 ρ hd H ρ' hd' H') (hL : ∀ a, L1 a → L0 a ∨ ¬ Held H a) {d : D} {v : V} (h : Rep K ρ (Lv L0 ρ hd) H d v) : Rep K ρ' (Lv L1 ρ' hd') H' d v :=
  Rep.monoL r mo (fun a z => .inr z) (notL mo hL) d v h
theorem Reps.carry (r : RelH K ca T L0 ρ hd H) (mo : Mono T L0 ρ hd H ρ' hd' H') (hL : ∀ a, L1 a → L0 a ∨ ¬ Held H a) {d : List D} {v : List V} (h : Reps K ρ (Lv L0 ρ hd) H d v) : Reps K ρ' (Lv L1 ρ' hd') H' d v :=
  Reps.monoL r mo (fun a z => .inr z) (notL mo hL) d v h
theorem RelS.carry {σd : Sl} {σ : L2.St} (r : RelH K ca T L0 ρ hd H) (mo : Mono T L0 ρ hd H ρ' hd' H') (hL : ∀ a, L1 a → L0 a ∨ ¬ Held H a) (h : RelS K ρ (Lv L0 ρ hd) H σd σ) : RelS K ρ' (Lv L1 ρ' hd') H' σd σ :=
  ⟨h.1, fun i d e => by
    obtain ⟨v, e1, e2⟩ := h.2 i d e
    exact ⟨v, e1, Rep.carry r mo hL e2⟩⟩
/-- a list that does not change, as told -/
theorem sqL_of_rep (h : Rep K ρ (Lv L0 ρ hd) H (.lst ds) v ∨ Rep K ρ (Lv L0 ρ hd) H (.ro ds) v) : ∃ a vs, v = .ref a ∧ SqL K H a vs ∧ Reps K ρ (Lv L0 ρ hd) H ds vs := by
  rcases h with h | h
  · rw [Rep] at h
    obtain ⟨a, vs, e, h1, _, h2⟩ := h
    exact ⟨a, vs, e, SqL.of h1, h2⟩
  · rw [Rep] at h
    obtain ⟨a, vs, e, h1, h2⟩ := h
    refine ⟨a, vs, e, ?_, h2⟩
    rcases h1 with ⟨h1, _⟩ | ⟨o, h1⟩ | h1
    · exact SqL.of h1
    · exact .inl (.inr ⟨o, h1⟩)
    · exact .inr h1
theorem it_list {a : Addr} {ds : List D} (r : RelH K ca T L0 ρ hd H) (h : Rep K ρ (Lv L0 ρ hd) H (.lst ds) (.ref a) ∨ Rep K ρ (Lv L0 ρ hd) H (.ro ds) (.ref a)) : ItOk K ca T L0 ρ hd H (Itl K a) ds := by
  intro L1 ρ' hd' H' mo r1 hL i
  have h' : Rep K ρ' (Lv L1 ρ' hd') H' (.lst ds) (.ref a) ∨ Rep K ρ' (Lv L1 ρ' hd') H' (.ro ds) (.ref a) := h.imp (Rep.carry r mo hL) (Rep.carry r mo hL)
  obtain ⟨b, vs, e, h1, h2⟩ := sqL_of_rep h'
  cases e
  refine ⟨fun d hd1 => ?_, fun hl => ⟨vs, h1, by rw [← h2.length]; exact hl⟩⟩
  obtain ⟨v, e1, e2⟩ := h2.get hd1
  refine ⟨⟨vs, v, h1, e1⟩, fun x H'' hy => ?_⟩
  obtain ⟨rfl, hy⟩ := hy
  have := hy vs h1
  rw [e1] at this; cases this
  exact ⟨Post.refl r1, e2⟩
theorem it_tup {a : Addr} {ds : List D} (r : RelH K ca T L0 ρ hd H) (h : Rep K ρ (Lv L0 ρ hd) H (.tup ds) (.ref a)) : ItOk K ca T L0 ρ hd H (Itt K a) ds := by
  intro L1 ρ' hd' H' mo r1 hL i
  have h' := Rep.carry r mo hL h
  rw [Rep] at h'
  obtain ⟨b, vs, e, h1, h2⟩ := h'
  cases e
  refine ⟨fun d hd1 => ?_, fun hl => ⟨vs, h1.sq, by rw [← h2.length]; exact hl⟩⟩
  obtain ⟨v, e1, e2⟩ := h2.get hd1
  refine ⟨⟨vs, v, h1.sq, e1⟩, fun x H'' hy => ?_⟩
  obtain ⟨rfl, hy⟩ := hy
  have := hy vs h1.sq
  rw [e1] at this; cases this
  exact ⟨Post.refl r1, e2⟩
theorem it_str {s : Nm} : ItOk K ca T L0 ρ hd H (Its (St s)) (s.map fun c => .str [c]) := by
  intro L1 ρ' hd' H' mo r1 hL i
  refine ⟨fun d hd1 => ?_, fun hl => ?_⟩
  · rw [List.getElem?_map] at hd1
    cases hs : s[i]? with
    | none => rw [hs] at hd1; cases hd1
    | some c =>
      rw [hs] at hd1; cases hd1
      have hi : i < s.length := (List.getElem?_eq_some_iff.mp hs).1
      refine ⟨show i < s.toArray.size by simpa using hi, fun x H'' hy => ?_⟩
      obtain ⟨rfl, c', hc, rfl⟩ := hy
      have : c' = c := by
        have h2 : s.toArray[i]? = some c' := hc
        rw [List.getElem?_toArray, hs] at h2
        cases h2; rfl
      subst this
      exact ⟨Post.refl r1, by rw [Rep]; rfl⟩
  · rw [List.length_map] at hl
    show s.toArray.size ≤ i
    simpa using hl
theorem it_rng {lo : Int} {n : Nat} {ds : List D} (h : ds = (List.range n).map fun (k : Nat) => .int (lo + (k : Int))) : ItOk K ca T L0 ρ hd H (Itr lo n) ds := by
  subst h
  intro L1 ρ' hd' H' mo r1 hL i
  refine ⟨fun d hd1 => ?_, fun hl => by rw [List.length_map, List.length_range] at hl; exact hl⟩
  rw [List.getElem?_map] at hd1
  cases hs : (List.range n)[i]? with
  | none => rw [hs] at hd1; cases hd1
  | some c =>
    rw [hs] at hd1; cases hd1
    obtain ⟨hi, e⟩ := List.getElem?_eq_some_iff.mp hs
    simp at hi e
    subst e
    refine ⟨hi, fun x H'' hy => ?_⟩
    obtain ⟨rfl, rfl⟩ := hy
    exact ⟨Post.refl r1, by rw [Rep]⟩
theorem enmD_get : ∀ (ds : List D) (n i : Nat), (enmD n ds)[i]? = (ds[i]?).map fun d => .wtp [.int ((n + i : Nat) : Int), d]
  | [], n, i => by simp [enmD]
  | d :: ds, n, 0 => by simp [enmD]
  | d :: ds, n, i + 1 => by
    rw [enmD, List.getElem?_cons_succ, enmD_get ds (n + 1) i, List.getElem?_cons_succ]
    have e : n + 1 + i = n + (i + 1) := by omega
    rw [e]
theorem enmD_len : ∀ (ds : List D) (n : Nat), (enmD n ds).length = ds.length
  | [], n => rfl
  | d :: ds, n => by simp [enmD, enmD_len ds]
theorem wtp_new {L1 : Addr → Prop} (r : RelH K ca T L1 ρ hd H) {ds : List D} {vs : List V} (h : Reps K ρ (Lv L1 ρ hd) H ds vs) {p : Addr} (hp : H p = none) : Post K ca T L1 ρ hd H ρ hd (upd H p (.tup vs)) ∧ Rep K ρ (Lv L1 ρ hd) (upd H p (.tup vs)) (.wtp ds) (.ref p) := by
  have po := Post.alloc r hp (o := .tup vs) (fun ps z => nomatch z)
  refine ⟨po, ?_⟩
  rw [Rep]
  exact ⟨p, vs, rfl, SqT.of upd_same, Reps.keep r po ds vs h⟩
theorem it_enm {a : Addr} {ds : List D} (r : RelH K ca T L0 ρ hd H) (h : Rep K ρ (Lv L0 ρ hd) H (.lst ds) (.ref a)) : ItOk K ca T L0 ρ hd H (Ite K a) (enmD 0 ds) := by
  intro L1 ρ' hd' H' mo r1 hL i
  obtain ⟨b, vs, e, h1, h2⟩ := sqL_of_rep (.inl (Rep.carry r mo hL h))
  cases e
  refine ⟨fun d hd1 => ?_, fun hl => ⟨vs, h1, by rw [enmD_len] at hl; rw [← h2.length]; exact hl⟩⟩
  rw [enmD_get] at hd1
  cases hs : ds[i]? with
  | none => rw [hs] at hd1; cases hd1
  | some d' =>
    rw [hs] at hd1; cases hd1
    obtain ⟨v, e1, e2⟩ := h2.get hs
    refine ⟨⟨vs, v, h1, e1⟩, fun x H'' hy => ?_⟩
    obtain ⟨t, y, rfl, ht, rfl, hy⟩ := hy
    have := hy vs h1
    rw [e1] at this; cases this
    refine wtp_new r1 ?_ ht
    rw [Nat.zero_add]
    simp only [Reps]
    exact ⟨_, _, rfl, by rw [Rep], _, _, rfl, e2, rfl⟩
theorem zipD_get : ∀ (xs ys : List D) (i : Nat), (zipD xs ys)[i]? = match xs[i]?, ys[i]? with | some x, some y => some (.wtp [x, y]) | _, _ => none
  | [], ys, i => by simp [zipD]
  | x :: xs, [], i => by cases h : (x :: xs)[i]? <;> simp [zipD]
  | x :: xs, y :: ys, 0 => by simp [zipD]
  | x :: xs, y :: ys, i + 1 => by
    rw [zipD, List.getElem?_cons_succ, zipD_get xs ys i, List.getElem?_cons_succ, List.getElem?_cons_succ]
theorem zipD_len : ∀ (xs ys : List D), (zipD xs ys).length = min xs.length ys.length
  | [], ys => by simp [zipD]
  | x :: xs, [] => by simp [zipD]
  | x :: xs, y :: ys => by simp only [zipD, List.length_cons, zipD_len xs ys]; omega
theorem it_zipL {a b : Addr} {xs ys : List D} (r : RelH K ca T L0 ρ hd H) (h : Rep K ρ (Lv L0 ρ hd) H (.lst xs) (.ref a)) (h' : Rep K ρ (Lv L0 ρ hd) H (.lst ys) (.ref b)) : ItOk K ca T L0 ρ hd H (Itz K a b) (zipD xs ys) := by
  intro L1 ρ' hd' H' mo r1 hL i
  obtain ⟨_, vs, e, h1, h2⟩ := sqL_of_rep (.inl (Rep.carry r mo hL h))
  cases e
  obtain ⟨_, ws, e, g1, g2⟩ := sqL_of_rep (.inl (Rep.carry r mo hL h'))
  cases e
  refine ⟨fun d hd1 => ?_, fun hl => ⟨vs, ws, h1, g1, by rw [zipD_len] at hl; rw [← h2.length, ← g2.length]; omega⟩⟩
  rw [zipD_get] at hd1
  cases hs : xs[i]? with
  | none => simp only [hs] at hd1; cases hd1
  | some x =>
    cases hs2 : ys[i]? with
    | none => simp only [hs, hs2] at hd1; cases hd1
    | some y =>
      simp only [hs, hs2] at hd1; cases hd1
      obtain ⟨v, e1, e2⟩ := h2.get hs
      obtain ⟨w, f1, f2⟩ := g2.get hs2
      refine ⟨⟨vs, ws, v, w, h1, g1, e1, f1⟩, fun x H'' hy => ?_⟩
      obtain ⟨t, p, q, rfl, ht, rfl, hp, hq⟩ := hy
      have := hp vs h1
      rw [e1] at this; cases this
      have := hq ws g1
      rw [f1] at this; cases this
      refine wtp_new r1 ?_ ht
      simp only [Reps]
      exact ⟨_, _, rfl, e2, _, _, rfl, f2, rfl⟩
theorem it_zipT {a b : Addr} {xs ys : List D} (r : RelH K ca T L0 ρ hd H) (h : Rep K ρ (Lv L0 ρ hd) H (.tup xs) (.ref a)) (h' : Rep K ρ (Lv L0 ρ hd) H (.tup ys) (.ref b)) : ItOk K ca T L0 ρ hd H (RZ.ItzT K a b) (zipD xs ys) := by
  intro L1 ρ' hd' H' mo r1 hL i
  have q1 := Rep.carry r mo hL h
  have q2 := Rep.carry r mo hL h'
  rw [Rep] at q1
  rw [Rep] at q2
  obtain ⟨_, vs, e, h1, h2⟩ := q1
  cases e
  obtain ⟨_, ws, e, g1, g2⟩ := q2
  cases e
  refine ⟨fun d hd1 => ?_, fun hl => ⟨vs, ws, h1.sq, g1.sq, by rw [zipD_len] at hl; rw [← h2.length, ← g2.length]; omega⟩⟩
  rw [zipD_get] at hd1
  cases hs : xs[i]? with
  | none => simp only [hs] at hd1; cases hd1
  | some x =>
    cases hs2 : ys[i]? with
    | none => simp only [hs, hs2] at hd1; cases hd1
    | some y =>
      simp only [hs, hs2] at hd1; cases hd1
      obtain ⟨v, e1, e2⟩ := h2.get hs
      obtain ⟨w, f1, f2⟩ := g2.get hs2
      refine ⟨⟨vs, ws, v, w, h1.sq, g1.sq, e1, f1⟩, fun x H'' hy => ?_⟩
      obtain ⟨t, p, q, rfl, ht, rfl, hp, hq⟩ := hy
      have := hp vs h1.sq
      rw [e1] at this; cases this
      have := hq ws g1.sq
      rw [f1] at this; cases this
      refine wtp_new r1 ?_ ht
      simp only [Reps]
      exact ⟨_, _, rfl, e2, _, _, rfl, f2, rfl⟩
end
section
variable {Z : Cx} {ca : Nat → Addr} {T : List (Addr × Str)} {W : WX} {a b : Expr} {ma mb : Sl → M D} {tg : Expr} {pos p2 : Pos} {mr : Sl → M (List D)}
theorem len1 {α : Type} {xs : List α} (h : xs.length = 1) : ∃ a, xs = [a] := List.length_eq_one_iff.mp h
theorem len2 {α : Type} {xs : List α} (h : xs.length = 2) : ∃ a b, xs = [a, b] := by
  cases xs with
  | nil => cases h
  | cons a xs => cases xs with
    | nil => cases h
    | cons b xs => cases xs with
      | nil => exact ⟨a, b, rfl⟩
      | cons c xs => simp at h
abbrev pI (Z : Cx) (ca : Nat → Addr) (T : List (Addr × Str)) (W : WX) (tg e : Expr) (m : Sl → M (List D)) : Prop := PI Z tg e (rdIt Z.K ca T W m)
theorem s_itseq (ha : pX Z ca T W a ma) : pI Z ca T W tg a (fun σ => bnd (ma σ) fun x => fun h => opt (itD h x) h) := by
  refine PI.imp (pi_any ha) fun σ H R h => ?_
  obtain ⟨L0, ρ, σd, hd, rh, rs, fn⟩ := h
  refine ⟨L0, ρ, σd, hd, rh, rs, Fin.imp (Fin.bnd fn) fun ρ1 hd1 H1 x p1 f1 v rv => ?_⟩
  cases x <;> simp only [itD, opt] at f1 <;> try exact False.elim f1
  · rw [Rep] at rv; subst rv
    exact .inr (.inr ⟨_, rfl, Fin.ret p1.rel f1 _ it_str⟩)
  · rw [Rep] at rv
    obtain ⟨p, vs, rfl, h1, h2⟩ := rv
    exact .inr (.inl ⟨p, vs, rfl, h1.sq, Fin.ret p1.rel f1 _ (it_tup p1.rel (by rw [Rep]; exact ⟨p, vs, rfl, h1, h2⟩))⟩)
  · obtain ⟨p, vs, rfl, h1, h2⟩ := sqL_of_rep (.inl rv)
    exact .inl ⟨p, vs, rfl, h1, Fin.ret p1.rel f1 _ (it_list p1.rel (.inl rv))⟩
  · obtain ⟨p, vs, rfl, h1, h2⟩ := sqL_of_rep (.inr rv)
    exact .inl ⟨p, vs, rfl, h1, Fin.ret p1.rel f1 _ (it_list p1.rel (.inr rv))⟩
theorem s_itrng1 (hg : Gl Z "range") (hm : Z.mg "range" = none) (hr : pA Z ca T W [a] mr) (hs : starEach [a] Z.env = [(false, eval a Z.env)]) (hlen : ∀ σ h vs h', mr σ h = some (.ok vs, h') → vs.length = 1) :
    pI Z ca T W tg (.Call (.Name "range" p2) [a] [] pos) (fun σ => bnd (mr σ) fun vs => opt (rngD vs)) := by
  refine PI.imp (pi_range1 hg hm hr hs) fun σ H R h => ?_
  obtain ⟨L0, ρ, σd, hd, rh, rs, fn⟩ := h
  refine ⟨L0, ρ, σd, hd, rh, rs, ?_⟩
  have f2 := Fin.bnd fn
  unfold Fin at f2 ⊢
  split at f2
  · exact f2
  · rename_i xs hd' e
    intro ρ1 H1 p1 vs rvs
    have f1 := f2 ρ1 H1 p1
    have hl := hlen _ _ _ _ e
    obtain ⟨d, rfl⟩ := len1 hl
    · skip
      obtain ⟨v, rfl, rv⟩ := reps1 rvs
      cases d with
      | int j =>
        simp only [rngD] at f1
        by_cases hj : (decide (-4611686018427387904 ≤ j) && decide (j < 4611686018427387904)) = true
        · rw [if_pos hj] at f1
          rw [Rep] at rv; subst rv
          simp only [Bool.and_eq_true, decide_eq_true_eq] at hj
          have e62 : (2 : Int) ^ 62 = 4611686018427387904 := by decide
          have g3 : -(2 ^ 62) ≤ j := by rw [e62]; exact hj.1
          have g4 : j < 2 ^ 62 := by rw [e62]; exact hj.2
          exact ⟨j, rfl, g3, g4, f1 ρ1 H1 (Post.refl p1.rel) _ (it_rng rfl)⟩
        · rw [if_neg hj] at f1; exact False.elim f1
      | _ => exact False.elim f1
  · exact f2
theorem s_itrng2 (hg : Gl Z "range") (hm : Z.mg "range" = none) (hr : pA Z ca T W [a, b] mr) (hs : starEach [a, b] Z.env = [(false, eval a Z.env), (false, eval b Z.env)]) (hs2 : starEach [b] Z.env = [(false, eval b Z.env)]) (hlen : ∀ σ h vs h', mr σ h = some (.ok vs, h') → vs.length = 2) :
    pI Z ca T W tg (.Call (.Name "range" p2) [a, b] [] pos) (fun σ => bnd (mr σ) fun vs => opt (rngD vs)) := by
  have h0 := pi_range2 (tg := tg) (p := p2) (pos := pos) hg hm hr hs hs2
  apply PI.imp h0
  intro σ H R h
  obtain ⟨L0, ρ, σd, hd, rh, rs, fn⟩ := h
  show rdVs Z.K ca T W mr σ H _
  refine ⟨L0, ρ, σd, hd, rh, rs, ?_⟩
  have f2 := Fin.bnd fn
  unfold Fin at f2 ⊢
  split at f2
  · exact f2
  · rename_i xs hd' e
    intro ρ1 H1 p1 vs rvs
    have f1 := f2 ρ1 H1 p1
    have hl := hlen _ _ _ _ e
    obtain ⟨d, d', rfl⟩ := len2 hl
    · skip
      obtain ⟨v, w, rfl, rv, rw'⟩ := reps2 rvs
      cases d with
      | int i =>
        cases d' with
        | int j =>
          simp only [rngD] at f1
          by_cases hj : (decide (-4611686018427387904 ≤ i) && decide (i < 4611686018427387904) && decide (-4611686018427387904 ≤ j) && decide (j < 4611686018427387904)) = true
          · rw [if_pos hj] at f1
            rw [Rep] at rv; subst rv
            rw [Rep] at rw'; subst rw'
            simp only [Bool.and_eq_true, decide_eq_true_eq] at hj
            obtain ⟨⟨⟨q1, q2⟩, q3⟩, q4⟩ := hj
            have e62 : (2 : Int) ^ 62 = 4611686018427387904 := by decide
            have g1 : -(2 ^ 62) ≤ i := by rw [e62]; exact q1
            have g2 : i < 2 ^ 62 := by rw [e62]; exact q2
            have g3 : -(2 ^ 62) ≤ j := by rw [e62]; exact q3
            have g4 : j < 2 ^ 62 := by rw [e62]; exact q4
            exact ⟨i, j, rfl, ⟨g1, g2, g3, g4⟩, f1 ρ1 H1 (Post.refl p1.rel) _ (it_rng rfl)⟩
          · rw [if_neg hj] at f1; exact False.elim f1
        | _ => exact False.elim f1
      | _ => exact False.elim f1
  · exact f2
theorem s_itenm {elts : List Expr} {kk : Nat} {tpos : Pos} (hg : Gl Z "enumerate") (hm : Z.mg "enumerate" = none) (ha : pX Z ca T W a ma) (hs : starEach [a] Z.env = [(false, eval a Z.env)]) (hs2 : starEach [a] Z.env = (false, eval a Z.env) :: starEach [] Z.env) :
    pI Z ca T W (.Tuple elts kk tpos) (.Call (.Name "enumerate" p2) [a] [] pos) (fun σ => bnd (ma σ) fun x => match x with | .lst xs => ret (enmD 0 xs) | _ => stuck) := by
  refine PI.imp (pi_enum hg hm (pa_cons ha pa_nil hs2) hs) fun σ H R h => ?_
  obtain ⟨L0, ρ, σd, hd, rh, rs, fn⟩ := h
  refine ⟨L0, ρ, σd, hd, rh, rs, Fin.imp (Fin.bnd fn) fun ρ1 hd1 H1 x p1 f1 v rv => ?_⟩
  cases x <;> try exact False.elim f1
  obtain ⟨p, vs, rfl, h1, h2⟩ := sqL_of_rep (.inl rv)
  exact ⟨p, vs, rfl, h1, Fin.ret p1.rel f1 _ (it_enm p1.rel rv)⟩
theorem s_itzip {elts : List Expr} {kk : Nat} {tpos : Pos} (hg : Gl Z "zip") (hm : Z.mg "zip" = none) (ha : pX Z ca T W a ma) (hb : pX Z ca T W b mb)
    (hs : starEach [a, b] Z.env = (false, eval a Z.env) :: starEach [b] Z.env) (hs2 : starEach [b] Z.env = (false, eval b Z.env) :: starEach [] Z.env) (hpl : (backTo pos (starEach [b] Z.env)).any (·.1) = false) :
    pI Z ca T W (.Tuple elts kk tpos) (.Call (.Name "zip" p2) [a, b] [] pos) (fun σ => bnd (ma σ) fun x => bnd (mb σ) fun y => match x, y with
    | .lst xs, .lst ys => ret (zipD xs ys)
    | .tup xs, .tup ys => ret (zipD xs ys)
    | _, _ => stuck) := by
  refine PI.imp (RZ.pi_zipA hg hm (pa_cons ha (pa_cons hb pa_nil hs2) hs) hs hpl) fun σ H R h => ?_
  obtain ⟨L0, ρ, σd, hd, rh, rs, fn⟩ := h
  refine ⟨L0, ρ, σd, hd, rh, rs, Fin.imp (Fin.bnd fn) fun ρ1 hd1 H1 x p1 f1 v rv => ?_⟩
  refine ⟨L0, ρ1, σd, hd1, p1.rel, rs.keep rh p1, Fin.imp (Fin.bnd f1) fun ρ2 hd2 H2 y p2 f2 w rw' => ?_⟩
  have rv2 := Rep.keep p1.rel p2 x v rv
  cases x <;> cases y <;> try exact False.elim f2
  · have r1 := rv2
    have r2 := rw'
    rw [Rep] at r1
    rw [Rep] at r2
    obtain ⟨p, vs, rfl, h1, h2⟩ := r1
    obtain ⟨q, ws, rfl, g1, g2⟩ := r2
    exact ⟨p, q, vs, ws, rfl, .inr ⟨h1.sq, g1.sq, Fin.ret p2.rel f2 _ (it_zipT p2.rel rv2 rw')⟩⟩
  · obtain ⟨p, vs, rfl, h1, h2⟩ := sqL_of_rep (.inl rv2)
    obtain ⟨q, ws, rfl, g1, g2⟩ := sqL_of_rep (.inl rw')
    exact ⟨p, q, vs, ws, rfl, .inl ⟨h1, g1, Fin.ret p2.rel f2 _ (it_zipL p2.rel rv2 rw')⟩⟩
end
end Ev

set_option Elab.async false
set_option linter.all false
set_option maxRecDepth 100000
set_option maxHeartbeats 4000000
/-! Ev3h: targets; comprehensions. -/
namespace Ev
open PySem L2 PyProof.Rows
section
variable (K : PySem.W.Frag) (ca : Nat → Addr) (T : List (Addr × Str))
/-- a target's reading; tv: the slots it may fill -/
def rdG (W : WX) (tv : List Nat) (m : D → Sl → M Sl) : TG := fun v σ H Q => ∃ L0 ρ σd hd d, RelH K ca T L0 ρ hd H ∧ RelS K ρ (Lv L0 ρ hd) H σd σ ∧ Rep K ρ (Lv L0 ρ hd) H d v ∧
  Fin K ca T (fun c d H' => W c d σ H') L0 ρ hd H (m d σd hd) (fun ρ' hd' H' σd' => ∀ σ', RelS K ρ' (Lv L0 ρ' hd') H' σd' σ' → σ'.length = σ.length → (∀ i, i ∉ tv → σ'[i]? = σ[i]?) → Q σ' H')
def rdGs (W : WX) (tv : List Nat) (m : List D → Sl → M Sl) : TGs := fun v σ H Q => ∃ L0 ρ σd hd d, RelH K ca T L0 ρ hd H ∧ RelS K ρ (Lv L0 ρ hd) H σd σ ∧ Reps K ρ (Lv L0 ρ hd) H d v ∧
  Fin K ca T (fun c d H' => W c d σ H') L0 ρ hd H (m d σd hd) (fun ρ' hd' H' σd' => ∀ σ', RelS K ρ' (Lv L0 ρ' hd') H' σd' σ' → σ'.length = σ.length → (∀ i, i ∉ tv → σ'[i]? = σ[i]?) → Q σ' H')
end
theorem PG.imp {X : Cx} {e : Expr} {t t' : TG} (h : PG X e t) (i : ∀ v σ H Q, t' v σ H Q → t v σ H Q) : PG X e t' := ⟨fun pins s σ H v u Q I r q => h.run pins s σ H v u Q I r (i v σ H Q q)⟩
theorem PGs.imp {X : Cx} {e : List Expr} {t t' : TGs} (h : PGs X e t) (i : ∀ v σ H Q, t' v σ H Q → t v σ H Q) : PGs X e t' := ⟨fun pins s σ H v u Q I r q => h.run pins s σ H v u Q I r (i v σ H Q q)⟩
theorem RelS.set {K : PySem.W.Frag} {ρ : List Addr} {L : Addr → Prop} {H : Hp} {σd : Sl} {σ : L2.St} {i : Nat} {d : D} {v : V} (h : RelS K ρ L H σd σ) (r : Rep K ρ L H d v) : RelS K ρ L H (σd.set i (some d)) (σ.set i (some v)) := by
  refine ⟨by rw [List.length_set, List.length_set]; exact h.1, fun j e hj => ?_⟩
  by_cases hi : i = j
  · subst hi
    have hl : i < (σd.set i (some d)).length := (List.getElem?_eq_some_iff.mp hj).1
    rw [List.length_set] at hl
    rw [List.getElem?_set_self hl] at hj
    cases hj
    exact ⟨v, List.getElem?_set_self (by rw [← h.1]; exact hl), r⟩
  · rw [List.getElem?_set_ne hi] at hj
    obtain ⟨w, e1, e2⟩ := h.2 j e hj
    exact ⟨w, by rw [List.getElem?_set_ne hi]; exact e1, e2⟩
section
variable {Z : Cx} {ca : Nat → Addr} {T : List (Addr × Str)} {W : WX} {a b o : Expr} {ma mb mo : Sl → M D} {pos p2 : Pos} {tv : List Nat}
abbrev pG (Z : Cx) (ca : Nat → Addr) (T : List (Addr × Str)) (W : WX) (tv : List Nat) (e : Expr) (m : D → Sl → M Sl) : Prop := PG Z e (rdG Z.K ca T W tv m)
abbrev pGs (Z : Cx) (ca : Nat → Addr) (T : List (Addr × Str)) (W : WX) (tv : List Nat) (e : List Expr) (m : List D → Sl → M Sl) : Prop := PGs Z e (rdGs Z.K ca T W tv m)
theorem s_gnm {i : Nat} {x : Str} (hN : Z.N.Nodup) (hi : Z.N[i]? = some x) (hx : Loc Z.env.scope x) (hf : Z.fn x = true ∨ Z.env.scope.names.lookup x = some .local) (ht : i ∈ tv) : pG Z ca T W tv (.Name x pos) (fun d σ => ret (σ.set i (some d))) := by
  refine PG.imp (pg_name hN hi hx hf) fun v σ H Q h => ?_
  obtain ⟨L0, ρ, σd, hd, d, r, rs, rd, f⟩ := h
  refine Fin.ret r f _ (rs.set rd) (List.length_set ..) fun j hj => ?_
  rw [List.getElem?_set_ne (fun e => hj (by rw [← e]; exact ht))]
theorem s_gtp {es : List Expr} {k n : Nat} {m : List D → Sl → M Sl} (hc : Z.calm = true) (h : pGs Z ca T W tv es m) 
    (hn : (assignEach es Z.env).length = n) (hst : (assignEach es Z.env).findIdx? (·.1) = none) : pG Z ca T W tv (.Tuple es k pos) (fun d σ => match d with | .tup xs => if xs.length = n then m xs σ else stuck | .wtp xs => if xs.length = n then m xs σ else stuck | _ => stuck) := by
  refine PG.imp (pg_tup hc h hn hst) fun v σ H Q h => ?_
  obtain ⟨L0, ρ, σd, hd, d, r, rs, rd, f⟩ := h
  have key : ∀ xs, xs.length = n → (∃ p vs, v = .ref p ∧ SqT Z.K H p vs ∧ Reps Z.K ρ (Lv L0 ρ hd) H xs vs) → Fin Z.K ca T (fun c d H' => W c d σ H') L0 ρ hd H (m xs σd hd) (fun ρ' hd' H' σd' => ∀ σ', RelS Z.K ρ' (Lv L0 ρ' hd') H' σd' σ' → σ'.length = σ.length → (∀ i, i ∉ tv → σ'[i]? = σ[i]?) → Q σ' H') → gTup Z.K n (rdGs Z.K ca T W tv m) v σ H Q := fun xs hn ⟨p, vs, e, h1, h2⟩ f => by
    refine ⟨p, vs, e, h1, ?_, L0, ρ, σd, hd, xs, r, rs, h2, f⟩
    rw [← h2.length]; exact hn
  cases d with
  | tup xs =>
    rw [Rep] at rd
    obtain ⟨p, vs, e, h1, h2⟩ := rd
    by_cases hn : xs.length = n
    · simp only [if_pos hn] at f
      exact key xs hn ⟨p, vs, e, h1.sq, h2⟩ f
    · simp only [if_neg hn] at f; exact False.elim f
  | wtp xs =>
    rw [Rep] at rd
    obtain ⟨p, vs, e, h1, h2⟩ := rd
    by_cases hn : xs.length = n
    · simp only [if_pos hn] at f
      exact key xs hn ⟨p, vs, e, h1, h2⟩ f
    · simp only [if_neg hn] at f; exact False.elim f
  | _ => exact False.elim f
theorem s_gnil : pGs Z ca T W tv [] (fun ds σ => match ds with | [] => ret σ | _ => stuck) := by
  refine PGs.imp pgs_nil fun v σ H Q h => ?_
  obtain ⟨L0, ρ, σd, hd, d, r, rs, rd, f⟩ := h
  cases d with
  | nil =>
    rw [Reps] at rd
    exact ⟨rd, Fin.ret r f σ rs rfl fun _ _ => rfl⟩
  | cons x xs => exact False.elim f
theorem s_gcons {es : List Expr} {mg : D → Sl → M Sl} {mr : List D → Sl → M Sl} (h1 : pG Z ca T (fun _ _ _ _ => False) tv a mg) (h2 : pGs Z ca T (fun _ _ _ _ => False) tv es mr)
    (hs : (assignEach (a :: es) Z.env).map (·.2) = assign a Z.env :: (assignEach es Z.env).map (·.2)) : pGs Z ca T (fun _ _ _ _ => False) tv (a :: es) (fun ds σ => match ds with | d :: ds => bnd (mg d σ) fun σ1 => mr ds σ1 | _ => stuck) := by
  refine PGs.imp (pgs_cons h1 h2 hs) fun v σ H Q h => ?_
  obtain ⟨L0, ρ, σd, hd, d, r, rs, rd, f⟩ := h
  cases d with
  | nil => exact False.elim f
  | cons x xs =>
    rw [Reps] at rd
    obtain ⟨v1, vr, rfl, r1, r2⟩ := rd
    refine ⟨v1, vr, rfl, L0, ρ, σd, hd, x, r, rs, r1, Fin.imp (Fin.bnd f) fun ρ1 hd1 H1 σ1d p1 f1 σ1 rs1 hl hk => ?_⟩
    refine ⟨L0, ρ1, σ1d, hd1, xs, p1.rel, rs1, Reps.keep r p1 xs vr r2, Fin.imp f1 fun ρ2 hd2 H2 σ2d p2 f2 σ2 rs2 hl2 hk2 => ?_⟩
    exact f2 σ2 rs2 (hl2.trans hl) fun i hi => (hk2 i hi).trans (hk i hi)
/-- no error goes through -/
theorem pG.none_ex {e : Expr} {m : D → Sl → M Sl} (h : pG Z ca T (fun _ _ _ _ => False) tv e m) : pG Z ca T W tv e (fun d σ => fun h => match m d σ h with | some (.ok a, h1) => some (.ok a, h1) | _ => none) := by
  refine PG.imp h fun v σ H Q h => ?_
  obtain ⟨L0, ρ, σd, hd, d, r, rs, rd, f⟩ := h
  refine ⟨L0, ρ, σd, hd, d, r, rs, rd, ?_⟩
  unfold Fin at f ⊢
  cases e : m d σd hd with
  | none => simp only [e] at f
  | some q =>
    obtain ⟨q, hd'⟩ := q
    cases q with
    | ok a => simp only [e] at f; exact f
    | ex c pl => simp only [e] at f
/-- o[i] = .. -/
theorem ok_setSub {ρ : List Addr} {L0 : Addr → Prop} {hd hd' : Hd} {H : Hp} {x k d : D} {xv kv v : V} {Q : Hp → Prop} (r : RelH Z.K ca T L0 ρ hd H) (rx : Rep Z.K ρ (Lv L0 ρ hd) H x xv) (rk : Rep Z.K ρ (Lv L0 ρ hd) H k kv) (rv : Rep Z.K ρ (Lv L0 ρ hd) H d v)
    (e : setSD x k d hd = some (.ok (), hd')) (q : ∀ H', Post Z.K ca T L0 ρ hd H ρ hd' H' → Q H') : rSetL xv kv v H Q := by
  unfold setSD at e
  cases x <;> cases k <;> simp only at e <;> try (cases e; done)
  rename_i n i
  cases hn : hd[n]? with
  | none => simp only [hn] at e; cases e
  | some c =>
    cases c with
    | lst ys =>
      simp only [hn] at e
      cases hj : Ev.ixN ys.length i with
      | none => simp only [hj] at e; cases e
      | some j =>
        simp only [hj] at e; cases e
        rw [Rep] at rk; subst rk
        obtain ⟨a, vs, rfl, h1, h2, h3⟩ := loc_lst r rx hn
        have hj2 : L2.ixN vs.length i = some j := by rw [← h3.length]; exact hj
        exact ⟨a, vs, i, j, rfl, rfl, h2, hj2, q _ (lst_write r hn h1 (h3.set rv j))⟩
    | ins c fs => simp only [hn] at e; cases e
    | dead => simp only [hn] at e; cases e
end
end Ev

set_option Elab.async false
set_option linter.all false
set_option maxRecDepth 100000
set_option maxHeartbeats 4000000
/-! Ev3i: a list that grows while others are computed; comprehensions. -/
namespace Ev
open PySem L2 PyProof.Rows
section
variable {K : PySem.W.Frag} {ca : Nat → Addr} {T : List (Addr × Str)} {L0 L1 : Addr → Prop} {ρ ρ' : List Addr} {hd hd' : Hd} {H H' : Hp} {p : Addr} {o : HO}
mutual
theorem Rep.upd {L : Addr → Prop} (hp : L p) {ws : List V} (he : H p = some (.lst ws)) : ∀ (d : D) (v : V), Rep K ρ L H d v → Rep K ρ L (upd H p o) d v
  | .non, v, h => by rw [Rep] at h ⊢; exact h
  | .bl b, v, h => by rw [Rep] at h ⊢; exact h
  | .int b, v, h => by rw [Rep] at h ⊢; exact h
  | .str b, v, h => by rw [Rep] at h ⊢; exact h
  | .tup ds, v, h => by
    rw [Rep] at h ⊢
    obtain ⟨a, vs, e, h1, h2⟩ := h
    refine ⟨a, vs, e, ?_, Reps.upd hp he ds vs h2⟩
    rcases h1 with ⟨x, hx, h1⟩ | h1
    · exact .inl ⟨x, hx, by rw [upd_ne (fun z => by subst z; rw [he] at h1; cases h1)]; exact h1⟩
    · exact .inr h1
  | .wtp ds, v, h => by
    rw [Rep] at h ⊢
    obtain ⟨a, vs, e, h1, h2⟩ := h
    refine ⟨a, vs, e, ?_, Reps.upd hp he ds vs h2⟩
    rcases h1 with (h1 | ⟨x, h1⟩) | h1
    · exact .inl (.inl (by rw [upd_ne (fun z => by subst z; rw [he] at h1; cases h1)]; exact h1))
    · exact .inl (.inr ⟨x, by rw [upd_ne (fun z => by subst z; rw [he] at h1; cases h1)]; exact h1⟩)
    · exact .inr h1
  | .lst ds, v, h => by
    rw [Rep] at h ⊢
    obtain ⟨a, vs, e, h1, h2, h3⟩ := h
    exact ⟨a, vs, e, by rw [upd_ne (fun z => h2 (by rw [z]; exact hp))]; exact h1, h2, Reps.upd hp he ds vs h3⟩
  | .ro ds, v, h => by
    rw [Rep] at h ⊢
    obtain ⟨a, vs, e, h1, h3⟩ := h
    refine ⟨a, vs, e, ?_, Reps.upd hp he ds vs h3⟩
    rcases h1 with ⟨h1, h2⟩ | ⟨x, h1⟩ | h1
    · exact .inl ⟨by rw [upd_ne (fun z => h2 (by rw [z]; exact hp))]; exact h1, h2⟩
    · exact .inr (.inl ⟨x, by rw [upd_ne (fun z => by subst z; rw [he] at h1; cases h1)]; exact h1⟩)
    · exact .inr (.inr h1)
  | .loc n, v, h => by rw [Rep] at h ⊢; exact h
theorem Reps.upd {L : Addr → Prop} (hp : L p) {ws : List V} (he : H p = some (.lst ws)) : ∀ (ds : List D) (vs : List V), Reps K ρ L H ds vs → Reps K ρ L (upd H p o) ds vs
  | [], vs, h => by rw [Reps] at h ⊢; exact h
  | d :: ds, vs, h => by
    rw [Reps] at h ⊢
    obtain ⟨v, w, e, h1, h2⟩ := h
    exact ⟨v, w, e, Rep.upd hp he d v h1, Reps.upd hp he ds w h2⟩
end
theorem RepF.upd {L : Addr → Prop} (hp : L p) {ws : List V} (he : H p = some (.lst ws)) : ∀ (ds : Pl) (vs : List (Str × V)), RepF K ρ L H ds vs → RepF K ρ L (L2.upd H p o) ds vs
  | [], vs, h => by rw [RepF] at h ⊢; exact h
  | (f, d) :: ds, vs, h => by
    rw [RepF] at h ⊢
    obtain ⟨v, w, e, h1, h2⟩ := h
    exact ⟨v, w, e, Rep.upd hp he d v h1, RepF.upd hp he ds w h2⟩
/-- what stands outside is written -/
theorem RelH.out (r : RelH K ca T L0 ρ hd H) (hp : L0 p) {ws : List V} (he : H p = some (.lst ws)) (ho : ∀ ps, o ≠ .tbl ps) : RelH K ca T L0 ρ hd (upd H p o) := by
  refine ⟨r.len, r.nd, fun n c a h1 h2 => ?_, fun a h => ⟨?_, (r.l0 a h).2⟩, fun q hq => ?_⟩
  · by_cases hc : c = .dead
    · subst hc; trivial
    · have ne : a ≠ p := fun z => (r.l0 p hp).2 (by rw [← z]; exact ⟨n, c, h1, hc, h2⟩)
      have h4 := r.cell n c a h1 h2
      cases c with
      | lst ds => obtain ⟨vs, e, h5⟩ := h4; exact ⟨vs, by rw [upd_ne ne]; exact e, Reps.upd (.inl hp) he ds vs h5⟩
      | ins c fs => obtain ⟨dx, vfs, e, h5⟩ := h4; exact ⟨dx, vfs, by rw [upd_ne ne]; exact e, RepF.upd (.inl hp) he fs vfs h5⟩
      | dead => exact absurd rfl hc
  · by_cases hb : a = p
    · subst hb; exact ⟨o, upd_same, ho⟩
    · obtain ⟨u, e, g⟩ := (r.l0 a h).1
      exact ⟨u, by rw [upd_ne hb]; exact e, g⟩
  · obtain ⟨ps, e, h1, h2⟩ := r.tabs q hq
    refine ⟨ps, by rw [upd_ne (fun z => by rw [z, he] at e; cases e)]; exact e, h1, fun pos cv hcv => ?_⟩
    obtain ⟨k, e1, e2⟩ := h2 pos cv hcv
    refine ⟨k, e1, ?_⟩
    rw [upd_ne (fun z => ?_)]
    · exact e2
    · rw [z, he] at e2; cases e2
/-- one item more -/
theorem Fresh.app {done : List D} {y : D} {v : V} {acc : List V} (r : RelH K ca T (Plus L0 p) ρ hd H) (out : ¬ L0 p) (he : H p = some (.lst acc)) (hd1 : Reps K ρ (Lv (Plus L0 p) ρ hd) H done acc) (hv : Rep K ρ (Lv (Plus L0 p) ρ hd) H y v) :
    Fresh K ca T L0 ρ hd (upd H p (.lst (acc ++ [v]))) (done ++ [y]) p := by
  refine ⟨r.out (.inr rfl) he (fun ps z => nomatch z), out, acc ++ [v], upd_same, ?_⟩
  exact Reps.append (Reps.upd (.inl (.inr rfl)) he done acc hd1) (by rw [Reps]; exact ⟨v, [], rfl, Rep.upd (.inl (.inr rfl)) he y v hv, by simp [Reps]⟩)
theorem Mono.out {ρ0 : List Addr} {hd0 : Hd} {H0 : Hp} (mo : Mono T L0 ρ0 hd0 H0 ρ hd H) (h0 : H0 p = none) (he : H p = some o') (ho' : ∀ ps, o' ≠ .tbl ps) (ho : ∀ ps, o ≠ .tbl ps) : Mono T L0 ρ0 hd0 H0 ρ hd (upd H p o) :=
  ⟨mo.ext, fun b u e h1 h2 => by rw [upd_ne (fun z => by rw [z, h0] at e; cases e)]; exact mo.keep b u e h1 h2, mo.fresh, fun a h => by
    by_cases hb : a = p
    · subst hb; exact ⟨o, upd_same, ho⟩
    · obtain ⟨u, e, g⟩ := mo.held a h
      exact ⟨u, by rw [upd_ne hb]; exact e, g⟩⟩
theorem wipe_eq : ∀ (σd : Sl) (vs : List Nat) (i : Nat), (Ev.wipe σd vs)[i]? = some (some d) → i ∉ vs ∧ σd[i]? = some (some d)
  | σd, [], i, h => ⟨by simp, h⟩
  | σd, v :: vs, i, h => by
    by_cases hi : v = i
    · subst hi
      have hl : v < ((Ev.wipe σd vs).set v none).length := (List.getElem?_eq_some_iff.mp h).1
      rw [List.length_set] at hl
      simp only [Ev.wipe] at h
      rw [List.getElem?_set_self hl] at h; cases h
    · simp only [Ev.wipe] at h
      rw [List.getElem?_set_ne hi] at h
      obtain ⟨h1, h2⟩ := wipe_eq σd vs i h
      exact ⟨by simp only [List.mem_cons, not_or]; exact ⟨fun z => hi z.symm, h1⟩, h2⟩
theorem wipe_len : ∀ (σd : Sl) (vs : List Nat), (Ev.wipe σd vs).length = σd.length
  | σd, [] => rfl
  | σd, v :: vs => by rw [Ev.wipe, List.length_set, wipe_len σd vs]
theorem wipe_get : ∀ (σ : L2.St) (vs : List Nat) (i : Nat), i ∉ vs → (L2.wipe σ vs)[i]? = σ[i]?
  | σ, [], i, h => rfl
  | σ, v :: vs, i, h => by
    simp only [List.mem_cons, not_or] at h
    show ((L2.wipe σ vs).set v none)[i]? = _
    rw [List.getElem?_set_ne (fun z => h.1 z.symm)]
    exact wipe_get σ vs i h.2
theorem wipe_gone : ∀ (σ : L2.St) (vs : List Nat) (i : Nat), i ∈ vs → i < σ.length → (L2.wipe σ vs)[i]? = some none
  | σ, [], i, h, hl => by simp at h
  | σ, v :: vs, i, h, hl => by
    show ((L2.wipe σ vs).set v none)[i]? = _
    have hl' : i < (L2.wipe σ vs).length := by rw [wipe_length]; exact hl
    by_cases hi : v = i
    · subst hi; exact List.getElem?_set_self hl'
    · rw [List.getElem?_set_ne hi]
      simp only [List.mem_cons] at h
      rcases h with h | h
      · exact absurd h.symm hi
      · exact wipe_gone σ vs i h hl
theorem wipe_same {σ σ' : L2.St} {vs : List Nat} (hl : σ'.length = σ.length) (h : ∀ i, i ∉ vs → σ'[i]? = σ[i]?) : L2.wipe σ' vs = L2.wipe σ vs := by
  refine List.ext_getElem? fun i => ?_
  by_cases hi : i ∈ vs
  · by_cases hlt : i < σ.length
    · rw [wipe_gone _ _ _ hi hlt, wipe_gone _ _ _ hi (by rw [hl]; exact hlt)]
    · rw [List.getElem?_eq_none (by rw [wipe_length, hl]; omega), List.getElem?_eq_none (by rw [wipe_length]; omega)]
  · rw [wipe_get _ _ _ hi, wipe_get _ _ _ hi, h i hi]
theorem wipe_wipe {σ : L2.St} {vs : List Nat} : L2.wipe (L2.wipe σ vs) vs = L2.wipe σ vs := wipe_same (wipe_length σ vs) fun i hi => wipe_get σ vs i hi
theorem RelS.wipe {L : Addr → Prop} {σd : Sl} {σ : L2.St} (h : RelS K ρ L H σd σ) (vs : List Nat) : RelS K ρ L H (Ev.wipe σd vs) (L2.wipe σ vs) :=
  ⟨by rw [wipe_len, wipe_length]; exact h.1, fun i d e => by
    obtain ⟨h1, h2⟩ := wipe_eq σd vs i e
    obtain ⟨v, e1, e2⟩ := h.2 i d h2
    exact ⟨v, by rw [wipe_get σ vs i h1]; exact e1, e2⟩⟩
end
theorem compL_mem {f : D → Hd → Option (Option D × Hd)} {x : D} {xs : List D} {h h1 : Hd} {ys : List D} (e : compL f (x :: xs) h = some (ys, h1)) : ∃ y h0 zs, f x h = some (y, h0) ∧ compL f xs h0 = some (zs, h1) ∧ ys = (match y with | none => zs | some v => v :: zs) := by
  unfold compL at e
  cases e1 : f x h with
  | none => simp only [e1] at e; cases e
  | some q =>
    obtain ⟨y, h0⟩ := q
    simp only [e1] at e
    cases e2 : compL f xs h0 with
    | none => simp only [e2] at e; cases e
    | some q =>
      obtain ⟨zs, h2⟩ := q
      simp only [e2] at e
      cases e
      exact ⟨y, h0, zs, rfl, e2, rfl⟩
abbrev Wn : WX := fun _ _ _ _ => False
section
variable {Z : Cx} {ca : Nat → Addr} {T : List (Addr × Str)} {W : WX} {tg iter elt : Expr} {ifs : List Expr} {scope : Scope} {own : List (Str × Nat)} {pos : Pos} {mi : Sl → M (List D)} {mg : D → Sl → M Sl} {mt : Sl → M Bool} {me : Sl → M D}
theorem Reps.inj_lst {K : PySem.W.Frag} {ρ : List Addr} {L : Addr → Prop} {H : Hp} {p : Addr} {vs ws : List V} (h : H p = some (.lst vs)) (h' : H p = some (.lst ws)) : vs = ws := by
  rw [h] at h'; cases h'; rfl
abbrev lcM (mi : Sl → M (List D)) (mg : D → Sl → M Sl) (mt : Sl → M Bool) (me : Sl → M D) (vs : List Nat) (σ : Sl) : M (List D) := bnd (mi σ) fun its => fun h => match compL (turnF mg mt me vs σ) its h with
      | some (ys, h1) => if ys.length ≤ szL then some (.ok ys, h1) else none
      | none => none
theorem lc_red {K : PySem.W.Frag} {vs : List Nat} {σ : L2.St} {H : Hp} {Q : VK} (h : rdF K ca T W (lcM mi mg mt me vs) σ H Q) : tLc (rdIt K ca T W mi) (rdG K ca T Wn vs mg) (rdB K ca T Wn mt) (rdV K ca T Wn me) vs σ H Q := by
  obtain ⟨L0, ρ, σd, hd, rh, rs, fn⟩ := h
  refine ⟨L0, ρ, σd, hd, rh, rs, ?_⟩
  unfold Fin
  unfold lcM bnd at fn
  cases e : mi σd hd with
  | none => simp only [e] at fn
  | some q =>
    obtain ⟨q, hd1⟩ := q
    cases q with
    | ex c pl => simp only [e] at fn; exact fn
    | ok its =>
      simp only [e] at fn
      intro ρ1 H1 p1 J hJ D hD
      cases ec : compL (turnF mg mt me vs σd) its hd1 with
      | none => simp only [ec] at fn
      | some q =>
        obtain ⟨ys, hdn⟩ := q
        simp only [ec] at fn
        by_cases hz : ys.length ≤ szL
        · rw [if_pos hz] at fn
          have rs1 := rs.keep rh p1
          have nH : ¬ Held H1 D := fun ⟨o, e, _⟩ => by rw [hD] at e; cases e
          have nL0 : ¬ L0 D := fun z => nH (p1.rel.l0 D z).1
          have hL : ∀ a, Plus L0 D a → L0 a ∨ ¬ Held H1 a := fun a z => z.imp id fun z => by rw [z]; exact nH
          refine ⟨fun i m H' => i ≤ its.length ∧ m = its.length - i ∧ ∃ ρi hdi done rest, Mono T L0 ρ1 hd1 H1 ρi hdi H' ∧ Fresh K ca T L0 ρi hdi H' done D ∧ compL (turnF mg mt me vs σd) (its.drop i) hdi = some (rest, hdn) ∧ done ++ rest = ys, ⟨its.length, Nat.zero_le _, rfl, ?_⟩, ?_⟩
          · obtain ⟨f1, m1⟩ := Fresh.new (ys := []) (vs := []) p1.rel (by simp [Reps]) hD
            exact ⟨ρ1, hd1, [], ys, m1, f1, ec, rfl⟩
          · rintro i m H' ⟨hle, rfl, ρi, hdi, done, rest, mo, fr, ed, ey⟩
            have jj := hJ (Plus L0 D) ρi hdi H' mo fr.rel hL i
            cases hget : its[i]? with
            | none =>
              have hge : its.length ≤ i := List.getElem?_eq_none_iff.mp hget
              refine .inl ⟨jj.2 hge, ?_⟩
              rw [List.drop_eq_nil_of_le hge] at ed
              cases ed
              rw [List.append_nil] at ey
              subst ey
              refine fn ρi H' D (p1.toMono.trans mo) (fun z => nH (p1.held D z)) fr
            | some d =>
              have hlt : i < its.length := (List.getElem?_eq_some_iff.mp hget).1
              obtain ⟨jg, jy⟩ := jj.1 d hget
              refine .inr ⟨jg, fun H'' => (i + 1 ≤ its.length ∧ its.length - (i + 1) = its.length - (i + 1) ∧ ∃ ρi hdi done rest, Mono T L0 ρ1 hd1 H1 ρi hdi H'' ∧ Fresh K ca T L0 ρi hdi H'' done D ∧ compL (turnF mg mt me vs σd) (its.drop (i + 1)) hdi = some (rest, hdn) ∧ done ++ rest = ys), fun H'' q => ⟨its.length - (i + 1), by omega, q⟩, fun x H2 hy => ?_⟩
              obtain ⟨po2, rx⟩ := jy x H2 hy
              have ed0 : its.drop i = d :: its.drop (i + 1) := by
                obtain ⟨hh, e0⟩ := List.getElem?_eq_some_iff.mp hget
                rw [← e0]; exact List.drop_eq_getElem_cons hh
              rw [ed0] at ed
              obtain ⟨y, h0, zs, et, ez, ers⟩ := compL_mem ed
              have mo2 : Mono T L0 ρ1 hd1 H1 ρi hdi H2 := mo.trans po2.toMono.cast
              have rs2 : RelS K ρi (Lv (Plus L0 D) ρi hdi) H2 (Ev.wipe σd vs) (L2.wipe σ vs) := (RelS.carry p1.rel mo2 hL rs1).wipe _
              refine ⟨Plus L0 D, ρi, Ev.wipe σd vs, hdi, d, po2.rel, rs2, rx, ?_⟩
              unfold turnF at et
              unfold Fin
              cases eg : mg d (Ev.wipe σd vs) hdi with
              | none => simp only [eg] at et; cases et
              | some q =>
                obtain ⟨q, hd3⟩ := q
                cases q with
                | ex c pl => simp only [eg] at et; cases et
                | ok σ3 =>
                  simp only [eg] at et
                  intro ρ3 H3 p3 σ3' rs3 hl3 hk3
                  refine ⟨(wipe_same hl3 hk3).trans wipe_wipe, Plus L0 D, ρ3, σ3, hd3, p3.rel, rs3, ?_⟩
                  unfold Fin
                  cases ett : mt σ3 hd3 with
                  | none => simp only [ett] at et; cases et
                  | some q =>
                    obtain ⟨q, hd4⟩ := q
                    cases q with
                    | ex c pl => simp only [ett] at et; cases et
                    | ok k =>
                      intro ρ4 H4 p4 k' ek
                      subst ek
                      cases k' with
                      | false =>
                        simp only [ett] at et
                        cases et
                        rw [if_neg (by simp)]
                        have p234 := (po2.trans p3).trans p4
                        refine ⟨hlt, rfl, ρ4, h0, done, zs, mo.trans p234.toMono.cast, ⟨p234.rel, fr.out, ?_⟩, ez, by rw [← ey, ers]⟩
                        obtain ⟨us, e1, e2⟩ := fr.at_
                        exact ⟨us, p234.keep D _ e1 (fr.rel.l0 D (.inr rfl)).2 (fun ps z => nomatch z), Reps.keep fr.rel p234 _ _ e2⟩
                      | true =>
                        simp only [ett] at et
                        rw [if_pos rfl]
                        refine ⟨Plus L0 D, ρ4, σ3, hd4, p4.rel, rs3.keep p3.rel p4, ?_⟩
                        unfold Fin
                        cases ee : me σ3 hd4 with
                        | none => simp only [ee] at et; cases et
                        | some q =>
                          obtain ⟨q, hd5⟩ := q
                          cases q with
                          | ex c pl => simp only [ee] at et; cases et
                          | ok y' =>
                            simp only [ee] at et
                            cases et
                            intro ρ5 H5 p5 v rv
                            have pall := ((po2.trans p3).trans p4).trans p5
                            obtain ⟨us, e1, e2⟩ := fr.at_
                            have e5 := pall.keep D _ e1 (fr.rel.l0 D (.inr rfl)).2 (fun ps z => nomatch z)
                            have r5 := Reps.keep fr.rel pall _ _ e2
                            have ers' : rest = y' :: zs := ers
                            refine ⟨us, e5, ?_, hlt, rfl, ρ5, h0, done ++ [y'], zs, (mo.trans pall.toMono.cast).out hD e5 (fun ps z => nomatch z) (fun ps z => nomatch z), Fresh.app p5.rel fr.out e5 r5 rv, ez, by rw [← ey, ers']; simp⟩
                            have hl : ys.length = done.length + (zs.length + 1) := by rw [← ey, ers']; simp
                            have hz' : ys.length ≤ sizeLine := by rw [← szL_eq]; exact hz
                            rw [← r5.length]
                            omega
        · rw [if_neg hz] at fn; exact False.elim fn
theorem s_lc (hc : Z.calm = true) (hN : Z.N.Nodup) (hi : pI Z ca T W tg iter mi) (ok : BlkOk Z.N Z.env.scope scope own)
    (hg : ∀ (s : Shared) (H : Hp) (C : Addr) (cl : List (Str × Addr)) (fp : List Addr), pG (Z.blk s H scope (compEnvC scope cl C Z.env) fp) ca T Wn (own.map (·.2)) tg mg)
    (ht : ∀ (s : Shared) (H : Hp) (C : Addr) (cl : List (Str × Addr)) (fp : List Addr), PTs (Z.blk s H scope (compEnvC scope cl C Z.env) fp) ifs (rdB Z.K ca T Wn mt))
    (he : ∀ (s : Shared) (H : Hp) (C : Addr) (cl : List (Str × Addr)) (fp : List Addr), pX (Z.blk s H scope (compEnvC scope cl C Z.env) fp) ca T Wn elt me) (hs : ∀ x, foldedSetIterable iter Z.env x = pure x) :
    pF Z ca T W (.ListComp elt [⟨tg, iter, ifs, 0⟩] scope pos) (lcM mi mg mt me (own.map (·.2))) :=
  PE.imp (pe_lc (te := rdV Z.K ca T Wn me) (g := rdG Z.K ca T Wn (own.map (·.2)) mg) hc hN hi ok hg ht he hs) fun σ H Q h => lc_red h
end
end Ev

set_option Elab.async false
set_option linter.all false
set_option maxRecDepth 100000
set_option maxHeartbeats 4000000
/-! Ev3j: texts cut apart. -/
namespace Ev
open PySem L2 PyProof.Rows
open Builtin Builtin.Str
theorem pre_iff : ∀ (a b : Nm), pre a b = true ↔ b.take a.length = a
  | [], b => by simp [pre]
  | x :: a, [] => by simp [pre]
  | x :: a, y :: b => by
    simp only [pre, Bool.and_eq_true, beq_iff_eq, List.length_cons, List.take_succ_cons, List.cons.injEq, pre_iff a b]
    exact ⟨fun h => ⟨h.1.symm, h.2⟩, fun h => ⟨h.1.symm, h.2⟩⟩
/-- where the places stand -/
def occG (sep : Nm) : Nm → Nat → Nat → List Nat
  | [], _, _ => []
  | x :: xs, i, 0 => if pre sep (x :: xs) then i :: occG sep xs (i + 1) (sep.length - 1) else occG sep xs (i + 1) 0
  | _ :: xs, i, k + 1 => occG sep xs (i + 1) k
theorem subAt_iff {s sep : Nm} {i : Nat} : subAt (St s) (St sep) i = true ↔ (s.drop i).take sep.length = sep := by
  unfold subAt
  rw [beq_iff_eq, St_length]
  show (s.toArray.extract i (i + sep.length)) = sep.toArray ↔ _
  constructor
  · intro h
    have := congrArg Array.toList h
    simpa [List.extract_eq_drop_take] using this
  · intro h
    apply Array.ext'
    simpa [List.extract_eq_drop_take] using h
theorem ne_pos {l : Nm} (h : l ≠ []) : 0 < l.length := by cases l with | nil => exact absurd rfl h | cons _ _ => simp
theorem fold_occ (s sep : Nm) (hs : sep ≠ []) : ∀ (xs : Nm) (i f : Nat) (found : Array Nat), xs = s.drop i → i ≤ s.length → found.size ≤ i → f - i ≤ xs.length →
    (forIn (List.range' i (xs.length + 1)) (found, f) (StrLaws.occBody (St s) (St sep) s.length (s.length + 1))).run.fst.toList = found.toList ++ occG sep xs i (f - i)
  | [], i, f, found, e, hi, hf, hk => by
    have hl : s.length ≤ i := by
      have := congrArg List.length e
      simp at this
      omega
    have hp := ne_pos hs
    have no : ¬ (((found.size < s.length + 1 ∧ f ≤ i) ∧ i + (St sep).length ≤ s.length) ∧ subAt (St s) (St sep) i = true) := by
      rw [St_length]; intro z; omega
    simp [List.range', StrLaws.occBody, occG, no]
  | x :: xs, i, f, found, e, hi, hf, hk => by
    have el : s.length = i + (xs.length + 1) := by
      have := congrArg List.length e
      simp at this
      omega
    have ex : xs = s.drop (i + 1) := by
      rw [← List.drop_drop, ← e]; rfl
    have hr : List.range' i ((x :: xs).length + 1) = i :: List.range' (i + 1) (xs.length + 1) := by
      rw [List.length_cons, List.range'_succ]
    rw [hr, List.forIn_cons]
    cases hsk : f - i with
    | succ k =>
      have no : ¬ (((found.size < s.length + 1 ∧ f ≤ i) ∧ i + (St sep).length ≤ s.length) ∧ subAt (St s) (St sep) i = true) := by
        intro z; omega
      have hb : StrLaws.occBody (St s) (St sep) s.length (s.length + 1) i (found, f) = pure (ForInStep.yield (found, f)) := by
        unfold StrLaws.occBody; rw [if_neg no]
      rw [hb, pure_bind]
      have ih := fold_occ s sep hs xs (i + 1) f found ex (by omega) (by omega) (by simp at hk; omega)
      have e3 : f - (i + 1) = k := by omega
      rw [e3] at ih
      simpa [occG] using ih
    | zero =>
      by_cases hp : pre sep (x :: xs) = true
      · have h1 := (pre_iff _ _).mp hp
        have hlen : sep.length ≤ xs.length + 1 := by
          have := congrArg List.length h1
          rw [List.length_take] at this
          simp at this
          omega
        have hpos := ne_pos hs
        have yes : (((found.size < s.length + 1 ∧ f ≤ i) ∧ i + (St sep).length ≤ s.length) ∧ subAt (St s) (St sep) i = true) := by
          refine ⟨⟨⟨by omega, by omega⟩, by rw [St_length]; omega⟩, subAt_iff.mpr ?_⟩
          rw [← e]; exact h1
        have hb : StrLaws.occBody (St s) (St sep) s.length (s.length + 1) i (found, f) = pure (ForInStep.yield (found.push i, i + sep.length)) := by
          unfold StrLaws.occBody; rw [if_pos yes, St_length]
        rw [hb, pure_bind]
        have ih := fold_occ s sep hs xs (i + 1) (i + sep.length) (found.push i) ex (by omega) (by simp; omega) (by omega)
        have e3 : i + sep.length - (i + 1) = sep.length - 1 := by omega
        rw [e3] at ih
        simp only [occG, if_pos hp]
        simpa using ih
      · have no : ¬ (((found.size < s.length + 1 ∧ f ≤ i) ∧ i + (St sep).length ≤ s.length) ∧ subAt (St s) (St sep) i = true) := by
          rintro ⟨_, z⟩
          have := subAt_iff.mp z
          rw [← e] at this
          exact hp ((pre_iff _ _).mpr this)
        have hb : StrLaws.occBody (St s) (St sep) s.length (s.length + 1) i (found, f) = pure (ForInStep.yield (found, f)) := by
          unfold StrLaws.occBody; rw [if_neg no]
        rw [hb, pure_bind]
        have ih := fold_occ s sep hs xs (i + 1) f found ex (by omega) (by omega) (by omega)
        have e3 : f - (i + 1) = 0 := by omega
        rw [e3] at ih
        simp only [occG, if_neg hp]
        exact ih
theorem occ_ok (s sep : Nm) (hs : sep ≠ []) : occurrences (St s) (St sep) 0 (St s).length ((St s).length + 1) = occG sep s 0 0 := by
  rw [StrLaws.occ_eq, St_length]
  have := fold_occ s sep hs s 0 0 #[] rfl (by omega) (by simp) (by simp)
  simpa using this
/-- the parts between -/
def pb (s : Nm) (w : Nat) : Nat → List Nat → List Nm
  | a, [] => [s.drop a]
  | a, c :: cs => (s.drop a).take (c - a) :: pb s w (c + w) cs
theorem zip_pb (s : Nm) (w : Nat) : ∀ (cuts : List Nat) (a : Nat), ((a :: cuts.map (· + w)).zip (cuts ++ [s.length])).map (fun (i, j) => strSub (St s) i j) = (pb s w a cuts).map St
  | [], a => by
    simp only [List.map_nil, List.nil_append, List.zip_cons_cons, List.zip_nil_right, List.map_cons, pb]
    congr 1
    unfold strSub
    show (⟨s.toArray.extract a s.length⟩ : Str) = ⟨(s.drop a).toArray⟩
    congr 1
    apply Array.ext'
    simp [List.extract_eq_drop_take]
    rw [List.take_of_length_le (by simp)]
  | c :: cs, a => by
    simp only [List.map_cons, List.cons_append, List.zip_cons_cons, pb]
    rw [← zip_pb s w cs (c + w)]
    congr 1
    unfold strSub
    show (⟨s.toArray.extract a c⟩ : Str) = ⟨((s.drop a).take (c - a)).toArray⟩
    congr 1
    apply Array.ext'
    simp [List.extract_eq_drop_take]
theorem pb_spl (s sep : Nm) (hs : sep ≠ []) : ∀ (xs : Nm) (i skip a : Nat) (acc : Nm), xs = s.drop i → i ≤ s.length → skip ≤ xs.length → a + acc.length = i + skip → (skip ≠ 0 → acc = []) → s.drop a = acc.reverse ++ xs.drop skip →
    pb s sep.length a (occG sep xs i skip) = splG sep xs skip acc
  | [], i, skip, a, acc, e, hi, hk, ha, hn, hd => by
    simp only [occG, pb, splG]
    rw [hd]; simp
  | x :: xs, i, k + 1, a, acc, e, hi, hk, ha, hn, hd => by
    have ex : xs = s.drop (i + 1) := by
      rw [← List.drop_drop, ← e]; rfl
    have el : s.length = i + (xs.length + 1) := by
      have := congrArg List.length e
      simp at this
      omega
    simp only [occG, splG]
    have h0 := hn (by simp)
    subst h0
    exact pb_spl s sep hs xs (i + 1) k a [] ex (by omega) (by simpa using hk) (by simp at ha ⊢; omega) (fun _ => rfl) (by simpa using hd)
  | x :: xs, i, 0, a, acc, e, hi, hk, ha, hn, hd => by
    have ex : xs = s.drop (i + 1) := by
      rw [← List.drop_drop, ← e]; rfl
    have el : s.length = i + (xs.length + 1) := by
      have := congrArg List.length e
      simp at this
      omega
    by_cases hp : pre sep (x :: xs) = true
    · have h1 := (pre_iff _ _).mp hp
      have hlen : sep.length ≤ xs.length + 1 := by
        have := congrArg List.length h1
        rw [List.length_take] at this
        simp at this
        omega
      have hpos := ne_pos hs
      simp only [occG, splG, if_pos hp, pb]
      congr 1
      · rw [hd]
        have : i - a = acc.reverse.length := by simp; omega
        rw [this, List.take_left]
      · refine pb_spl s sep hs xs (i + 1) (sep.length - 1) (i + sep.length) [] ex (by omega) (by omega) (by simp; omega) (fun _ => rfl) ?_
        rw [ex, List.drop_drop]
        simp
        congr 1
        omega
    · simp only [occG, splG, if_neg hp]
      exact pb_spl s sep hs xs (i + 1) 0 a (x :: acc) ex (by omega) (by omega) (by simp; omega) (fun z => absurd rfl z) (by rw [hd]; simp)
theorem kind_small {t : Nm} (h : t.all (fun c => decide (c < 128)) = true) : Str.strKind (St t) = 1 := by
  unfold Str.strKind
  rw [if_pos]
  show t.toArray.all (fun c => decide (c < 256)) = true
  rw [List.all_eq_true] at h
  have : t.toArray.all (fun c => decide (c < 256)) = t.all (fun c => decide (c < 256)) := by simp
  rw [this, List.all_eq_true]
  intro c hc
  have := h c hc
  simp only [decide_eq_true_eq] at this ⊢
  omega
theorem kind_pos (x : Str) : 1 ≤ Str.strKind x := by
  unfold Str.strKind
  split
  · omega
  · split <;> omega
theorem split_ok {s sep : Nm} (hs : sep ≠ []) (ha : sep.all (fun c => decide (c < 128)) = true) : Txt.split (St s) (St sep) = (splitS sep s).map St := by
  have hb : partsBetween (St s) (occurrences (St s) (St sep) 0 (St s).length ((St s).length + 1)) (St sep).length = (splitS sep s).map St := by
    rw [occ_ok s sep hs]
    unfold partsBetween
    rw [St_length, St_length]
    rw [zip_pb s sep.length _ 0]
    rw [pb_spl s sep hs s 0 0 0 [] rfl (by omega) (by omega) rfl (fun _ => rfl) (by simp)]
    rfl
  have one : occG sep s 0 0 = [] → (splitS sep s).map St = [St s] := fun h => by
    rw [← hb, occ_ok s sep hs, h]
    unfold partsBetween
    rw [St_length, St_length]
    rw [zip_pb s sep.length [] 0]
    simp [pb]
  unfold Txt.split
  by_cases h1 : (decide ((St s).length < (St sep).length) || decide (Str.strKind (St s) < Str.strKind (St sep))) = true
  · rw [if_pos h1]
    have hl : s.length < sep.length := by
      rw [kind_small ha] at h1
      have := kind_pos (St s)
      simp only [Bool.or_eq_true, decide_eq_true_eq, St_length] at h1
      omega
    refine (one ?_).symm
    have key : ∀ (xs : Nm) (i : Nat), xs.length < sep.length → occG sep xs i 0 = [] := by
      intro xs
      induction xs with
      | nil => intro i _; rfl
      | cons x xs ih =>
        intro i h
        have np : ¬ pre sep (x :: xs) = true := fun z => by
          have := congrArg List.length ((pre_iff _ _).mp z)
          rw [List.length_take] at this
          simp at this h
          omega
        simp only [occG, if_neg np]
        exact ih (i + 1) (by simp at h; omega)
    exact key s 0 hl
  · rw [if_neg h1]
    by_cases h2 : (occurrences (St s) (St sep) 0 (St s).length ((St s).length + 1)).isEmpty = true
    · rw [if_pos h2]
      rw [occ_ok s sep hs] at h2
      exact (one (List.isEmpty_iff.mp h2)).symm
    · rw [if_neg h2]; exact hb
section
variable {Z : Cx} {ca : Nat → Addr} {T : List (Addr × Str)}
theorem reps_str {K : PySem.W.Frag} {ρ : List Addr} {L : Addr → Prop} {H : Hp} : ∀ ts : List Nm, Reps K ρ L H (ts.map D.str) ((ts.map St).map V.str)
  | [] => by simp [Reps]
  | t :: ts => by
    simp only [List.map_cons, Reps]
    exact ⟨_, _, rfl, by rw [Rep], reps_str ts⟩
theorem ok_split : MtR Z "str.split" (rdMb ca T Z.K .split) := by
  refine MtR.imp (mt_split (X := Z)) fun x xs H Q h => ?_
  obtain ⟨L0, ρ, hd, dx, ds, r, rx, rs, h⟩ := h
  match dx, ds, h, rx, rs with
  | .str s, [.str sep], h, rx, rs =>
    simp only [mbD] at h
    obtain ⟨v, rfl, rv⟩ := reps1 rs
    rw [Rep] at rx rv; subst rx rv
    by_cases hz : (!sep.isEmpty && sep.all (fun c => decide (c < 128)) && decide (s.length + 2 ≤ szL)) = true
    · rw [if_pos hz] at h
      simp only [Bool.and_eq_true, Bool.not_eq_true', decide_eq_true_eq] at hz
      obtain ⟨⟨h1, h2⟩, h3⟩ := hz
      have hs : sep ≠ [] := fun z => by rw [z] at h1; cases h1
      refine ⟨St s, St sep, rfl, rfl, ?_, by rw [St_length, ← szL_eq]; exact h3, fun p hp => ?_⟩
      · rw [St_length]
        have := ne_pos hs
        simp; omega
      · rw [split_ok hs h2]
        have g : Gives Z.K ca T L0 ρ hd H (.lst ((splitS sep s).map .str)) Q := fun ρ' H' v' pp hh => h ρ' H' v' pp hh
        exact g.lst r (reps_str _) hp
    · rw [if_neg hz] at h; exact False.elim h
  | .str _, [], h, rx, rs => simp [mbD] at h
  | .str _, _ :: _ :: _, h, rx, rs => simp [mbD] at h
  | .str n, [.non], h, rx, rs | .str n, [.bl _], h, rx, rs | .str n, [.int _], h, rx, rs | .str n, [.lst _], h, rx, rs | .str n, [.tup _], h, rx, rs | .str n, [.wtp _], h, rx, rs | .str n, [.ro _], h, rx, rs | .str n, [.loc _], h, rx, rs => simp [mbD] at h
  | .non, _, h, rx, rs | .bl _, _, h, rx, rs | .int _, _, h, rx, rs | .tup _, _, h, rx, rs | .loc _, _, h, rx, rs | .wtp _, _, h, rx, rs | .lst _, _, h, rx, rs | .ro _, _, h, rx, rs => simp [mbD] at h
end
/-! ### where a sign stands -/
theorem fold_full (s sep : Str) (hi : Nat) : ∀ (l : List Nat) (found : Array Nat) (f : Nat), 1 ≤ found.size → (forIn l (found, f) (StrLaws.occBody s sep hi 1)).run.fst = found
  | [], found, f, h => rfl
  | i :: l, found, f, h => by
    rw [List.forIn_cons]
    have no : ¬ (((found.size < 1 ∧ f ≤ i) ∧ i + sep.length ≤ hi) ∧ subAt s sep i = true) := by intro z; omega
    have hb : StrLaws.occBody s sep hi 1 i (found, f) = pure (ForInStep.yield (found, f)) := by
      unfold StrLaws.occBody; rw [if_neg no]
    rw [hb, pure_bind]
    exact fold_full s sep hi l found f h
theorem fold_first (s : Nm) (c : Nat) : ∀ (xs : Nm) (i f : Nat), xs = s.drop i → i ≤ s.length → f ≤ i → c ∈ xs →
    (forIn (List.range' i (xs.length + 1)) ((#[] : Array Nat), f) (StrLaws.occBody (St s) (St [c]) s.length 1)).run.fst.toList = [i + xs.idxOf c]
  | [], i, f, e, hi, hf, hm => by cases hm
  | x :: xs, i, f, e, hi, hf, hm => by
    have el : s.length = i + (xs.length + 1) := by
      have := congrArg List.length e
      simp at this
      omega
    have ex : xs = s.drop (i + 1) := by
      rw [← List.drop_drop, ← e]; rfl
    have hr : List.range' i ((x :: xs).length + 1) = i :: List.range' (i + 1) (xs.length + 1) := by
      rw [List.length_cons, List.range'_succ]
    have hsub : subAt (St s) (St [c]) i = true ↔ x = c := by
      rw [subAt_iff, ← e]
      simp
    rw [hr, List.forIn_cons]
    by_cases hx : x = c
    · have yes : ((((#[] : Array Nat).size < 1 ∧ f ≤ i) ∧ i + (St [c]).length ≤ s.length) ∧ subAt (St s) (St [c]) i = true) := by
        refine ⟨⟨⟨by simp, hf⟩, by rw [St_length]; simp; omega⟩, hsub.mpr hx⟩
      have hb : StrLaws.occBody (St s) (St [c]) s.length 1 i (#[], f) = pure (ForInStep.yield ((#[] : Array Nat).push i, i + (St [c]).length)) := by
        unfold StrLaws.occBody; rw [if_pos yes]
      rw [hb, pure_bind]
      have := fold_full (St s) (St [c]) s.length (List.range' (i + 1) (xs.length + 1)) ((#[] : Array Nat).push i) (i + (St [c]).length) (by simp)
      show Array.toList (Id.run (forIn (List.range' (i + 1) (xs.length + 1)) ((#[] : Array Nat).push i, i + (St [c]).length) (StrLaws.occBody (St s) (St [c]) s.length 1))).fst = _
      rw [this]
      subst hx
      simp
    · have no : ¬ ((((#[] : Array Nat).size < 1 ∧ f ≤ i) ∧ i + (St [c]).length ≤ s.length) ∧ subAt (St s) (St [c]) i = true) := fun z => hx (hsub.mp z.2)
      have hb : StrLaws.occBody (St s) (St [c]) s.length 1 i (#[], f) = pure (ForInStep.yield ((#[] : Array Nat), f)) := by
        unfold StrLaws.occBody; rw [if_neg no]
      rw [hb, pure_bind]
      have hm' : c ∈ xs := by
        rcases List.mem_cons.mp hm with h | h
        · exact absurd h.symm hx
        · exact h
      have ih := fold_first s c xs (i + 1) f ex (by omega) (by omega) hm'
      show Array.toList (Id.run (forIn (List.range' (i + 1) (xs.length + 1)) ((#[] : Array Nat), f) (StrLaws.occBody (St s) (St [c]) s.length 1))).fst = _
      rw [List.idxOf_cons]
      have hb2 : (x == c) = false := by simpa using hx
      rw [hb2]
      simp only [cond_false]
      have e2 : i + (List.idxOf c xs + 1) = i + 1 + List.idxOf c xs := by omega
      rw [e2]
      exact ih
section
variable {Z : Cx} {ca : Nat → Addr} {T : List (Addr × Str)}
theorem ok_sindex : MtR Z "str.index" (rdMb ca T Z.K .sindex) := by
  refine MtR.imp (mt_sindex (X := Z)) fun x xs H Q h => ?_
  obtain ⟨L0, ρ, hd, dx, ds, r, rx, rs, h⟩ := h
  match dx, ds, h, rx, rs with
  | .str s, [.str [c]], h, rx, rs =>
    simp only [mbD] at h
    obtain ⟨v, rfl, rv⟩ := reps1 rs
    rw [Rep] at rx rv; subst rx rv
    by_cases hz : s.contains c = true
    · rw [if_pos hz] at h
      refine ⟨St s, St [c], s.idxOf c, [], rfl, rfl, ?_, h _ _ _ (Post.refl r) (by simp [Rep])⟩
      rw [StrLaws.occ_eq, St_length]
      have := fold_first s c s 0 0 rfl (by omega) (by omega) (by simpa using hz)
      simpa using this
    · rw [if_neg hz] at h; exact False.elim h
  | .str _, [], h, rx, rs => simp [mbD] at h
  | .str _, [.str []], h, rx, rs => simp [mbD] at h
  | .str _, [.str (_ :: _ :: _)], h, rx, rs => simp [mbD] at h
  | .str _, _ :: _ :: _, h, rx, rs => simp [mbD] at h
  | .str n, [.non], h, rx, rs | .str n, [.bl _], h, rx, rs | .str n, [.int _], h, rx, rs | .str n, [.lst _], h, rx, rs | .str n, [.tup _], h, rx, rs | .str n, [.wtp _], h, rx, rs | .str n, [.ro _], h, rx, rs | .str n, [.loc _], h, rx, rs => simp [mbD] at h
  | .non, _, h, rx, rs | .bl _, _, h, rx, rs | .int _, _, h, rx, rs | .tup _, _, h, rx, rs | .loc _, _, h, rx, rs | .wtp _, _, h, rx, rs | .lst _, _, h, rx, rs | .ro _, _, h, rx, rs => simp [mbD] at h
end
/-! ### comprehensions with two fors -/
section
variable {Z : Cx} {ca : Nat → Addr} {T : List (Addr × Str)} {W : WX} {tg iter tg1 iter1 elt : Expr} {ifs ifs1 : List Expr} {scope : Scope} {own : List (Str × Nat)} {vs1 : List Nat} {pos : Pos} {mi mi1 : Sl → M (List D)} {mg mg1 : D → Sl → M Sl} {mt mt1 : Sl → M Bool} {me : Sl → M D}
abbrev lc2M (mi : Sl → M (List D)) (mg : D → Sl → M Sl) (mt : Sl → M Bool) (mi1 : Sl → M (List D)) (mg1 : D → Sl → M Sl) (mt1 : Sl → M Bool) (me : Sl → M D) (vs vs1 : List Nat) (σ : Sl) : M D := bnd (mi σ) fun its => fun h =>
  match loopH (turnO mg mt mi1 (turnI mg1 mt1 me vs1 h.length) vs σ) its (h ++ [.lst []]) with
  | some h1 => some (.ok (.loc h.length), h1)
  | none => none
theorem loopH_cons {f : D → Hd → Option Hd} {x : D} {xs : List D} {h h2 : Hd} (e : loopH f (x :: xs) h = some h2) : ∃ h1, f x h = some h1 ∧ loopH f xs h1 = some h2 := by
  unfold loopH at e
  cases e1 : f x h with
  | none => simp only [e1] at e; cases e
  | some h1 => simp only [e1] at e; exact ⟨h1, rfl, e⟩
/-- a list of ours grows -/
theorem push_ok {K : PySem.W.Frag} {L0 : Addr → Prop} {ρ : List Addr} {hd hd' : Hd} {H : Hp} {n : Nat} {p : Addr} {y : D} {v : V} (r : RelH K ca T L0 ρ hd H) (hp : ρ[n]? = some p) (rv : Rep K ρ (Lv L0 ρ hd) H y v) (e : pushD n y hd = some hd') :
    ∃ acc, H p = some (.lst acc) ∧ acc.length < sizeLine ∧ Post K ca T L0 ρ hd H ρ hd' (upd H p (.lst (acc ++ [v]))) := by
  unfold pushD at e
  cases hn : hd[n]? with
  | none => simp only [hn] at e; cases e
  | some c =>
    cases c with
    | lst xs =>
      simp only [hn] at e
      by_cases hz : xs.length < szL
      · rw [if_pos hz] at e; cases e
        obtain ⟨us, e1, e2⟩ := r.cell n _ p hn hp
        refine ⟨us, e1, by rw [← e2.length, ← szL_eq]; exact hz, ?_⟩
        exact lst_write r hn hp (e2.append (by rw [Reps]; exact ⟨v, [], rfl, rv, by simp [Reps]⟩))
      · rw [if_neg hz] at e; cases e
    | ins c fs => simp only [hn] at e; cases e
    | dead => simp only [hn] at e; cases e
theorem Post.att {K : PySem.W.Frag} {L0 : Addr → Prop} {ρ ρ' : List Addr} {hd hd' : Hd} {H H' : Hp} {n : Nat} {p : Addr} (po : Post K ca T L0 ρ hd H ρ' hd' H') (h : ρ[n]? = some p) : ρ'[n]? = some p := by
  obtain ⟨m, e⟩ := po.ext
  rw [e, List.getElem?_append_left (List.getElem?_eq_some_iff.mp h).1]
  exact h
theorem drop_cons_of {α : Type} {l : List α} {i : Nat} {d : α} (h : l[i]? = some d) : l.drop i = d :: l.drop (i + 1) := by
  obtain ⟨hh, e0⟩ := List.getElem?_eq_some_iff.mp h
  rw [← e0]; exact List.drop_eq_getElem_cons hh
theorem lc2_red {K : PySem.W.Frag} {vs vs1 : List Nat} {σ : L2.St} {H : Hp} {Q : VK} (h : rdV K ca T W (lc2M mi mg mt mi1 mg1 mt1 me vs vs1) σ H Q) :
    tLc2 (rdIt K ca T W mi) (rdG K ca T Wn vs mg) (rdB K ca T Wn mt) (rdIt K ca T Wn mi1) (rdG K ca T Wn vs1 mg1) (rdB K ca T Wn mt1) (rdV K ca T Wn me) vs vs1 σ H Q := by
  obtain ⟨L0, ρ, σd, hd, rh, rs, fn⟩ := h
  refine ⟨L0, ρ, σd, hd, rh, rs, ?_⟩
  unfold Fin
  unfold lc2M bnd at fn
  cases e : mi σd hd with
  | none => simp only [e] at fn; exact fn
  | some q =>
    obtain ⟨q, hd1⟩ := q
    cases q with
    | ex c pl => simp only [e] at fn; exact fn
    | ok its =>
      simp only [e] at fn
      intro ρ1 H1 p1 J hJ D hD
      cases ec : loopH (turnO mg mt mi1 (turnI mg1 mt1 me vs1 hd1.length) vs σd) its (hd1 ++ [.lst []]) with
      | none => simp only [ec] at fn; exact False.elim fn
      | some hdn =>
        simp only [ec] at fn
        have rs1 := rs.keep rh p1
        have hLs : ∀ a, L0 a → L0 a ∨ ¬ Held H1 a := fun a z => .inl z
        have pg : Post K ca T L0 ρ1 hd1 H1 (ρ1 ++ [D]) (hd1 ++ [.lst []]) (upd H1 D (.lst [])) :=
          Post.grow p1.rel hD (fun z => nomatch z) (fun ps z => nomatch z) fun ρ' hd' H' _ e => ⟨[], e, by simp [Reps]⟩
        have at0 : (ρ1 ++ [D])[hd1.length]? = some D := by
          rw [← p1.rel.len]; simp
        refine ⟨fun i m H' => i ≤ its.length ∧ m = its.length - i ∧ ∃ ρi hdi, Post K ca T L0 ρ1 hd1 H1 ρi hdi H' ∧ ρi[hd1.length]? = some D ∧ loopH (turnO mg mt mi1 (turnI mg1 mt1 me vs1 hd1.length) vs σd) (its.drop i) hdi = some hdn,
          ⟨its.length, Nat.zero_le _, rfl, _, _, pg, at0, ec⟩, ?_⟩
        rintro i m H' ⟨hle, rfl, ρi, hdi, po, hat, ed⟩
        have jj := hJ L0 ρi hdi H' po.toMono po.rel hLs i
        cases hget : its[i]? with
        | none =>
          have hge : its.length ≤ i := List.getElem?_eq_none_iff.mp hget
          refine .inl ⟨jj.2 hge, ?_⟩
          rw [List.drop_eq_nil_of_le hge] at ed
          cases ed
          exact fn ρi H' (p1.trans po) (.ref D) (by rw [Rep]; exact ⟨D, rfl, hat⟩)
        | some d =>
          have hlt : i < its.length := (List.getElem?_eq_some_iff.mp hget).1
          obtain ⟨jg, jy⟩ := jj.1 d hget
          refine .inr ⟨jg, fun H'' => (i + 1 ≤ its.length ∧ its.length - (i + 1) = its.length - (i + 1) ∧ ∃ ρi hdi, Post K ca T L0 ρ1 hd1 H1 ρi hdi H'' ∧ ρi[hd1.length]? = some D ∧ loopH (turnO mg mt mi1 (turnI mg1 mt1 me vs1 hd1.length) vs σd) (its.drop (i + 1)) hdi = some hdn), fun H'' q => ⟨its.length - (i + 1), by omega, q⟩, fun x H2 hy => ?_⟩
          obtain ⟨po2, rx⟩ := jy x H2 hy
          rw [drop_cons_of hget] at ed
          obtain ⟨h0, et, ez⟩ := loopH_cons ed
          have rs2 : RelS K ρi (Lv L0 ρi hdi) H2 (Ev.wipe σd vs) (L2.wipe σ vs) := ((rs1.keep p1.rel po).keep po.rel po2).wipe _
          refine ⟨L0, ρi, Ev.wipe σd vs, hdi, d, po2.rel, rs2, rx, ?_⟩
          unfold turnO at et
          unfold Fin
          cases eg : mg d (Ev.wipe σd vs) hdi with
          | none => simp only [eg] at et; cases et
          | some q =>
            obtain ⟨q, hd3⟩ := q
            cases q with
            | ex c pl => simp only [eg] at et; cases et
            | ok σ3 =>
              simp only [eg] at et
              intro ρ3 H3 p3 σ3' rs3 hl3 hk3
              refine ⟨(wipe_same hl3 hk3).trans wipe_wipe, L0, ρ3, σ3, hd3, p3.rel, rs3, ?_⟩
              unfold Fin
              cases ett : mt σ3 hd3 with
              | none => simp only [ett] at et; cases et
              | some q =>
                obtain ⟨q, hd4⟩ := q
                cases q with
                | ex c pl => simp only [ett] at et; cases et
                | ok k =>
                  intro ρ4 H4 p4 k' ek
                  subst ek
                  have pall4 := ((po.trans po2).trans p3).trans p4
                  have at4 : ρ4[hd1.length]? = some D := ((po2.trans p3).trans p4).att hat
                  cases k' with
                  | false =>
                    simp only [ett] at et
                    cases et
                    rw [if_neg (by simp)]
                    exact ⟨hlt, rfl, ρ4, h0, pall4, at4, ez⟩
                  | true =>
                    simp only [ett] at et
                    rw [if_pos rfl]
                    refine ⟨L0, ρ4, σ3, hd4, p4.rel, rs3.keep p3.rel p4, ?_⟩
                    unfold Fin
                    cases e1 : mi1 σ3 hd4 with
                    | none => simp only [e1] at et; cases et
                    | some q =>
                      obtain ⟨q, hd5⟩ := q
                      cases q with
                      | ex c pl => simp only [e1] at et; cases et
                      | ok its1 =>
                        simp only [e1] at et
                        intro ρ5 H5 p5 J1 hJ1
                        have rs5 := (rs3.keep p3.rel p4).keep p4.rel p5
                        have at5 : ρ5[hd1.length]? = some D := p5.att at4
                        have pall5 := pall4.trans p5
                        have hL1 : ∀ a, L0 a → L0 a ∨ ¬ Held H5 a := fun a z => .inl z
                        refine ⟨fun j m H' => j ≤ its1.length ∧ m = its1.length - j ∧ ∃ ρj hdj, Post K ca T L0 ρ5 hd5 H5 ρj hdj H' ∧ ρj[hd1.length]? = some D ∧ loopH (turnI mg1 mt1 me vs1 hd1.length σ3) (its1.drop j) hdj = some h0,
                          ⟨its1.length, Nat.zero_le _, rfl, _, _, Post.refl p5.rel, at5, et⟩, ?_⟩
                        rintro j m H6 ⟨hle1, rfl, ρj, hdj, po1, hat1, ed1⟩
                        have jj1 := hJ1 L0 ρj hdj H6 po1.toMono po1.rel hL1 j
                        cases hget1 : its1[j]? with
                        | none =>
                          have hge : its1.length ≤ j := List.getElem?_eq_none_iff.mp hget1
                          refine .inl ⟨jj1.2 hge, ?_⟩
                          rw [List.drop_eq_nil_of_le hge] at ed1
                          cases ed1
                          exact ⟨hlt, rfl, ρj, h0, pall5.trans po1, hat1, ez⟩
                        | some d1 =>
                          have hlt1 : j < its1.length := (List.getElem?_eq_some_iff.mp hget1).1
                          obtain ⟨jg1, jy1⟩ := jj1.1 d1 hget1
                          refine .inr ⟨jg1, fun H'' => (j + 1 ≤ its1.length ∧ its1.length - (j + 1) = its1.length - (j + 1) ∧ ∃ ρj hdj, Post K ca T L0 ρ5 hd5 H5 ρj hdj H'' ∧ ρj[hd1.length]? = some D ∧ loopH (turnI mg1 mt1 me vs1 hd1.length σ3) (its1.drop (j + 1)) hdj = some h0), fun H'' q => ⟨its1.length - (j + 1), by omega, q⟩, fun x1 H7 hy1 => ?_⟩
                          obtain ⟨po7, rx1⟩ := jy1 x1 H7 hy1
                          rw [drop_cons_of hget1] at ed1
                          obtain ⟨h1, et1, ez1⟩ := loopH_cons ed1
                          have rs7 : RelS K ρj (Lv L0 ρj hdj) H7 (Ev.wipe σ3 vs1) (L2.wipe σ3' vs1) := ((rs5.keep p5.rel po1).keep po1.rel po7).wipe _
                          refine ⟨L0, ρj, Ev.wipe σ3 vs1, hdj, d1, po7.rel, rs7, rx1, ?_⟩
                          unfold turnI at et1
                          unfold Fin
                          cases eg1 : mg1 d1 (Ev.wipe σ3 vs1) hdj with
                          | none => simp only [eg1] at et1; cases et1
                          | some q =>
                            obtain ⟨q, hd8⟩ := q
                            cases q with
                            | ex c pl => simp only [eg1] at et1; cases et1
                            | ok σ8 =>
                              simp only [eg1] at et1
                              intro ρ8 H8 p8 σ8' rs8 hl8 hk8
                              refine ⟨(wipe_same hl8 hk8).trans wipe_wipe, L0, ρ8, σ8, hd8, p8.rel, rs8, ?_⟩
                              unfold Fin
                              cases ett1 : mt1 σ8 hd8 with
                              | none => simp only [ett1] at et1; cases et1
                              | some q =>
                                obtain ⟨q, hd9⟩ := q
                                cases q with
                                | ex c pl => simp only [ett1] at et1; cases et1
                                | ok k =>
                                  intro ρ9 H9 p9 k' ek
                                  subst ek
                                  have pall9 := ((po1.trans po7).trans p8).trans p9
                                  have at9 : ρ9[hd1.length]? = some D := ((po7.trans p8).trans p9).att hat1
                                  cases k' with
                                  | false =>
                                    simp only [ett1] at et1
                                    cases et1
                                    rw [if_neg (by simp)]
                                    exact ⟨hlt1, rfl, ρ9, h1, pall9, at9, ez1⟩
                                  | true =>
                                    simp only [ett1] at et1
                                    rw [if_pos rfl]
                                    refine ⟨L0, ρ9, σ8, hd9, p9.rel, rs8.keep p8.rel p9, ?_⟩
                                    unfold Fin
                                    cases ee : me σ8 hd9 with
                                    | none => simp only [ee] at et1; cases et1
                                    | some q =>
                                      obtain ⟨q, hd10⟩ := q
                                      cases q with
                                      | ex c pl => simp only [ee] at et1; cases et1
                                      | ok y =>
                                        simp only [ee] at et1
                                        intro ρ10 H10 p10 v rv
                                        obtain ⟨acc, a1, a2, a3⟩ := push_ok p10.rel (p10.att at9) rv et1
                                        exact ⟨acc, a1, a2, hlt1, rfl, ρ10, h1, (pall9.trans p10).trans a3, p10.att at9, ez1⟩
theorem s_lc2 (hc : Z.calm = true) (hN : Z.N.Nodup) (hi : pI Z ca T W tg iter mi) (ok : BlkOk Z.N Z.env.scope scope own) (hv : ∀ i ∈ vs1, i ∈ own.map (·.2))
    (hg : ∀ (s : Shared) (H : Hp) (C : Addr) (cl : List (Str × Addr)) (fp : List Addr), pG (Z.blk s H scope (compEnvC scope cl C Z.env) fp) ca T Wn (own.map (·.2)) tg mg)
    (ht : ∀ (s : Shared) (H : Hp) (C : Addr) (cl : List (Str × Addr)) (fp : List Addr), PTs (Z.blk s H scope (compEnvC scope cl C Z.env) fp) ifs (rdB Z.K ca T Wn mt))
    (hi1 : ∀ (s : Shared) (H : Hp) (C : Addr) (cl : List (Str × Addr)) (fp : List Addr), pI (Z.blk s H scope (compEnvC scope cl C Z.env) fp) ca T Wn tg1 iter1 mi1)
    (hg1 : ∀ (s : Shared) (H : Hp) (C : Addr) (cl : List (Str × Addr)) (fp : List Addr), pG (Z.blk s H scope (compEnvC scope cl C Z.env) fp) ca T Wn vs1 tg1 mg1)
    (ht1 : ∀ (s : Shared) (H : Hp) (C : Addr) (cl : List (Str × Addr)) (fp : List Addr), PTs (Z.blk s H scope (compEnvC scope cl C Z.env) fp) ifs1 (rdB Z.K ca T Wn mt1))
    (he : ∀ (s : Shared) (H : Hp) (C : Addr) (cl : List (Str × Addr)) (fp : List Addr), pX (Z.blk s H scope (compEnvC scope cl C Z.env) fp) ca T Wn elt me) (hs : ∀ x, foldedSetIterable iter Z.env x = pure x) (hs1 : ∀ env x, foldedSetIterable iter1 env x = pure x) :
    pX Z ca T W (.ListComp elt [⟨tg, iter, ifs, 0⟩, ⟨tg1, iter1, ifs1, 0⟩] scope pos) (lc2M mi mg mt mi1 mg1 mt1 me (own.map (·.2)) vs1) :=
  PE.imp (pe_lc2 (te := rdV Z.K ca T Wn me) (g := rdG Z.K ca T Wn (own.map (·.2)) mg) (g1 := rdG Z.K ca T Wn vs1 mg1) hc hN hi ok hv hg ht hi1 hg1 ht1 he hs hs1) fun σ H Q h => lc2_red h
end
end Ev

set_option Elab.async false
set_option linter.all false
set_option maxRecDepth 100000
set_option maxHeartbeats 4000000
/-! Ev3k: zip of a tuple and a list. -/
namespace Ev
open PySem L2 PyProof.Rows
open PySem.Sem (wp)
section
variable {prog : Program} {w : World} {A : Around} {E : Value → Shared → Prop} {s : Shared}
/-- how far a zip's turn has come: which places it may have touched -/
def Far (z TO i1 i2 : Addr) (h h' : Heap) : Prop := ∀ c o, c ≠ z → c ≠ TO → c ≠ i1 → c ≠ i2 → h.get? c = some o → h'.get? c = some o
theorem zipM_item {z TI TO i1 i2 l1 l2 : Addr} {k1 k2 : Nat} {xs ys : Array Value} {x y a b : Value} {Q : Value → Shared → Prop} (D : ZipApart z TI TO i1 i2 l1 l2)
    (hz : IsZip s.heap z TI TO .none) (hTI : IsPair s.heap TI (.ref i1) (.ref i2)) (hTO : IsPair s.heap TO a b)
    (h1 : s.heap.IsTupleIter i1 l1 k1) (h2 : s.heap.IsListIter i2 l2 k2) (hl1 : s.heap.IsTuple l1 xs) (hl2 : s.heap.IsList l2 ys) (hx : xs[k1]? = some x) (hy : ys[k2]? = some y)
    (hQ : ∀ h', IsZip h' z TI TO (rawInt s.heap.objs.size) → IsPair h' TO x y → h'.IsTupleIter i1 l1 (k1 + 1) → h'.IsListIter i2 l2 (k2 + 1) → IsPair h' s.heap.objs.size x y → h'.objs.size = s.heap.objs.size + 1 → Far z TO i1 i2 s.heap h' → Q (.ref s.heap.objs.size) { s with heap := h' }) :
    wpAny (model prog w) A (Builtin.«zip.__next__» ⟨[.ref z], []⟩) (fun fin s' => ∃ v, fin = .done (.ret v) ∧ Q v s') E s := by
  show wpAny _ _ (field (.ref z) 2 >>= _) _ _ _
  refine wpAny_bind (wpAny_field hz rfl (x := .bool false) rfl ?_)
  show wpAny _ _ (field (.ref z) 3 >>= _) _ _ _
  refine wpAny_bind (wpAny_field hz rfl (x := .ref TI) rfl (wpAny_bind (wpAny_seqItems hTI rfl ?_)))
  show wpAny _ _ (Builtin.SmallTypes.ownedTupleIsFree (.ref z) >>= _) _ _ _
  refine wpAny_bind ?_
  unfold Builtin.SmallTypes.ownedTupleIsFree
  refine wpAny_bind (wpAny_field hz rfl (x := .none) rfl (wpAny_pure ?_))
  simp only [if_true]
  refine wpAny_bind (wpAny_rule (wpAny_bind (wpAny_field hz rfl (x := .ref TO) rfl (wpAny_bind (wpAny_setField_rec hz (by simp) fun ha za sa => wpAny_bind ?_)))))
  replace za : IsZip ha z TI TO .ellipsis := za
  simp only [List.zipIdx_cons, List.zipIdx_nil, List.forIn_cons, List.forIn_nil]
  refine wpAny_bind (wpAny_bind (wpAny_onRaise ?_))
  show wpAny _ _ (Builtin.SmallTypes.nextOf (.ref i1) >>= _) _ _ _
  refine wpAny_bind (RZ.nextOf_tuple_item (h1.extBut sa.extBut D.i1z) (hl1.extBut sa.extBut D.l1z) hx fun hb ib sb => wpAny_pure ?_)
  have tb : IsPair hb TO a b := sb.extBut _ _ D.TOi1 (sa.extBut _ _ D.TOz hTO)
  refine wpAny_bind (wpAny_seqItems tb rfl (wpAny_bind (wpAny_updateSeq_pair tb fun hc tc sc => wpAny_bind (wpAny_letGo (wpAny_pure ?_)))))
  replace tc : IsPair hc TO x b := tc
  refine wpAny_bind (wpAny_bind (wpAny_onRaise ?_))
  show wpAny _ _ (Builtin.SmallTypes.nextOf (.ref i2) >>= _) _ _ _
  refine wpAny_bind (wpAny_nextOf_list_item (((h2.extBut sa.extBut D.i2z).extBut sb.extBut D.i12.symm).extBut sc.extBut D.TOi2.symm) (((hl2.extBut sa.extBut D.l2z).extBut sb.extBut D.l2i1).extBut sc.extBut D.l2TO) hy fun hd' id' sd => wpAny_pure ?_)
  have td : IsPair hd' TO x b := sd.extBut _ _ D.TOi2 tc
  refine wpAny_bind (wpAny_seqItems td rfl (wpAny_bind (wpAny_updateSeq_pair td fun he te se => wpAny_bind (wpAny_letGo (wpAny_pure (wpAny_pure ?_))))))
  replace te : IsPair he TO x y := te
  refine wpAny_bind (wpAny_seqItems te rfl (wpAny_bind (wpAny_newTuple ?_)))
  have hsz : he.objs.size = s.heap.objs.size := by rw [se.1, sd.1, sc.1, sb.1, sa.1]
  have ze : IsZip he z TI TO .ellipsis := se.extBut _ _ D.TOz.symm (sd.extBut _ _ D.i2z.symm (sc.extBut _ _ D.TOz.symm (sb.extBut _ _ D.i1z.symm za)))
  have fe : Far z TO i1 i2 s.heap he := fun c o c1 c2 c3 c4 e => se.extBut _ _ c2 (sd.extBut _ _ c4 (sc.extBut _ _ c2 (sb.extBut _ _ c3 (sa.extBut _ _ c1 e))))
  have i1e : he.IsTupleIter i1 l1 (k1 + 1) := ((ib.extBut sc.extBut D.TOi1.symm).extBut sd.extBut D.i12).extBut se.extBut D.TOi1.symm
  have i2e : he.IsListIter i2 l2 (k2 + 1) := id'.extBut se.extBut D.TOi2.symm
  have zlt : z < he.objs.size := Heap.lt_size ze
  show wpAny _ _ (Builtin.SmallTypes.ownedTupleHandOut (.ref z) (.ref he.objs.size) >>= _) _ _ _
  refine wpAny_bind ?_
  unfold Builtin.SmallTypes.ownedTupleHandOut
  have zf : IsZip (he.push { cls := .type "tuple", data := .seq #[x, y] }) z TI TO .ellipsis := Heap.get?_push_of_some _ ze
  refine wpAny_bind (wpAny_setField_rec zf (by simp) fun hg zg sg => ?_)
  replace zg : IsZip hg z TI TO (rawInt he.objs.size) := zg
  refine wpAny_setField_rec zg (by simp) fun hh zh sh => ?_
  replace zh : IsZip hh z TI TO (rawInt he.objs.size) := zh
  have up : ∀ c o, c ≠ z → he.get? c = some o → hh.get? c = some o := fun c o c1 e => sh.extBut _ _ c1 (sg.extBut _ _ c1 (Heap.get?_push_of_some _ e))
  have ph : IsPair hh he.objs.size x y := sh.extBut _ _ (Nat.ne_of_gt zlt) (sg.extBut _ _ (Nat.ne_of_gt zlt) (Heap.get?_push_size _ rfl))
  have szh : hh.objs.size = he.objs.size + 1 := by rw [sh.1, sg.1, Heap.size_push]
  rw [hsz] at zh ph szh
  refine wpAny_pure ⟨_, rfl, ?_⟩
  show Q (.ref he.objs.size) _
  rw [hsz]
  exact hQ hh zh (up _ _ D.TOz te) (i1e.at fun o e => up _ o D.i1z e) (i2e.at fun o e => up _ o D.i2z e) ph szh fun c o c1 c2 c3 c4 e => up c o c1 (fe c o c1 c2 c3 c4 e)
theorem zipM_end {z TI TO i1 i2 l1 l2 : Addr} {k1 k2 : Nat} {xs ys : Array Value} {a b : Value} {Q : PySem.Fin → Shared → Prop} (hh : A.handled = none) (D : ZipApart z TI TO i1 i2 l1 l2)
    (hz : IsZip s.heap z TI TO .none) (hTI : IsPair s.heap TI (.ref i1) (.ref i2)) (hTO : IsPair s.heap TO a b)
    (h1 : s.heap.IsTupleIter i1 l1 k1) (h2 : s.heap.IsListIter i2 l2 k2) (hl1 : s.heap.IsTuple l1 xs) (hl2 : s.heap.IsList l2 ys) (hend : xs[k1]? = none ∨ ys[k2]? = none)
    (hE : ∀ h' e, Far z TO i1 i2 s.heap h' → (∃ o, h'.get? e = some o ∧ o.cls = .type "StopIteration") → E (.ref e) { s with heap := h' }) :
    wpAny (model prog w) A (Builtin.«zip.__next__» ⟨[.ref z], []⟩) Q E s := by
  show wpAny _ _ (field (.ref z) 2 >>= _) _ _ _
  refine wpAny_bind (wpAny_field hz rfl (x := .bool false) rfl ?_)
  show wpAny _ _ (field (.ref z) 3 >>= _) _ _ _
  refine wpAny_bind (wpAny_field hz rfl (x := .ref TI) rfl (wpAny_bind (wpAny_seqItems hTI rfl ?_)))
  show wpAny _ _ (Builtin.SmallTypes.ownedTupleIsFree (.ref z) >>= _) _ _ _
  refine wpAny_bind ?_
  unfold Builtin.SmallTypes.ownedTupleIsFree
  refine wpAny_bind (wpAny_field hz rfl (x := .none) rfl (wpAny_pure ?_))
  simp only [if_true]
  refine wpAny_bind (wpAny_rule (wpAny_bind (wpAny_field hz rfl (x := .ref TO) rfl (wpAny_bind (wpAny_setField_rec hz (by simp) fun ha za sa => wpAny_bind ?_)))))
  replace za : IsZip ha z TI TO .ellipsis := za
  simp only [List.zipIdx_cons, List.zipIdx_nil, List.forIn_cons, List.forIn_nil]
  refine wpAny_bind (wpAny_bind (wpAny_onRaise ?_))
  show wpAny _ _ (Builtin.SmallTypes.nextOf (.ref i1) >>= _) _ _ _
  have stop : ∀ {h h' : Heap} {e : Addr}, IsZip h' z TI TO .ellipsis → Far z TO i1 i2 s.heap h' → (∃ o, h'.get? e = some o ∧ o.cls = .type "StopIteration") →
      ∀ h'', Heap.SameBut z h' h'' → E (.ref e) { s with heap := h'' } := fun {h h' e} hz' f ⟨oe, hoe, hce⟩ h'' sb => by
    have hez : e ≠ z := fun x => by subst x; rw [hz'] at hoe; cases hoe; simp at hce
    exact hE h'' e (fun c o c1 c2 c3 c4 x => sb.extBut _ _ c1 (f c o c1 c2 c3 c4 x)) ⟨oe, sb.extBut _ _ hez hoe, hce⟩
  cases hx : xs[k1]? with
  | none =>
    refine wpAny_bind (RZ.nextOf_tuple_end hh (h1.extBut sa.extBut D.i1z) (hl1.extBut sa.extBut D.l1z) hx fun hb e sb he => ?_)
    have zb : IsZip hb z TI TO .ellipsis := sb _ _ D.i1z.symm za
    exact wpAny_setField_rec zb (by simp) fun hc _ sc => stop (h := hb) zb (fun c o c1 _ c3 _ x => sb _ _ c3 (sa.extBut _ _ c1 x)) he hc sc
  | some x =>
    have hy : ys[k2]? = none := by rcases hend with h | h; rw [hx] at h; cases h; exact h
    refine wpAny_bind (RZ.nextOf_tuple_item (h1.extBut sa.extBut D.i1z) (hl1.extBut sa.extBut D.l1z) hx fun hb ib sb => wpAny_pure ?_)
    have tb : IsPair hb TO a b := sb.extBut _ _ D.TOi1 (sa.extBut _ _ D.TOz hTO)
    refine wpAny_bind (wpAny_seqItems tb rfl (wpAny_bind (wpAny_updateSeq_pair tb fun hc tc sc => wpAny_bind (wpAny_letGo (wpAny_pure ?_)))))
    refine wpAny_bind (wpAny_bind (wpAny_onRaise ?_))
    show wpAny _ _ (Builtin.SmallTypes.nextOf (.ref i2) >>= _) _ _ _
    refine wpAny_bind (wpAny_nextOf_list_end hh (((h2.extBut sa.extBut D.i2z).extBut sb.extBut D.i12.symm).extBut sc.extBut D.TOi2.symm) (((hl2.extBut sa.extBut D.l2z).extBut sb.extBut D.l2i1).extBut sc.extBut D.l2TO) hy fun hd' e sd he => ?_)
    have zd : IsZip hd' z TI TO .ellipsis := sd _ _ D.i2z.symm (sc.extBut _ _ D.TOz.symm (sb.extBut _ _ D.i1z.symm za))
    exact wpAny_setField_rec zd (by simp) fun hf _ sf => stop (h := hd') zd (fun c o c1 c2 c3 c4 x => sd _ _ c4 (sc.extBut _ _ c2 (sb.extBut _ _ c3 (sa.extBut _ _ c1 x)))) he hf sf
/-- the next pair, or none -/
theorem nextM_item {z TI TO i1 i2 l1 l2 : Addr} {k1 k2 : Nat} {xs ys : Array Value} {x y a b : Value} {Q : Option Value → Shared → Prop} (D : ZipApart z TI TO i1 i2 l1 l2)
    (hz : IsZip s.heap z TI TO .none) (hTI : IsPair s.heap TI (.ref i1) (.ref i2)) (hTO : IsPair s.heap TO a b)
    (h1 : s.heap.IsTupleIter i1 l1 k1) (h2 : s.heap.IsListIter i2 l2 k2) (hl1 : s.heap.IsTuple l1 xs) (hl2 : s.heap.IsList l2 ys) (hx : xs[k1]? = some x) (hy : ys[k2]? = some y)
    (hQ : ∀ h', IsZip h' z TI TO (rawInt s.heap.objs.size) → IsPair h' TO x y → h'.IsTupleIter i1 l1 (k1 + 1) → h'.IsListIter i2 l2 (k2 + 1) → IsPair h' s.heap.objs.size x y → h'.objs.size = s.heap.objs.size + 1 → Far z TO i1 i2 s.heap h' → Q (some (.ref s.heap.objs.size)) { s with heap := h' }) :
    wpAny (model prog w) A (pyNext (.ref z)) Q E s := by
  have hT : s.TypeIs (.ref z) "zip" := ⟨_, hz, rfl⟩
  unfold pyNext
  refine wpAny_bind (wpAny_attempt (wpAny_callSpecial?_slot (name := Str.ofString "__next__") hT PySem.F.slot_zip_next (wpAny_call_entry PySem.F.slot_zip_next hT PySem.F.entry_zip_next ?_ (PySem.F.args_zip_next_1 _))))
  exact zipM_item D hz hTI hTO h1 h2 hl1 hl2 hx hy fun h' a1 a2 a3 a4 a5 a6 a7 => wpAny_pure (hQ h' a1 a2 a3 a4 a5 a6 a7)
theorem nextM_end {z TI TO i1 i2 l1 l2 : Addr} {k1 k2 : Nat} {xs ys : Array Value} {a b : Value} {Q : Option Value → Shared → Prop} (hh : A.handled = none) (D : ZipApart z TI TO i1 i2 l1 l2)
    (hz : IsZip s.heap z TI TO .none) (hTI : IsPair s.heap TI (.ref i1) (.ref i2)) (hTO : IsPair s.heap TO a b)
    (h1 : s.heap.IsTupleIter i1 l1 k1) (h2 : s.heap.IsListIter i2 l2 k2) (hl1 : s.heap.IsTuple l1 xs) (hl2 : s.heap.IsList l2 ys) (hend : xs[k1]? = none ∨ ys[k2]? = none)
    (hQ : ∀ h', Far z TO i1 i2 s.heap h' → Q none { s with heap := h' }) : wpAny (model prog w) A (pyNext (.ref z)) Q E s := by
  have hT : s.TypeIs (.ref z) "zip" := ⟨_, hz, rfl⟩
  unfold pyNext
  refine wpAny_bind (wpAny_attempt (wpAny_callSpecial?_slot (name := Str.ofString "__next__") hT PySem.F.slot_zip_next (wpAny_call_entry PySem.F.slot_zip_next hT PySem.F.entry_zip_next ?_ (PySem.F.args_zip_next_1 _))))
  refine zipM_end hh D hz hTI hTO h1 h2 hl1 hl2 hend fun h' e hk ⟨o, ho, hc⟩ => ?_
  exact wpAny_bind (wpAny_isInstance (T := "StopIteration") (b := true) ⟨o, ho, hc⟩ isSubtype_stop (wpAny_pure (hQ _ hk)))
end
/-- the places that a new zip takes -/
def hpM (h : Heap) (l1 l2 : Addr) : Heap := ((((h.push { cls := .type "tuple_iterator", data := .fields #[.ref l1, .int 0 0] }).push { cls := .type "list_iterator", data := .fields #[.ref l2, .int 0 0] }).push
  { cls := .type "tuple", data := .seq #[.ref h.objs.size, .ref (h.objs.size + 1)] }).push { cls := .type "tuple", data := .seq #[.none, .none] }).push
  { cls := .type "zip", data := .fields #[.none, .bool false, .bool false, .ref (h.objs.size + 2), .ref (h.objs.size + 3)] }
theorem meets_zipM (l1 l2 : Addr) (xs ys : Array Value) :
    Meets (Builtin.«zip.__new__» ⟨[.type "zip", .ref l1, .ref l2], []⟩) (fun _ R s => s.heap.IsTuple l1 xs ∧ s.heap.IsList l2 ys ∧ R (.ok (.ret (.ref (s.heap.objs.size + 4)))) { s with heap := hpM s.heap l1 l2 }) :=
  .of_wp fun prog w A R s h => by
    obtain ⟨hp, g, d, tk, os⟩ := s; obtain ⟨hl1, hl2, h⟩ := h
    have hsub := sub_zip
    have hL1 : Heap.IsTuple (Shared.heap ⟨hp, g, d, tk, os⟩) l1 xs := hl1
    have hL2 : Heap.IsList (Shared.heap ⟨hp.push { cls := .type "tuple_iterator", data := .fields #[.ref l1, .int 0 0] }, g, d, tk, os⟩) l2 ys := Heap.IsList.push hl2 _
    wp_walk using wpAny_pyIter_tuple hL1, wpAny_pyIter_list hL2
    refine ⟨_, rfl, ?_⟩
    simp only [Heap.size_push]
    exact h
section
variable {prog : Program} {w : World} {A : Around} {E : Value → Shared → Prop} {s : Shared}
theorem call_zipM {l1 l2 : Addr} {xs ys : Array Value} {Q : Value → Shared → Prop} (hl1 : s.heap.IsTuple l1 xs) (hl2 : s.heap.IsList l2 ys)
    (h : ∀ h', IsZip h' (s.heap.objs.size + 4) (s.heap.objs.size + 2) (s.heap.objs.size + 3) .none → IsPair h' (s.heap.objs.size + 2) (.ref s.heap.objs.size) (.ref (s.heap.objs.size + 1)) →
      IsPair h' (s.heap.objs.size + 3) .none .none → h'.IsTupleIter s.heap.objs.size l1 0 → h'.IsListIter (s.heap.objs.size + 1) l2 0 →
      (∀ c o, s.heap.get? c = some o → h'.get? c = some o) → Q (.ref (s.heap.objs.size + 4)) { s with heap := h' }) :
    wpAny (model prog w) A (call (.type "zip") [.ref l1, .ref l2]) Q E s := by
  refine callType_new PySem.F.called_zip (by decide) (PySem.F.typeCall_zip_2 _ _) (PySem.F.newCall_zip_2 _ _) (fun obj => PySem.F.args_object_init_3 obj _ _) PySem.F.entry_zip_new (meets_zipM l1 l2 xs ys) ⟨hl1, hl2, ?_⟩
  have up : ∀ (h : Heap) (o : Obj) (c : Addr) (u : Obj), h.get? c = some u → (h.push o).get? c = some u := fun h o c u e => Heap.get?_push_of_some _ e
  have nw : ∀ (h : Heap) (o : Obj) (n : Nat), h.objs.size = n → o.isFreed = false → (h.push o).get? n = some o := fun h o n e f => by subst e; exact Heap.get?_push_size _ f
  have sz : ∀ (h : Heap) (o : Obj) (n : Nat), h.objs.size = n → (h.push o).objs.size = n + 1 := fun h o n e => by rw [Heap.size_push, e]
  have z := nw _ { cls := .type "zip", data := .fields #[.none, .bool false, .bool false, .ref (s.heap.objs.size + 2), .ref (s.heap.objs.size + 3)] } (s.heap.objs.size + 4) (sz _ { cls := .type "tuple", data := .seq #[.none, .none] } _ (sz _ { cls := .type "tuple", data := .seq #[.ref s.heap.objs.size, .ref (s.heap.objs.size + 1)] } _ (sz _ { cls := .type "list_iterator", data := .fields #[.ref l2, .int 0 0] } _ (sz s.heap { cls := .type "tuple_iterator", data := .fields #[.ref l1, .int 0 0] } _ rfl)))) rfl
  have p1 := up _ { cls := .type "zip", data := .fields #[.none, .bool false, .bool false, .ref (s.heap.objs.size + 2), .ref (s.heap.objs.size + 3)] } _ _ (nw _ { cls := .type "tuple", data := .seq #[.none, .none] } (s.heap.objs.size + 3) (sz _ { cls := .type "tuple", data := .seq #[.ref s.heap.objs.size, .ref (s.heap.objs.size + 1)] } _ (sz _ { cls := .type "list_iterator", data := .fields #[.ref l2, .int 0 0] } _ (sz s.heap { cls := .type "tuple_iterator", data := .fields #[.ref l1, .int 0 0] } _ rfl))) rfl)
  have p2 := up _ { cls := .type "zip", data := .fields #[.none, .bool false, .bool false, .ref (s.heap.objs.size + 2), .ref (s.heap.objs.size + 3)] } _ _ (up _ { cls := .type "tuple", data := .seq #[.none, .none] } _ _ (nw _ { cls := .type "tuple", data := .seq #[.ref s.heap.objs.size, .ref (s.heap.objs.size + 1)] } (s.heap.objs.size + 2) (sz _ { cls := .type "list_iterator", data := .fields #[.ref l2, .int 0 0] } _ (sz s.heap { cls := .type "tuple_iterator", data := .fields #[.ref l1, .int 0 0] } _ rfl)) rfl))
  have p3 := up _ { cls := .type "zip", data := .fields #[.none, .bool false, .bool false, .ref (s.heap.objs.size + 2), .ref (s.heap.objs.size + 3)] } _ _ (up _ { cls := .type "tuple", data := .seq #[.none, .none] } _ _ (up _ { cls := .type "tuple", data := .seq #[.ref s.heap.objs.size, .ref (s.heap.objs.size + 1)] } _ _ (nw _ { cls := .type "list_iterator", data := .fields #[.ref l2, .int 0 0] } (s.heap.objs.size + 1) (sz s.heap { cls := .type "tuple_iterator", data := .fields #[.ref l1, .int 0 0] } _ rfl) rfl)))
  have p4 := up _ { cls := .type "zip", data := .fields #[.none, .bool false, .bool false, .ref (s.heap.objs.size + 2), .ref (s.heap.objs.size + 3)] } _ _ (up _ { cls := .type "tuple", data := .seq #[.none, .none] } _ _ (up _ { cls := .type "tuple", data := .seq #[.ref s.heap.objs.size, .ref (s.heap.objs.size + 1)] } _ _ (up _ { cls := .type "list_iterator", data := .fields #[.ref l2, .int 0 0] } _ _ (nw s.heap { cls := .type "tuple_iterator", data := .fields #[.ref l1, .int 0 0] } _ rfl rfl))))
  exact ⟨⟨_, z, rfl⟩, h _ z p2 p1 ⟨_, p4, rfl, rfl⟩ ⟨_, p3, rfl, rfl⟩ fun c o x => up _ _ _ _ (up _ _ _ _ (up _ _ _ _ (up _ _ _ _ (up _ _ _ _ x))))⟩
end
/-- the tuple at a and the list at b as they stand at each turn, the items in new pairs -/
def ItzM (K : PySem.W.Frag) (a b : Addr) : L2.It :=
  ⟨fun i H => ∃ (xs ys : List V) (x y : V), SqT K H a xs ∧ SqL K H b ys ∧ xs[i]? = some x ∧ ys[i]? = some y,
    fun i H v H' => ∃ T x y, v = .ref T ∧ H T = none ∧ H' = upd H T (.tup [x, y]) ∧ (∀ xs, SqT K H a xs → xs[i]? = some x) ∧ ∀ ys, SqL K H b ys → ys[i]? = some y,
    fun i H => ∃ xs ys : List V, SqT K H a xs ∧ SqL K H b ys ∧ (xs.length ≤ i ∨ ys.length ≤ i)⟩
theorem turn_zipM {P : Program} {w : World} {K : PySem.W.Frag} {elts : List Expr} {kk : Nat} {tpos : Pos} {a b z TI TO i1 i2 : Addr} (D : ZipApart z TI TO i1 i2 a b) :
    Turn P w K (.Tuple elts kk tpos) (ItzM K a b) [z, TI, TO, i1, i2] z (fun i h => IsZip h z TI TO .none ∧ IsPair h TI (.ref i1) (.ref i2) ∧ (∃ x y, IsPair h TO x y) ∧ h.IsTupleIter i1 a i ∧ h.IsListIter i2 b i) where
  mem := by simp
  obj := fun i h st c hc => by
    obtain ⟨hz, hTI, ⟨x, y, hTO⟩, ⟨o1, e1, _, d1⟩, ⟨o2, e2, _, d2⟩⟩ := st
    simp only [List.mem_cons, List.not_mem_nil, or_false] at hc
    rcases hc with rfl | rfl | rfl | rfl | rfl
    · exact ⟨_, hz, fun v q => nomatch q⟩
    · exact ⟨_, hTI, fun v q => nomatch q⟩
    · exact ⟨_, hTO, fun v q => nomatch q⟩
    · exact ⟨o1, e1, fun v q => by rw [d1] at q; cases q⟩
    · exact ⟨o2, e2, fun v q => by rw [d2] at q; cases q⟩
  keep := fun i h h' st k => by
    obtain ⟨hz, hTI, ⟨x, y, hTO⟩, h1, h2⟩ := st
    exact ⟨k z (by simp) _ hz, k TI (by simp) _ hTI, ⟨x, y, k TO (by simp) _ hTO⟩, h1.at fun o q => k i1 (by simp) o q, h2.at fun o q => k i2 (by simp) o q⟩
  item := by
    intro X hP hw hK hc i pins s σ H E I hf st hg
    subst hP hw hK
    obtain ⟨hz, hTI, ⟨x0, y0, hTO⟩, h1, h2⟩ := st
    obtain ⟨xs, ys, x, y, hqx, hqy, hx, hy⟩ := hg
    obtain ⟨its, rv, p, _⟩ := I.tuple hqx
    obtain ⟨its2, rv2, p2, _⟩ := I.list hqy
    obtain ⟨u, hu, ru⟩ := rv.get hx
    obtain ⟨u2, hu2, ru2⟩ := rv2.get hy
    have hzl : z < s.heap.objs.size := Heap.lt_size hz
    have lt : ∀ c ∈ [z, TI, TO, i1, i2], c < s.heap.objs.size := fun c hc => by
      simp only [List.mem_cons, List.not_mem_nil, or_false] at hc
      rcases hc with rfl | rfl | rfl | rfl | rfl
      · exact hzl
      · exact Heap.lt_size hTI
      · exact Heap.lt_size hTO
      · obtain ⟨_, e1, _⟩ := h1; exact Heap.lt_size e1
      · obtain ⟨_, e2, _⟩ := h2; exact Heap.lt_size e2
    refine nextM_item D hz hTI hTO h1 h2 p p2.isList (x := u) (y := u2) (by simpa using hu) (by simpa using hu2) fun h' z' TO' h1' h2' hT hsz hk => ?_
    refine ⟨_, rfl, wpAny_letOwnedTupleGo_zip (s := { s with heap := h' }) z' fun h'' z'' sb => ?_⟩
    have hT2 : h''.get? s.heap.objs.size = some { cls := .type "tuple", data := .seq #[u, u2] } := (sb.2 _ (Nat.ne_of_gt hzl)).trans hT
    have new : ObjOk X.prog X.w (upd H s.heap.objs.size (.tup [x, y])) h'' s.heap.objs.size (.tup [x, y]) :=
      ⟨by show 2 ≤ sizeLine; decide, [u, u2], .cons ru (.cons ru2 .nil), ⟨_, hT2, rfl, _, rfl⟩⟩
    have out : ∀ c, c ∉ [z, TI, TO, i1, i2] → c ≠ z ∧ c ≠ TO ∧ c ≠ i1 ∧ c ≠ i2 := fun c hb => ⟨fun q => hb (by simp [q]), fun q => hb (by simp [q]), fun q => hb (by simp [q]), fun q => hb (by simp [q])⟩
    have I1 : Inv X pins σ (upd H s.heap.objs.size (.tup [x, y])) { s with heap := h'' } :=
      I.turnedNew (t' := s.toks) (ch := [z, TI, TO, i1, i2]) (fun c o hb q => let ⟨c1, c2, c3, c4⟩ := out c hb; (sb.2 c c1).trans (hk c o c1 c2 c3 c4 q)) hf (Nat.le_refl _) new
    refine ⟨.ref s.heap.objs.size, _, I1, rfl, ⟨_, x, y, rfl, I.hok.fresh (Nat.le_refl _), rfl, fun l hl => by rw [I.tuple_inj hl hqx]; exact hx, fun l hl => by rw [I.list_inj hl hqy]; exact hy⟩,
      ⟨z'', (sb.2 _ D.TIz).trans (hk _ _ D.TIz D.TITO D.TIi1 D.TIi2 hTI), ⟨u, u2, (sb.2 _ D.TOz).trans TO'⟩, h1'.at fun o q => (sb.2 _ D.i1z).trans q, h2'.at fun o q => (sb.2 _ D.i2z).trans q⟩, fun c hcm => ?_⟩
    rw [upd_ne (Nat.ne_of_lt (lt c hcm))]
    exact (hf c hcm).1
  done := by
    intro X hP hw hK hc i pins s σ H E I hf st hg
    subst hP hw hK
    obtain ⟨hz, hTI, ⟨x0, y0, hTO⟩, h1, h2⟩ := st
    obtain ⟨xs, ys, hqx, hqy, hend⟩ := hg
    obtain ⟨its, rv, p, _⟩ := I.tuple hqx
    obtain ⟨its2, rv2, p2, _⟩ := I.list hqy
    have l1 := rv.length
    have l2 := rv2.length
    have he : its.toArray[i]? = none ∨ its2.toArray[i]? = none := hend.imp (fun q => by simp; omega) (fun q => by simp; omega)
    refine nextM_end (I.ok.hd hc) D hz hTI hTO h1 h2 p p2.isList he fun h' hk => ⟨rfl, I.turnedL (t' := s.toks) (ch := [z, TI, TO, i1, i2]) (fun c o hb q => hk c o ?_ ?_ ?_ ?_ q) hf⟩ <;> exact fun q' => hb (by simp [q'])
  self := fun A i s Q E st h => wpAny_pyIter_zip st.1 h
def iZipM (K : PySem.W.Frag) (ta : TA) : TI := fun σ H R => ta σ H fun vs H1 => ∃ a b xs ys, vs = [.ref a, .ref b] ∧ ((SqT K H1 a xs ∧ SqL K H1 b ys ∧ R (ItzM K a b) H1) ∨ (SqL K H1 a xs ∧ SqL K H1 b ys ∧ R (Itz K a b) H1) ∨ (SqT K H1 a xs ∧ SqT K H1 b ys ∧ R (RZ.ItzT K a b) H1))
theorem pi_zipM {X : Cx} {e e2 : Expr} {ta : TA} {p pos tpos : Pos} {elts : List Expr} {kk : Nat} (hg : Gl X "zip") (hm : X.mg "zip" = none) (ha : PA X [e, e2] ta)
    (hs : starEach [e, e2] X.env = (false, eval e X.env) :: starEach [e2] X.env) (hpl : (backTo pos (starEach [e2] X.env)).any (·.1) = false) :
    PI X (.Tuple elts kk tpos) (.Call (.Name "zip" p) [e, e2] [] pos) (iZipM X.K ta) := by
  refine ⟨fun pins s σ H R I h => ?_⟩
  refine Call_ (ld_blt I hg hm PyProof.Rows.boot_zip (PyProof.Rows.callWith_type1 (thn (ha.run pos pins s σ H _ I h) fun us s1 ⟨vs, H1, I1, r1, q1⟩ => ?_) hs hpl))
  obtain ⟨a, b, xs, ys, ex, q1⟩ := q1
  subst ex
  cases r1 with
  | cons r rr =>
    cases rr with
    | cons r' rr =>
      cases rr
      cases r
      cases r'
      have fresh5 : ∀ c, c ∈ [s1.heap.objs.size + 4, s1.heap.objs.size + 2, s1.heap.objs.size + 3, s1.heap.objs.size, s1.heap.objs.size + 1] → FpOk X pins H1 c := fun c hcm => by
        have hle : s1.heap.objs.size ≤ c := by
          simp only [List.mem_cons, List.not_mem_nil, or_false] at hcm
          omega
        exact I1.fpOk hle (I1.hok.fresh hle)
      rcases q1 with ⟨hqx, hqy, q⟩ | ⟨hqx, hqy, q⟩ | ⟨hqx, hqy, q⟩
      · obtain ⟨its, rv, p1, _⟩ := I1.tuple hqx
        obtain ⟨its2, rv2, p2, _⟩ := I1.list hqy
        obtain ⟨o1, ho1, _⟩ := id p1
        refine call_zipM (show s1.heap.IsTuple a its.toArray from p1) p2.isList fun h' hz hTI hTO h1 h2 hk => wpAny_pyIter_zip hz ?_
        have I2 : Inv X pins σ H1 { s1 with heap := h' } := I1.kept (t' := s1.toks) hk
        exact ⟨s1.heap.objs.size + 4, [s1.heap.objs.size + 4, s1.heap.objs.size + 2, s1.heap.objs.size + 3, s1.heap.objs.size, s1.heap.objs.size + 1], _, _, H1, rfl, I2, turn_zipM (PySem.W.ktu_apart s1.heap.objs.size a b (Heap.lt_size ho1) p2.lt), ⟨hz, hTI, ⟨_, _, hTO⟩, h1, h2⟩, fresh5, q⟩
      · obtain ⟨its, rv, p1, _⟩ := I1.list hqx
        obtain ⟨its2, rv2, p2, _⟩ := I1.list hqy
        refine call_zip_2 p1.isList p2.isList fun h' hz hTI hTO h1 h2 hsz hk => wpAny_pyIter_zip hz ?_
        have I2 : Inv X pins σ H1 { s1 with heap := h' } := I1.kept (t' := s1.toks) hk
        exact ⟨s1.heap.objs.size + 4, [s1.heap.objs.size + 4, s1.heap.objs.size + 2, s1.heap.objs.size + 3, s1.heap.objs.size, s1.heap.objs.size + 1], _, _, H1, rfl, I2, turn_zip (PySem.W.ktu_apart s1.heap.objs.size a b p1.lt p2.lt), ⟨hz, hTI, ⟨_, _, hTO⟩, h1, h2⟩, fresh5, q⟩
      · obtain ⟨its, rv, p1, _⟩ := I1.tuple hqx
        obtain ⟨its2, rv2, p2, _⟩ := I1.tuple hqy
        obtain ⟨o1, ho1, _⟩ := id p1
        obtain ⟨o2, ho2, _⟩ := id p2
        refine RZ.call_zipT (show s1.heap.IsTuple a its.toArray from p1) (show s1.heap.IsTuple b its2.toArray from p2) fun h' hz hTI hTO h1 h2 hsz hk => wpAny_pyIter_zip hz ?_
        have I2 : Inv X pins σ H1 { s1 with heap := h' } := I1.kept (t' := s1.toks) hk
        exact ⟨s1.heap.objs.size + 4, [s1.heap.objs.size + 4, s1.heap.objs.size + 2, s1.heap.objs.size + 3, s1.heap.objs.size, s1.heap.objs.size + 1], _, _, H1, rfl, I2, RZ.turn_zipT (PySem.W.ktu_apart s1.heap.objs.size a b (Heap.lt_size ho1) (Heap.lt_size ho2)), ⟨hz, hTI, ⟨_, _, hTO⟩, h1, h2⟩, fresh5, q⟩
section
variable {K : PySem.W.Frag} {ca : Nat → Addr} {T : List (Addr × Str)} {L0 : Addr → Prop} {ρ : List Addr} {hd : Hd} {H : Hp}
theorem it_zipM {a b : Addr} {xs ys : List D} (r : RelH K ca T L0 ρ hd H) (h : Rep K ρ (Lv L0 ρ hd) H (.tup xs) (.ref a)) (h' : Rep K ρ (Lv L0 ρ hd) H (.lst ys) (.ref b)) : ItOk K ca T L0 ρ hd H (ItzM K a b) (zipD xs ys) := by
  intro L1 ρ' hd' H' mo r1 hL i
  have q1 := Rep.carry r mo hL h
  rw [Rep] at q1
  obtain ⟨_, vs, e, h1, h2⟩ := q1
  cases e
  obtain ⟨_, ws, e, g1, g2⟩ := sqL_of_rep (.inl (Rep.carry r mo hL h'))
  cases e
  refine ⟨fun d hd1 => ?_, fun hl => ⟨vs, ws, h1.sq, g1, by rw [zipD_len] at hl; rw [← h2.length, ← g2.length]; omega⟩⟩
  rw [zipD_get] at hd1
  cases hs : xs[i]? with
  | none => simp only [hs] at hd1; cases hd1
  | some x =>
    cases hs2 : ys[i]? with
    | none => simp only [hs, hs2] at hd1; cases hd1
    | some y =>
      simp only [hs, hs2] at hd1; cases hd1
      obtain ⟨v, e1, e2⟩ := h2.get hs
      obtain ⟨w, f1, f2⟩ := g2.get hs2
      refine ⟨⟨vs, ws, v, w, h1.sq, g1, e1, f1⟩, fun x H'' hy => ?_⟩
      obtain ⟨t, p, q, rfl, ht, rfl, hp, hq⟩ := hy
      have := hp vs h1.sq
      rw [e1] at this; cases this
      have := hq ws g1
      rw [f1] at this; cases this
      refine wtp_new r1 ?_ ht
      simp only [Reps]
      exact ⟨_, _, rfl, e2, _, _, rfl, f2, rfl⟩
end
section
variable {Z : Cx} {ca : Nat → Addr} {T : List (Addr × Str)} {W : WX} {a b : Expr} {ma mb : Sl → M D} {tg : Expr} {pos p2 : Pos}
theorem s_itzipM {elts : List Expr} {kk : Nat} {tpos : Pos} (hg : Gl Z "zip") (hm : Z.mg "zip" = none) (ha : pX Z ca T W a ma) (hb : pX Z ca T W b mb)
    (hs : starEach [a, b] Z.env = (false, eval a Z.env) :: starEach [b] Z.env) (hs2 : starEach [b] Z.env = (false, eval b Z.env) :: starEach [] Z.env) (hpl : (backTo pos (starEach [b] Z.env)).any (·.1) = false) :
    pI Z ca T W (.Tuple elts kk tpos) (.Call (.Name "zip" p2) [a, b] [] pos) (fun σ => bnd (ma σ) fun x => bnd (mb σ) fun y => match x, y with
    | .lst xs, .lst ys => ret (zipD xs ys)
    | .tup xs, .tup ys => ret (zipD xs ys)
    | .tup xs, .lst ys => ret (zipD xs ys)
    | _, _ => stuck) := by
  refine PI.imp (pi_zipM hg hm (pa_cons ha (pa_cons hb pa_nil hs2) hs) hs hpl) fun σ H R h => ?_
  obtain ⟨L0, ρ, σd, hd, rh, rs, fn⟩ := h
  refine ⟨L0, ρ, σd, hd, rh, rs, Fin.imp (Fin.bnd fn) fun ρ1 hd1 H1 x p1 f1 v rv => ?_⟩
  refine ⟨L0, ρ1, σd, hd1, p1.rel, rs.keep rh p1, Fin.imp (Fin.bnd f1) fun ρ2 hd2 H2 y p2 f2 w rw' => ?_⟩
  have rv2 := Rep.keep p1.rel p2 x v rv
  cases x <;> cases y <;> try exact False.elim f2
  · have r1 := rv2
    have r2 := rw'
    rw [Rep] at r1
    rw [Rep] at r2
    obtain ⟨p, vs, rfl, h1, h2⟩ := r1
    obtain ⟨q, ws, rfl, g1, g2⟩ := r2
    exact ⟨p, q, vs, ws, rfl, .inr (.inr ⟨h1.sq, g1.sq, Fin.ret p2.rel f2 _ (it_zipT p2.rel rv2 rw')⟩)⟩
  · have r1 := rv2
    rw [Rep] at r1
    obtain ⟨p, vs, rfl, h1, h2⟩ := r1
    obtain ⟨q, ws, rfl, g1, g2⟩ := sqL_of_rep (.inl rw')
    exact ⟨p, q, vs, ws, rfl, .inl ⟨h1.sq, g1, Fin.ret p2.rel f2 _ (it_zipM p2.rel rv2 rw')⟩⟩
  · obtain ⟨p, vs, rfl, h1, h2⟩ := sqL_of_rep (.inl rv2)
    obtain ⟨q, ws, rfl, g1, g2⟩ := sqL_of_rep (.inl rw')
    exact ⟨p, q, vs, ws, rfl, .inr (.inl ⟨h1, g1, Fin.ret p2.rel f2 _ (it_zipL p2.rel rv2 rw')⟩)⟩
end
end Ev

set_option Elab.async false
set_option linter.all false
set_option maxRecDepth 100000
set_option maxHeartbeats 4000000
/-! Ev4a: statements, one by one. -/
namespace Ev
open PySem L2 PyProof.Rows
section
variable (K : PySem.W.Frag) (ca : Nat → Addr) (T : List (Addr × Str))
def FinO (W : WX) (Dn : Ends) (L0 : Addr → Prop) (ρ : List Addr) (hd : Hd) (H : Hp) (r : Option Out) : Prop := match r with
  | none => False
  | some (.nx σd hd') => ∀ ρ' H' σ, Post K ca T L0 ρ hd H ρ' hd' H' → RelS K ρ' (Lv L0 ρ' hd') H' σd σ → Dn.nx σ H'
  | some (.rt d hd') => ∀ ρ' H' v, Post K ca T L0 ρ hd H ρ' hd' H' → Rep K ρ' (Lv L0 ρ' hd') H' d v → Dn.rt v H'
  | some (.bk σd hd') => ∀ ρ' H' σ, Post K ca T L0 ρ hd H ρ' hd' H' → RelS K ρ' (Lv L0 ρ' hd') H' σd σ → Dn.bk σ H'
  | some (.ct σd hd') => ∀ ρ' H' σ, Post K ca T L0 ρ hd H ρ' hd' H' → RelS K ρ' (Lv L0 ρ' hd') H' σd σ → Dn.ct σ H'
  | some (.ex c pl σd hd') => ∀ ρ' H' σ d, Post K ca T L0 ρ hd H ρ' hd' H' → RelS K ρ' (Lv L0 ρ' hd') H' σd σ → ExOk K ρ' (Lv L0 ρ' hd') H' pl d → W (.ref (ca c)) d σ H'
def rdSt (W : WX) (m : Sl → Hd → Option Out) : TS := fun Dn σ H => ∃ L0 ρ σd hd, RelH K ca T L0 ρ hd H ∧ RelS K ρ (Lv L0 ρ hd) H σd σ ∧ FinO K ca T W Dn L0 ρ hd H (m σd hd)
end
theorem PS.imp {X : Cx} {e : Stmt} {t t' : TS} (h : PS X e t) (i : ∀ D σ H, t' D σ H → t D σ H) : PS X e t' := ⟨fun pins s σ H D I q => h.run pins s σ H D I (i D σ H q)⟩
theorem PSs.imp {X : Cx} {e : List Stmt} {t t' : TS} (h : PSs X e t) (i : ∀ D σ H, t' D σ H → t D σ H) : PSs X e t' := ⟨fun pins s σ H D I q => h.run pins s σ H D I (i D σ H q)⟩
section
variable {K : PySem.W.Frag} {ca : Nat → Addr} {T : List (Addr × Str)} {W : WX} {Dn : Ends} {L0 : Addr → Prop} {ρ ρ1 : List Addr} {hd hd1 : Hd} {H H1 : Hp}
theorem FinO.post {r : Option Out} (p : Post K ca T L0 ρ hd H ρ1 hd1 H1) (h : FinO K ca T W Dn L0 ρ hd H r) : FinO K ca T W Dn L0 ρ1 hd1 H1 r := by
  unfold FinO at h ⊢
  split at h
  · exact h
  · exact fun ρ' H' σ q => h ρ' H' σ (p.trans q)
  · exact fun ρ' H' σ q => h ρ' H' σ (p.trans q)
  · exact fun ρ' H' σ q => h ρ' H' σ (p.trans q)
  · exact fun ρ' H' σ q => h ρ' H' σ (p.trans q)
  · exact fun ρ' H' σ d q => h ρ' H' σ d (p.trans q)
theorem FinO.thenS {α : Type} {m : Option (Rr α × Hd)} {σd : Sl} {σ : L2.St} {k : α → Hd → Option Out} (r : RelH K ca T L0 ρ hd H) (rs : RelS K ρ (Lv L0 ρ hd) H σd σ) (h : FinO K ca T W Dn L0 ρ hd H (thenS m σd k)) :
    Fin K ca T (fun c d H' => W c d σ H') L0 ρ hd H m (fun ρ1 hd1 H1 a => FinO K ca T W Dn L0 ρ1 hd1 H1 (k a hd1)) := by
  unfold Ev.thenS at h
  unfold Fin
  cases m with
  | none => exact h
  | some q =>
    obtain ⟨q, hd'⟩ := q
    cases q with
    | ok a => exact fun ρ1 H1 p => FinO.post p h
    | ex c pl => exact fun ρ1 H1 d p e => h ρ1 H1 σ d p (rs.keep r p) e
theorem FinO.nxt {σd : Sl} {σ : L2.St} (r : RelH K ca T L0 ρ hd H) (rs : RelS K ρ (Lv L0 ρ hd) H σd σ) (h : FinO K ca T W Dn L0 ρ hd H (some (.nx σd hd))) : Dn.nx σ H := h ρ H σ (Post.refl r) rs
end
section
variable {Z : Cx} {ca : Nat → Addr} {T : List (Addr × Str)} {W : WX} {a b c tg : Expr} {ma mb : Sl → M D} {mt : Sl → M Bool} {mi : Sl → M (List D)} {mg : D → Sl → M Sl} {ms mu : Sl → Hd → Option Out} {pos p2 : Pos} {tv : List Nat} {st : Stmt} {sts rest : List Stmt}
abbrev pS (Z : Cx) (ca : Nat → Addr) (T : List (Addr × Str)) (W : WX) (st : Stmt) (m : Sl → Hd → Option Out) : Prop := PS Z st (rdSt Z.K ca T W m)
abbrev pSs (Z : Cx) (ca : Nat → Addr) (T : List (Addr × Str)) (W : WX) (st : List Stmt) (m : Sl → Hd → Option Out) : Prop := PSs Z st (rdSt Z.K ca T W m)
theorem s_nil : pSs Z ca T W [] (fun σ h => some (.nx σ h)) := by
  refine PSs.imp pss_nil fun D σ H h => ?_
  obtain ⟨L0, ρ, σd, hd, r, rs, f⟩ := h
  exact f.nxt r rs
theorem s_cons (h1 : pS Z ca T W st ms) (h2 : pSs Z ca T W rest mu) : pSs Z ca T W (st :: rest) (fun σ h => match ms σ h with | some (.nx σ1 h1) => mu σ1 h1 | o => o) := by
  refine PSs.imp (pss_cons h1 h2) fun D σ H h => ?_
  obtain ⟨L0, ρ, σd, hd, r, rs, f⟩ := h
  refine ⟨L0, ρ, σd, hd, r, rs, ?_⟩
  unfold FinO at f ⊢
  cases e : ms σd hd with
  | none => simp only [e] at f
  | some o =>
    cases o with
    | nx σ1 h1 =>
      simp only [e] at f
      exact fun ρ' H' σ' p rs' => ⟨L0, ρ', σ1, h1, p.rel, rs', FinO.post p f⟩
    | rt d h1 => simp only [e] at f; exact f
    | bk σ1 h1 => simp only [e] at f; exact f
    | ct σ1 h1 => simp only [e] at f; exact f
    | ex c pl σ1 h1 => simp only [e] at f; exact f
theorem s_pass : pS Z ca T W (.Pass pos) (fun σ h => some (.nx σ h)) := by
  refine PS.imp ps_pass fun D σ H h => ?_
  obtain ⟨L0, ρ, σd, hd, r, rs, f⟩ := h
  exact f.nxt r rs
theorem s_brk : pS Z ca T W (.Break pos) (fun σ h => some (.bk σ h)) := by
  refine PS.imp ps_break fun D σ H h => ?_
  obtain ⟨L0, ρ, σd, hd, r, rs, f⟩ := h
  exact f ρ H σ (Post.refl r) rs
theorem s_cont : pS Z ca T W (.Continue pos) (fun σ h => some (.ct σ h)) := by
  refine PS.imp ps_continue fun D σ H h => ?_
  obtain ⟨L0, ρ, σd, hd, r, rs, f⟩ := h
  exact f ρ H σ (Post.refl r) rs
theorem s_doc {x : Str} {j : Nat} : pS Z ca T W (.Expr (.Constant (.str x) j pos) p2) (fun σ h => some (.nx σ h)) := by
  refine PS.imp ps_doc fun D σ H h => ?_
  obtain ⟨L0, ρ, σd, hd, r, rs, f⟩ := h
  exact f.nxt r rs
theorem s_asg (he : pX Z ca T W a ma) (hg : pG Z ca T W tv tg mg) (hs : swapsWithSole [tg] a pos.line Z.env = pure false) (hw : swappedStores [tg] a Z.env = pure none) (hae : (assignEach [tg] Z.env).map (·.2) = [assign tg Z.env]) :
    pS Z ca T W (.Assign [tg] a pos) (fun σ h => thenS (ma σ h) σ fun d h1 => thenS (mg d σ h1) σ fun σ1 h2 => some (.nx σ1 h2)) := by
  refine PS.imp (ps_asg he hg hs hw hae) fun D σ H h => ?_
  obtain ⟨L0, ρ, σd, hd, r, rs, f⟩ := h
  refine ⟨L0, ρ, σd, hd, r, rs, Fin.imp (FinO.thenS r rs f) fun ρ1 hd1 H1 d p1 f1 v rv => ?_⟩
  have rs1 := rs.keep r p1
  exact ⟨L0, ρ1, σd, hd1, d, p1.rel, rs1, rv, Fin.imp (FinO.thenS p1.rel rs1 f1) fun ρ2 hd2 H2 σ2 p2 f2 σ' rs2 _ _ => f2.nxt p2.rel rs2⟩
theorem s_fldset {C : Cfg} {o : Expr} {mo : Sl → M D} {f : Nm} (hC : ClsOk Z.K ca C.flds) (ho : pX Z ca T W o mo) (he : pX Z ca T W a ma) (hs : swapsWith a (some (.Attribute o (St f) p2)) pos.line Z.env = pure false) :
    pS Z ca T W (.Assign [.Attribute o (St f) p2] a pos) (fun σ h => thenS (ma σ h) σ fun d h1 => thenS (bnd (mo σ) (fun x => bnd (setFD C x f d) fun _ => ret σ) h1) σ fun σ1 h2 => some (.nx σ1 h2)) := by
  refine PS.imp (ps_fld ho he hs) fun D σ H h => ?_
  obtain ⟨L0, ρ, σd, hd, r, rs, fn⟩ := h
  refine ⟨L0, ρ, σd, hd, r, rs, Fin.imp (FinO.thenS r rs fn) fun ρ1 hd1 H1 d p1 f1 v rv => ?_⟩
  have rs1 := rs.keep r p1
  refine ⟨L0, ρ1, σd, hd1, p1.rel, rs1, Fin.imp (Fin.bnd (FinO.thenS p1.rel rs1 f1)) fun ρ2 hd2 H2 x p2 f2 xv rx => ?_⟩
  have rs2 := rs1.keep p1.rel p2
  have rv2 := Rep.keep p1.rel p2 d v rv
  have f3 := Fin.bnd f2
  unfold setFD at f3
  cases x with
  | loc n =>
    rw [Rep] at rx
    obtain ⟨q, rfl, e1⟩ := rx
    simp only at f3
    cases hn : hd2[n]? with
    | none => simp only [hn] at f3; exact False.elim f3
    | some cl =>
      cases cl with
      | ins c fs =>
        simp only [hn] at f3
        by_cases hc : ((C.flds c).contains f && decide (fs.length < 100)) = true
        · rw [if_pos hc] at f3
          simp only [Bool.and_eq_true, decide_eq_true_eq] at hc
          obtain ⟨dx, vfs, e2, e3⟩ := p2.rel.cell n _ q hn e1
          obtain ⟨h1, h2⟩ := hC.fld c f hc.1
          have po : Post Z.K ca T L0 ρ2 hd2 H2 ρ2 (hd2.set n (.ins c (Ev.putF f d fs))) (upd H2 q (.ins (ca c) dx (L2.putF (St f) v vfs))) :=
            Post.write p2.rel hn (fun z => nomatch z) e1 (fun z => nomatch z) (fun ps z => nomatch z) fun ρ' hd' H' mo e => ⟨dx, _, e, RepF.put (Rep.mono p2.rel mo d v rv2) (RepF.mono p2.rel mo fs vfs e3)⟩
          refine ⟨q, ca c, dx, vfs, rfl, e2, h1, h2, by rw [← e3.len]; omega, ?_⟩
          have f4 := f3 ρ2 _ po
          have f5 := Fin.ret po.rel f4
          exact f5.nxt po.rel (rs2.keep p2.rel po)
        · rw [if_neg hc] at f3; exact False.elim f3
      | lst xs => simp only [hn] at f3; exact False.elim f3
      | dead => simp only [hn] at f3; exact False.elim f3
  | _ => exact False.elim f3
theorem s_expr (he : pX Z ca T W a ma) (hs : swapsWith a none pos.line Z.env = pure false) : pS Z ca T W (.Expr a pos) (fun σ h => thenS (ma σ h) σ fun _ h1 => some (.nx σ h1)) := by
  refine PS.imp (ps_expr he hs) fun D σ H h => ?_
  obtain ⟨L0, ρ, σd, hd, r, rs, f⟩ := h
  exact ⟨L0, ρ, σd, hd, r, rs, Fin.imp (FinO.thenS r rs f) fun ρ1 hd1 H1 d p1 f1 v rv => f1.nxt p1.rel (rs.keep r p1)⟩
theorem s_ret (he : pX Z ca T W a ma) : pS Z ca T W (.Return (some a) pos) (fun σ h => thenS (ma σ h) σ fun d h1 => some (.rt d h1)) := by
  refine PS.imp (ps_ret he) fun D σ H h => ?_
  obtain ⟨L0, ρ, σd, hd, r, rs, f⟩ := h
  exact ⟨L0, ρ, σd, hd, r, rs, Fin.imp (FinO.thenS r rs f) fun ρ1 hd1 H1 d p1 f1 v rv => f1 ρ1 H1 v (Post.refl p1.rel) rv⟩
theorem s_retN : pS Z ca T W (.Return none pos) (fun _ h => some (.rt .non h)) := by
  refine PS.imp ps_retN fun D σ H h => ?_
  obtain ⟨L0, ρ, σd, hd, r, rs, f⟩ := h
  exact f ρ H .non (Post.refl r) (by rw [Rep])
theorem s_if (hc : pT Z ca T W c mt) (ha : pSs Z ca T W sts ms) (hb : pSs Z ca T W rest mu) : pS Z ca T W (.If c sts rest pos) (fun σ h => thenS (mt σ h) σ fun k h1 => if k then ms σ h1 else mu σ h1) := by
  refine PS.imp (ps_if hc ha hb) fun D σ H h => ?_
  obtain ⟨L0, ρ, σd, hd, r, rs, f⟩ := h
  refine ⟨L0, ρ, σd, hd, r, rs, Fin.imp (FinO.thenS r rs f) fun ρ1 hd1 H1 k p1 f1 v rv => ?_⟩
  subst rv
  cases v with
  | true => exact ⟨L0, ρ1, σd, hd1, p1.rel, rs.keep r p1, f1⟩
  | false => exact ⟨L0, ρ1, σd, hd1, p1.rel, rs.keep r p1, f1⟩
theorem s_for (hp : PassesOwn (model Z.prog Z.w) Z.A Z.env Z.xe) (hc : Z.calm = true) (hi : pI Z ca T W tg a mi) (hg : pG Z ca T W tv tg mg) (hb : pSs Z ca T W sts ms) (hs : ∀ x, foldedSetIterable a Z.env x = pure x) :
    pS Z ca T W (.For tg a sts [] pos) (fun σ h => thenS (mi σ h) σ fun its h1 => forL (fun x σ h => thenS (mg x σ h) σ fun σ1 h2 => ms σ1 h2) its σ h1) := by
  refine PS.imp (ps_for hp hc hi hg hb hs) fun D σ H h => ?_
  obtain ⟨L0, ρ, σd, hd, r, rs, f⟩ := h
  refine ⟨L0, ρ, σd, hd, r, rs, Fin.imp (FinO.thenS r rs f) fun ρ1 hd1 H1 its p1 f1 J hJ => ?_⟩
  refine ⟨fun i m σ' H' => i ≤ its.length ∧ m = its.length - i ∧ ∃ ρi hdi σi, Post Z.K ca T L0 ρ1 hd1 H1 ρi hdi H' ∧ RelS Z.K ρi (Lv L0 ρi hdi) H' σi σ' ∧ FinO Z.K ca T W D L0 ρi hdi H' (forL (fun x σ h => thenS (mg x σ h) σ fun σ1 h2 => ms σ1 h2) (its.drop i) σi hdi), ⟨its.length, Nat.zero_le _, rfl, ρ1, hd1, σd, Post.refl p1.rel, rs.keep r p1, f1⟩, ?_⟩
  rintro i m σ' H' ⟨hle, rfl, ρi, hdi, σi, po, rsi, fi⟩
  have jj := hJ L0 ρi hdi H' po.toMono po.rel (fun a z => .inl z) i
  cases hget : its[i]? with
  | none =>
    have hge : its.length ≤ i := List.getElem?_eq_none_iff.mp hget
    rw [List.drop_eq_nil_of_le hge] at fi
    exact .inl ⟨jj.2 hge, fi.nxt po.rel rsi⟩
  | some d =>
    have hlt : i < its.length := (List.getElem?_eq_some_iff.mp hget).1
    obtain ⟨jg, jy⟩ := jj.1 d hget
    have ed0 : its.drop i = d :: its.drop (i + 1) := by
      obtain ⟨hh, e0⟩ := List.getElem?_eq_some_iff.mp hget
      rw [← e0]; exact List.drop_eq_getElem_cons hh
    rw [ed0] at fi
    refine .inr ⟨jg, fun σ'' H'' => (i + 1 ≤ its.length ∧ its.length - (i + 1) = its.length - (i + 1) ∧ ∃ ρi hdi σi, Post Z.K ca T L0 ρ1 hd1 H1 ρi hdi H'' ∧ RelS Z.K ρi (Lv L0 ρi hdi) H'' σi σ'' ∧ FinO Z.K ca T W D L0 ρi hdi H'' (forL (fun x σ h => thenS (mg x σ h) σ fun σ1 h2 => ms σ1 h2) (its.drop (i + 1)) σi hdi)), fun σ'' H'' q => ⟨its.length - (i + 1), by omega, q⟩, fun x H2 hy => ?_⟩
    obtain ⟨po2, rx⟩ := jy x H2 hy
    have rs2 := rsi.keep po.rel po2
    have po12 := po.trans po2
    generalize hG : (fun x σ h => thenS (mg x σ h) σ fun σ1 h2 => ms σ1 h2) = G at fi
    have fi2 : FinO Z.K ca T W D L0 ρi hdi H2 (forL G (d :: its.drop (i + 1)) σi hdi) := FinO.post po2 fi
    refine ⟨L0, ρi, σi, hdi, d, po2.rel, rs2, rx, ?_⟩
    have eG : G d σi hdi = thenS (mg d σi hdi) σi fun σ1 h2 => ms σ1 h2 := by rw [← hG]
    -- the turn's end, from the loop's
    have turn : FinO Z.K ca T W { nx := fun σ'' H'' => (i + 1 ≤ its.length ∧ its.length - (i + 1) = its.length - (i + 1) ∧ ∃ ρi hdi σi, Post Z.K ca T L0 ρ1 hd1 H1 ρi hdi H'' ∧ RelS Z.K ρi (Lv L0 ρi hdi) H'' σi σ'' ∧ FinO Z.K ca T W D L0 ρi hdi H'' (forL G (its.drop (i + 1)) σi hdi)), rt := D.rt, bk := D.nx, ct := fun σ'' H'' => (i + 1 ≤ its.length ∧ its.length - (i + 1) = its.length - (i + 1) ∧ ∃ ρi hdi σi, Post Z.K ca T L0 ρ1 hd1 H1 ρi hdi H'' ∧ RelS Z.K ρi (Lv L0 ρi hdi) H'' σi σ'' ∧ FinO Z.K ca T W D L0 ρi hdi H'' (forL G (its.drop (i + 1)) σi hdi)) } L0 ρi hdi H2 (G d σi hdi) := by
      unfold forL at fi2
      unfold FinO
      cases e : G d σi hdi with
      | none => simp only [e] at fi2; exact fi2
      | some o =>
        cases o with
        | nx σ1 h1 => simp only [e] at fi2; exact fun ρ' H' σ q rq => ⟨hlt, rfl, ρ', h1, σ1, po12.trans q, rq, FinO.post q fi2⟩
        | ct σ1 h1 => simp only [e] at fi2; exact fun ρ' H' σ q rq => ⟨hlt, rfl, ρ', h1, σ1, po12.trans q, rq, FinO.post q fi2⟩
        | bk σ1 h1 => simp only [e] at fi2; exact fi2
        | rt v h1 => simp only [e] at fi2; exact fi2
        | ex c pl σ1 h1 => simp only [e] at fi2; exact fi2
    rw [eG] at turn
    subst hG
    refine Fin.imp (FinO.thenS po2.rel rs2 turn) fun ρ3 hd3 H3 σ3 p3 f3 σ' rs3 _ _ => ?_
    exact ⟨L0, ρ3, σ3, hd3, p3.rel, rs3, f3⟩
theorem s_whl (hp : PassesOwn (model Z.prog Z.w) Z.A Z.env Z.xe) (hc : pT Z ca T W c mt) (hb : pSs Z ca T W sts ms) (n0 : Nat) :
    pS Z ca T W (.While c sts [] pos) (fun σ h => whlL mt ms n0 σ h) := by
  refine PS.imp (ps_while hp hc hb) fun D σ H h => ?_
  obtain ⟨L0, ρ, σd, hd, r, rs, f⟩ := h
  refine ⟨fun m σ' H' => ∃ ρi hdi σi, RelH Z.K ca T L0 ρi hdi H' ∧ RelS Z.K ρi (Lv L0 ρi hdi) H' σi σ' ∧ FinO Z.K ca T W D L0 ρi hdi H' (whlL mt ms m σi hdi), ⟨n0, ρ, hd, σd, r, rs, f⟩, ?_⟩
  rintro m σ' H' ⟨ρi, hdi, σi, ri, rsi, fi⟩
  cases m with
  | zero => exact False.elim fi
  | succ m =>
    refine ⟨L0, ρi, σi, hdi, ri, rsi, ?_⟩
    unfold whlL at fi
    unfold Fin
    cases et : mt σi hdi with
    | none => simp only [et] at fi; exact False.elim fi
    | some q =>
      obtain ⟨q, hd2⟩ := q
      cases q with
      | ex c pl => simp only [et] at fi; exact fun ρ' H'' d p e => fi ρ' H'' σ' d p (rsi.keep ri p) e
      | ok k =>
        intro ρ2 H2 p2 k' ek
        subst ek
        have rs2 := rsi.keep ri p2
        cases k' with
        | false =>
          simp only [et] at fi
          rw [if_neg (by simp)]
          exact fi ρ2 H2 σ' p2 rs2
        | true =>
          simp only [et] at fi
          rw [if_pos rfl]
          refine ⟨fun σ'' H'' => ∃ ρi hdi σi, RelH Z.K ca T L0 ρi hdi H'' ∧ RelS Z.K ρi (Lv L0 ρi hdi) H'' σi σ'' ∧ FinO Z.K ca T W D L0 ρi hdi H'' (whlL mt ms m σi hdi), fun σ'' H'' q => ⟨m, Nat.lt_succ_self m, q⟩, L0, ρ2, σi, hd2, p2.rel, rs2, ?_⟩
          have fi2 := FinO.post p2 fi
          unfold FinO
          cases e : ms σi hd2 with
          | none => simp only [e] at fi2; exact fi2
          | some o =>
            cases o with
            | nx σ1 h1 => simp only [e] at fi2; exact fun ρ' H' σ q rq => ⟨ρ', h1, σ1, q.rel, rq, FinO.post q fi2⟩
            | ct σ1 h1 => simp only [e] at fi2; exact fun ρ' H' σ q rq => ⟨ρ', h1, σ1, q.rel, rq, FinO.post q fi2⟩
            | bk σ1 h1 => simp only [e] at fi2; exact fi2
            | rt v h1 => simp only [e] at fi2; exact fi2
            | ex c pl σ1 h1 => simp only [e] at fi2; exact fi2
end
end Ev

set_option Elab.async false
set_option linter.all false
set_option maxRecDepth 100000
set_option maxHeartbeats 4000000
/-! Ev4b: errors raised and caught; stores from the right. -/
namespace Ev
open PySem L2 PyProof.Rows
/-- what an own error's __init__ does: self.f = what it gets -/
def spX (C : Addr) (f : Str) : Sp := fun vs H Q _ => ∃ a y, vs = [.ref a, y] ∧ H a = some (exo a C none) ∧ ∀ dx, H dx = none → dx ≠ a → Q .non (upd (upd H dx (exd dx [(f, y)])) a (exo a C (some dx)))
section
variable {Z : Cx} {ca : Nat → Addr} {T : List (Addr × Str)} {W : WX} {a b c tg : Expr} {ma mb : Sl → M D} {mt : Sl → M Bool} {mr : Sl → M (List D)} {ms mu : Sl → Hd → Option Out} {pos p2 p3 p4 : Pos} {st : Stmt} {sts rest : List Stmt} {x n : Str} {es : List Expr}
theorem s_raise1 {k cn : Nat} {fI : Addr} {fd : FuncData} {ps : List Str} {f : Nm} (hc : Z.calm = true) (tk : Takes Z W) (Tc : OexC Z.K (ca cn)) (iC : PySem.W.findIn Z.K (.ref (ca cn)) "__init__" = some (some (.ref fI))) (tI : PySem.W.typeIn Z.K (.ref fI) = some (.type "function"))
    (F1 : FnOk Z.prog Z.w Z.K Z.mg Z.base (L2.CX Z.prog Z.w) k fI fd ps (spX (ca cn) (St f))) (hr : Room (k + 1) Z.A) (hb : Binds Z.K fd ps []) (hg : Gl Z x) (hm : Z.mg x = some (.ref (ca cn))) (ha : pA Z ca T W (a :: es) mr)
    (hdb : (x == ("__debug__" : Str)) = false) (he : starEach (a :: es) Z.env = (false, eval a Z.env) :: starEach es Z.env) (hpl : (backTo p3 (starEach es Z.env)).any (·.1) = false) :
    pS Z ca T W (.Raise (some (.Call (.Name x p2) (a :: es) [] p3)) none pos) (fun σ h => thenS (mr σ h) σ fun ds h1 => match ds with | [d] => some (.ex cn [(f, d)] σ h1) | _ => none) := by
  refine PS.imp (ps_raise hc tk (pmk_oex (dvs := []) Tc iC tI F1 hr hb .nil (passes_call (E := fun _ _ _ => False) tk (fun _ _ _ _ z => z.elim)) hg hm ha hdb he hpl)) fun Dn σ H h => ?_
  obtain ⟨L0, ρ, σd, hd, r, rs, fn⟩ := h
  refine ⟨L0, ρ, σd, hd, r, rs, Fin.imp (FinO.thenS r rs fn) fun ρ1 hd1 H1 ds p1 f1 vs rvs => ?_⟩
  cases ds with
  | nil => exact False.elim f1
  | cons d ds =>
    cases ds with
    | cons d' ds => exact False.elim f1
    | nil =>
      obtain ⟨v, rfl, rv⟩ := reps1 rvs
      refine ⟨by simp, fun e he1 => ?_⟩
      refine ⟨e, v, rfl, upd_same, fun dx hdx hne => ?_⟩
      refine ⟨rfl, dx, [(St f, v)], upd_same, by rw [upd_ne hne]; exact upd_same, ?_, ?_⟩
      · rw [upd_ne hne] at hdx; exact hdx
      · have hdx1 : H1 dx = none := by rw [upd_ne hne] at hdx; exact hdx
        have eq : upd (del (upd (upd (upd H1 e (exo e (ca cn) none)) dx (exd dx [(St f, v)])) e (exo e (ca cn) (some dx))) e) dx (.xd [(St f, v)]) = upd H1 dx (.xd [(St f, v)]) := by
          funext b
          by_cases h1 : b = dx
          · rw [h1, upd_same, upd_same]
          · rw [upd_ne h1, upd_ne h1]
            by_cases h2 : b = e
            · rw [h2, del_same, he1]
            · rw [del_ne h2, upd_ne h2, upd_ne h1, upd_ne h2]
        rw [eq]
        have po := Post.alloc p1.rel hdx1 (o := .xd [(St f, v)]) (fun ps z => nomatch z)
        have rs1 := rs.keep r p1
        refine f1 ρ1 _ σ (some dx) po (rs1.keep p1.rel po) (.inr ⟨dx, _, rfl, upd_same, ?_, by simp⟩)
        simp only [RepF]
        exact ⟨v, [], rfl, Rep.keep p1.rel po d v rv, rfl⟩
/-- X(), an own error without own __init__ -/
theorem pmk_own0 {X : Cx} {C : Addr} {bmB : List Value} {B newId initId : String} {x : Str} {p pos : Pos} (F : ExcBaseFacts B newId initId bmB) (q : PySem.W.excIn X.K C bmB newId = true) (gC : X.mg x = some (.ref C))
    (r : Raises X (.ref C)) (hg : Gl X x) (kC : PySem.W.keepIn X.K (.ref C) = true) (hdb : (x == ("__debug__" : Str)) = false) :
    PMk X (.Call (.Name x p) [] [] pos) (fun _ H Q => Q (.ref C) none H) := by
  intro pins s σ H Q I h
  refine wpAny_Call_Name_kw (ld_glob I hg gC ?_ hdb)
  refine PySem.W.callWith_K0 I.kIn kC ?_
  obtain ⟨bm, N, nm, qn, bs, hdct, sn, sub, ab, col, dd, k0, k1, k2, k3, k5, mN, hC, hN, hni, T⟩ := exc_obj I.kIn q
  refine wpAny_call_exc_subT F T hC hN hni (fun h' e hm => ?_) (by show 0 ≤ sizeLine; exact Nat.zero_le _)
  exact mk_of I hm r h (I.hok.gone hm.new)
theorem s_raise0 {cn : Nat} {bmB : List Value} {B newId initId : String} (hc : Z.calm = true) (tk : Takes Z W) (F : ExcBaseFacts B newId initId bmB) (q : PySem.W.excIn Z.K (ca cn) bmB newId = true) (r : Raises Z (.ref (ca cn))) (kC : PySem.W.keepIn Z.K (.ref (ca cn)) = true) (hg : Gl Z x) (hm : Z.mg x = some (.ref (ca cn)))
    (hdb : (x == ("__debug__" : Str)) = false) :
    pS Z ca T W (.Raise (some (.Call (.Name x p2) [] [] p3)) none pos) (fun σ h => some (.ex cn [] σ h)) := by
  refine PS.imp (ps_raise hc tk (pmk_own0 F q hm r hg kC hdb)) fun Dn σ H h => ?_
  obtain ⟨L0, ρ, σd, hd, r, rs, fn⟩ := h
  exact fn ρ H σ none (Post.refl r) rs (.inl ⟨rfl, rfl⟩)
/-- what is known of own errors when they are caught: ev tells the class that a clause names -/
structure ExcOk (K : PySem.W.Frag) (ca : Nat → Addr) (ev : Nat → Value) (sub : Nat → Nat → Option Bool) (xf : Nat → List Nm) : Prop where
  exm : ∀ e c b, sub e c = some b → PySem.W.exmOne K (.ref (ca e)) (ev c) = some b
  fld : ∀ e f, (xf e).contains f = true → XfC K (ca e) ∧ PySem.W.findIn K (.ref (ca e)) (St f) = some none
theorem s_try_f {i cn : Nat} {f : Nm} {ev : Nat → Value} {sub : Nat → Nat → Option Bool} {xf : Nat → List Nm} {p5 p6 p7 : Pos} {body : List Stmt} (E : ExcOk Z.K ca ev sub xf) (hfx : ∀ e pl v, lkF f pl = some v → sub e cn = some true → (xf e).contains f = true)
    (hs : Z.stack = Z.env :: Z.outer) (hf : Z.env.frame = some Z.env.locals) (hN : Z.N.Nodup) (hi : Z.N[i]? = some n) (hln : Z.env.kindOf n = some .local) (hv : Vis Z.env.scope n) (hnd : (n == ("__debug__" : Str)) = false) (hncd : (n == ("__classdict__" : Str)) = false) (hc : Names Z x (ev cn)) (tk : Takes Z W)
    (hb : ∀ (W : WX) (pn : List (Addr × Obj)) (xe : Value → Shared → Prop), Takes (Z.tr pn xe) W → PassesOwn (model Z.prog Z.w) Z.A Z.env xe → PSs (Z.tr pn xe) body (rdSt Z.K ca T W ms))
    (hat : ∀ (X : Cx), X.env = Z.env → attributeBase (.Name n p5) (St f) X.env (eval (.Name n p5) X.env) = eval (.Name n p5) X.env) :
    pS Z ca T W (.Try body [.ExceptHandler (some (.Name x p2)) (some n) [.Return (some (.Attribute (.Name n p5) (St f) p6)) p7] p3] [] [] pos) (fun σ h => match ms σ h with
      | some (.ex e pl σ1 h1) => match sub e cn with
        | some true => (match lkF f pl with
          | some v => if i < σ1.length then some (.rt v h1) else none
          | none => none)
        | some false => some (.ex e pl σ1 h1)
        | none => none
      | o => o) := by
  refine PS.imp (ps_try_as (tb := fun W => rdSt Z.K ca T W ms) (ts := fun a cls d => fun Dn σ H => ∃ C, cls = .ref C ∧ XfC Z.K C ∧ PySem.W.findIn Z.K (.ref C) (St f) = some none ∧ tRet (tXf a cls d C (St f) (tVar i)) Dn σ H) (c := ev cn) (x := x) (n := n) (i := i) (Wout := W) hs hf hN hi hln hc tk hb ?_) fun Dn σ H h => ?_
  · intro a oe cls d pn hz hfl
    refine ⟨fun pins s σ H Dn I ⟨C, ec, hx, hno, q⟩ => ?_⟩
    have hN' : (Z.suite a ((a, oe) :: pn)).N[i]? = some n := hi
    have hv' : Vis (Z.suite a ((a, oe) :: pn)).env.scope n := hv
    exact (pss_one (ps_ret (pe_xf hx hno hz hfl (pe_var hN' hv' hnd hncd) (hat _ rfl)))).run pins s σ H Dn I q
  · obtain ⟨L0, ρ, σd, hd, r, rs, fn⟩ := h
    refine ⟨L0, ρ, σd, hd, r, rs, ?_⟩
    unfold FinO at fn ⊢
    cases e : ms σd hd with
    | none => simp only [e] at fn
    | some o =>
      cases o with
      | nx σ1 h1 => simp only [e] at fn; exact fn
      | rt d h1 => simp only [e] at fn; exact fn
      | bk σ1 h1 => simp only [e] at fn; exact fn
      | ct σ1 h1 => simp only [e] at fn; exact fn
      | ex ec pl σ1 h1 =>
        simp only [e] at fn
        intro ρ' H' σ' d p rs' ee
        cases hsub : sub ec cn with
        | none => simp only [hsub] at fn
        | some k =>
          refine ⟨k, E.exm ec cn k hsub, fun hk => ?_, fun hk => ?_⟩
          · subst hk
            simp only [hsub] at fn
            cases hl : lkF f pl with
            | none => simp only [hl] at fn
            | some v =>
              simp only [hl] at fn
              by_cases hlt : i < σ1.length
              · rw [if_pos hlt] at fn
                intro a ha
                obtain ⟨h1', h2'⟩ := E.fld ec f (hfx ec pl v hl hsub)
                rcases ee with ⟨epl, _⟩ | ⟨dd, vfs, ed, e2, e3, _⟩
                · subst epl; cases hl
                · obtain ⟨w, e4, e5⟩ := (RepF.lookup e3).1 v hl
                  refine ⟨_, rfl, h1', h2', V.ref a, ?_, rfl, rfl, dd, vfs, w, ed, e2, e4, ?_⟩
                  · exact List.getElem?_set_self (by rw [← rs'.1]; exact hlt)
                  · exact fn ρ' H' w p e5
              · rw [if_neg hlt] at fn; exact False.elim fn
          · subst hk
            simp only [hsub] at fn
            exact fn ρ' H' σ' d p rs' ee
/-- except X as n: return isinstance(n, C), C a built-in class -/
theorem s_try_i {i cn : Nat} {b : Bool} {m : Str} {T' : String} {ev : Nat → Value} {sub : Nat → Nat → Option Bool} {xf : Nat → List Nm} {p5 p6 p7 p8 : Pos} {body : List Stmt} (E : ExcOk Z.K ca ev sub xf) (hfx : ∀ e, sub e cn = some true → ExcC Z.K (ca e) ∧ PySem.W.kitOne Z.K (.ref (ca e)) (.type T') = some b)
    (hs : Z.stack = Z.env :: Z.outer) (hf : Z.env.frame = some Z.env.locals) (hN : Z.N.Nodup) (hi : Z.N[i]? = some n) (hln : Z.env.kindOf n = some .local) (hv : Vis Z.env.scope n) (hnd : (n == ("__debug__" : Str)) = false) (hncd : (n == ("__classdict__" : Str)) = false) (hc : Names Z x (ev cn)) (tk : Takes Z W)
    (hgi : Gl Z "isinstance") (hmi : Z.mg "isinstance" = none) (hgm : Gl Z m) (hmm : Z.mg m = none) (hvm : bootBuiltins m = some (.type T')) (hnm : m ≠ "__name__") (hdm : (m == ("__debug__" : Str)) = false)
    (hb : ∀ (W : WX) (pn : List (Addr × Obj)) (xe : Value → Shared → Prop), Takes (Z.tr pn xe) W → PassesOwn (model Z.prog Z.w) Z.A Z.env xe → PSs (Z.tr pn xe) body (rdSt Z.K ca T W ms)) :
    pS Z ca T W (.Try body [.ExceptHandler (some (.Name x p2)) (some n) [.Return (some (.Call (.Name "isinstance" p4) [.Name n p5, .Name m p6] [] p8)) p7] p3] [] [] pos) (fun σ h => match ms σ h with
      | some (.ex e pl σ1 h1) => match sub e cn with
        | some true => if pl.isEmpty && decide (i < σ1.length) then some (.rt (.bl b) h1) else none
        | some false => some (.ex e pl σ1 h1)
        | none => none
      | o => o) := by
  refine PS.imp (ps_try_as (tb := fun W => rdSt Z.K ca T W ms) (ts := fun a cls d => fun Dn σ H => ∃ D, cls = .ref D ∧ d = none ∧ ExcC Z.K D ∧ PySem.W.kitOne Z.K (.ref D) (.type T') = some b ∧ σ[i]? = some (some (.ref a)) ∧ Dn.rt (.bl b) H) (c := ev cn) (x := x) (n := n) (i := i) (Wout := W) hs hf hN hi hln hc tk hb ?_) fun Dn σ H h => ?_
  · intro a oe cls d pn hz hfl
    refine ⟨fun pins s σ H Dn I ⟨D, ec, ed, xc, kt, hσ, q⟩ => ?_⟩
    subst ec ed
    have hN' : (Z.suite a ((a, oe) :: pn)).N[i]? = some n := hi
    have hv' : Vis (Z.suite a ((a, oe) :: pn)).env.scope n := hv
    have hg' : Gl (Z.suite a ((a, oe) :: pn)) "isinstance" := hgi
    have hm' : (Z.suite a ((a, oe) :: pn)).mg "isinstance" = none := hmi
    have hg2 : Gl (Z.suite a ((a, oe) :: pn)) m := hgm
    have hm2 : (Z.suite a ((a, oe) :: pn)).mg m = none := hmm
    have arg : PE (Z.suite a ((a, oe) :: pn)) (.Name m p6) (tC (.ty T')) := pe_bltn hg2 hm2 hvm rfl hnm hdm
    refine (pss_one (ps_ret (pe_callB (call_isE xc hz hfl) hg' hm' rfl (pa_cons (pe_var hN' hv' hnd hncd) (pa_cons arg pa_nil)) (by decide) (by decide)))).run pins s σ H Dn I ?_
    exact ⟨_, hσ, .ty T', .type T', b, rfl, fun u hu => hu, kt, q⟩
  · obtain ⟨L0, ρ, σd, hd, r, rs, fn⟩ := h
    refine ⟨L0, ρ, σd, hd, r, rs, ?_⟩
    unfold FinO at fn ⊢
    cases e : ms σd hd with
    | none => simp only [e] at fn
    | some o =>
      cases o with
      | nx σ1 h1 => simp only [e] at fn; exact fn
      | rt d h1 => simp only [e] at fn; exact fn
      | bk σ1 h1 => simp only [e] at fn; exact fn
      | ct σ1 h1 => simp only [e] at fn; exact fn
      | ex ec pl σ1 h1 =>
        simp only [e] at fn
        intro ρ' H' σ' d p rs' ee
        cases hsub : sub ec cn with
        | none => simp only [hsub] at fn
        | some k =>
          refine ⟨k, E.exm ec cn k hsub, fun hk => ?_, fun hk => ?_⟩
          · subst hk
            simp only [hsub] at fn
            by_cases hlt : (pl.isEmpty && decide (i < σ1.length)) = true
            · rw [if_pos hlt] at fn
              obtain ⟨hl1, hl2⟩ := Bool.and_eq_true_iff.mp hlt
              intro a ha
              obtain ⟨h1', h2'⟩ := hfx ec hsub
              rcases ee with ⟨epl, ed⟩ | ⟨dd, vfs, ed, e2, e3, e4⟩
              · exact ⟨_, rfl, ed, h1', h2', List.getElem?_set_self (by rw [← rs'.1]; exact of_decide_eq_true hl2), fn ρ' H' (.bl b) p (by rw [Rep])⟩
              · exact absurd (List.isEmpty_iff.mp hl1) e4
            · rw [if_neg hlt] at fn; exact False.elim fn
          · subst hk
            simp only [hsub] at fn
            exact fn ρ' H' σ' d p rs' ee
/-- except X as n: return a constant -/
theorem s_try_c {i cn : Nat} {v : V} {dv : D} {ev : Nat → Value} {sub : Nat → Nat → Option Bool} {xf : Nat → List Nm} {p7 : Pos} {body : List Stmt} {ec : Expr} (E : ExcOk Z.K ca ev sub xf)
    (hs : Z.stack = Z.env :: Z.outer) (hf : Z.env.frame = some Z.env.locals) (hc : Names Z x (ev cn)) (tk : Takes Z W)
    (hb : ∀ (W : WX) (pn : List (Addr × Obj)) (xe : Value → Shared → Prop), Takes (Z.tr pn xe) W → PassesOwn (model Z.prog Z.w) Z.A Z.env xe → PSs (Z.tr pn xe) body (rdSt Z.K ca T W ms))
    (hec : ∀ X : Cx, PE X ec (tC v)) (hrv : ∀ ρ L H, Rep Z.K ρ L H dv v) :
    pS Z ca T W (.Try body [.ExceptHandler (some (.Name x p2)) none [.Return (some ec) p7] p3] [] [] pos) (fun σ h => match ms σ h with
      | some (.ex e pl σ1 h1) => match sub e cn with
        | some true => some (.rt dv h1)
        | some false => some (.ex e pl σ1 h1)
        | none => none
      | o => o) := by
  refine PS.imp (ps_try_only (tb := fun W => rdSt Z.K ca T W ms) (ts := fun a cls d => tRet (tC v)) (c := ev cn) (x := x) (Wout := W) hs hf hc tk hb ?_) fun Dn σ H h => ?_
  · intro a oe cls d pn hz hfl
    exact pss_one (ps_ret (hec _))
  · obtain ⟨L0, ρ, σd, hd, r, rs, fn⟩ := h
    refine ⟨L0, ρ, σd, hd, r, rs, ?_⟩
    unfold FinO at fn ⊢
    cases e : ms σd hd with
    | none => simp only [e] at fn
    | some o =>
      cases o with
      | nx σ1 h1 => simp only [e] at fn; exact fn
      | rt d h1 => simp only [e] at fn; exact fn
      | bk σ1 h1 => simp only [e] at fn; exact fn
      | ct σ1 h1 => simp only [e] at fn; exact fn
      | ex ec pl σ1 h1 =>
        simp only [e] at fn
        intro ρ' H' σ' d p rs' ee
        cases hsub : sub ec cn with
        | none => simp only [hsub] at fn
        | some k =>
          refine ⟨k, E.exm ec cn k hsub, fun hk => ?_, fun hk => ?_⟩
          · subst hk
            simp only [hsub] at fn
            intro a ha
            exact fn ρ' H' v p (hrv _ _ _)
          · subst hk
            simp only [hsub] at fn
            exact fn ρ' H' σ' d p rs' ee
/-- a list of ours is never changed again: no statement of the text -/
theorem s_frz {i : Nat} (h : pSs Z ca T W rest mu) : pSs Z ca T W rest (fun σ h => match (match σ[i]? with
    | some (some (.loc n)) => (match h[n]? with
      | some (.lst xs) => some (Out.nx (σ.set i (some (.lst xs))) (h.set n .dead))
      | _ => none)
    | some (some (.lst xs)) => some (.nx σ h)
    | some (some (.tup xs)) => some (.nx σ h)
    | _ => none) with | some (.nx σ1 h1) => mu σ1 h1 | o => o) := by
  refine PSs.imp h fun Dn σ H h => ?_
  obtain ⟨L0, ρ, σd, hd, r, rs, fn⟩ := h
  cases hσ : σd[i]? with
  | none => simp only [hσ] at fn; exact False.elim fn
  | some o =>
    cases o with
    | none => simp only [hσ] at fn; exact False.elim fn
    | some d =>
      cases d with
      | lst xs => simp only [hσ] at fn; exact ⟨L0, ρ, σd, hd, r, rs, fn⟩
      | tup xs => simp only [hσ] at fn; exact ⟨L0, ρ, σd, hd, r, rs, fn⟩
      | loc n =>
        simp only [hσ] at fn
        cases hn : hd[n]? with
        | none => simp only [hn] at fn; exact False.elim fn
        | some c =>
          cases c with
          | ins c fs => simp only [hn] at fn; exact False.elim fn
          | dead => simp only [hn] at fn; exact False.elim fn
          | lst xs =>
            simp only [hn] at fn
            obtain ⟨v, e1, e2⟩ := rs.2 i _ hσ
            obtain ⟨a, vs, rfl, h1, h2, h3⟩ := loc_lst r e2 hn
            obtain ⟨po, nown⟩ := Post.freeze r hn (fun z => nomatch z) h1
            have own0 : Own ρ hd a := ⟨n, _, hn, (fun z => nomatch z), h1⟩
            refine ⟨L0, ρ, σd.set i (some (.lst xs)), hd.set n .dead, po.rel, ?_, FinO.post po fn⟩
            have rs2 := (rs.keep r po).set (i := i) (d := .lst xs) (v := .ref a) (by
              rw [Rep]
              refine ⟨a, vs, rfl, h2, ?_, Reps.keep r po xs vs h3⟩
              rintro (z | z)
              · exact (r.l0 a z).2 own0
              · exact nown z)
            have es : σ.set i (some (V.ref a)) = σ := by
              refine List.ext_getElem? fun j => ?_
              by_cases hj : i = j
              · subst hj
                rw [List.getElem?_set_self (List.getElem?_eq_some_iff.mp e1).1, e1]
              · rw [List.getElem?_set_ne hj]
            rw [es] at rs2
            exact rs2
      | _ => simp only [hσ] at fn; exact False.elim fn
theorem s_gsb {o i : Expr} {mo mi : Sl → M D} {tv : List Nat} (ho : pX Z ca T W o mo) (hi : pX Z ca T W i mi)
    (ha : ∀ v, assign (.Subscript o i pos) Z.env v = (do
      let ov ← holding [v] (eval o Z.env)
      let iv ← holding [v, ov] (eval i Z.env)
      standAt pos
      holding [v, ov, iv] (setItem ov iv v)
      release [v, ov, iv] [])) : pG Z ca T W tv (.Subscript o i pos) (fun d σ => bnd (mo σ) fun x => bnd (mi σ) fun k => bnd (setSD x k d) fun _ => ret σ) := by
  refine PG.imp (pg_sub ho hi set_list ha) fun v σ H Q h => ?_
  obtain ⟨L0, ρ, σd, hd, d, r, rs, rd, f⟩ := h
  refine ⟨L0, ρ, σd, hd, r, rs, Fin.imp (Fin.bnd f) fun ρ1 hd1 H1 x p1 f1 xv rx => ?_⟩
  have rs1 := rs.keep r p1
  refine ⟨L0, ρ1, σd, hd1, p1.rel, rs1, Fin.imp (Fin.bnd f1) fun ρ2 hd2 H2 k p2 f2 kv rk => ?_⟩
  have rs2 := rs1.keep p1.rel p2
  have f3 := Fin.bnd f2
  cases e : setSD x k d hd2 with
  | none => rw [e] at f3; exact False.elim f3
  | some q =>
    obtain ⟨q, hd3⟩ := q
    rw [e] at f3
    cases q with
    | ex c pl =>
      exfalso
      unfold setSD at e
      repeat' split at e
      all_goals cases e
    | ok u =>
      refine ok_setSub p2.rel (Rep.keep p1.rel p2 x xv rx) rk (Rep.keep p1.rel p2 d v (Rep.keep r p1 d v rd)) e fun H3 po => ?_
      exact Fin.ret po.rel (f3 ρ2 H3 po) σ (rs2.keep p2.rel po) rfl fun _ _ => rfl
end
end Ev

set_option Elab.async false
set_option linter.all false
set_option maxRecDepth 100000
set_option maxHeartbeats 4000000
/-! Ev4c: a lambda handed to a def that tries it; pairs of names; a comprehension told to a name. -/
namespace Ev
open PySem L2 PyProof.Rows
/-- told: try: a() / except x as e: return e.f / then return ret -/
def TTf (K : PySem.W.Frag) (cv : Value) (f : Str) (ret : Str) : (XK → Hp → VK → Prop) → Hp → VK → Prop := fun tl H Q =>
  tl (fun cls d H' => ∃ b, PySem.W.exmOne K cls cv = some b ∧ (b = true → ∃ C, cls = .ref C ∧ XfC K C ∧ PySem.W.findIn K (.ref C) f = some none ∧ ∃ dd fs v, d = some dd ∧ H' dd = some (.xd fs) ∧ fs.lookup f = some v ∧ Q v H') ∧ (b = false → False)) H (fun _ H' => Q (.str ret) H')
theorem takes_len {X : Cx} {W : WX} {n : Nat} (hn : X.N.length = n) (tk : Takes X W) : Takes X (fun cls d σ H => σ.length = n → W cls d σ H) := fun u s' ⟨a, B, sI, pins, σ, H, cls, d, e, I, nb, up, sky, na, os, ag, w⟩ =>
  tk u s' ⟨a, B, sI, pins, σ, H, cls, d, e, I, nb, up, sky, na, os, ag, w (by rw [I.len, hn])⟩
theorem told_f {X : Cx} {x a e n q f ret : Str} {sg : Scope} {g : Addr} {cv : Value} {cdg : Value} {j : Nat} {p1 p2 p3 p4 p5 p6 p7 p8 p9 p10 p11 : Pos} (hge : sg.names.lookup e = some .globalImplicit) (hme : X.mg e = some cv) (hde : (e == ("__debug__" : Str)) = false)
    (hnl : sg.names.lookup n = some .local) (hnd : (n == ("__debug__" : Str)) = false) (hncd : (n == ("__classdict__" : Str)) = false) (han : a ≠ n)
    (hat : ∀ (X : Cx), attributeBase (.Name n p5) f X.env (eval (.Name n p5) X.env) = eval (.Name n p5) X.env) :
    LamX.GivesTo X [a, n] x sg g cdg [.Try [.Expr (.Call (.Name a p1) [] [] p2) p3] [.ExceptHandler (some (.Name e p4)) (some n) [.Return (some (.Attribute (.Name n p5) f p6)) p7] p8] [] [] p9, .Return (some (.Constant (.str ret) j p10)) p11] a q (TTf X.K cv f ret) := by
  intro fl c' s0 H0 Q tl act hc h
  have hgl : Gl (cxOf C8.CX0 X.prog X.w X.K X.mg X.base [a, n] x sg g cdg X.A X.stack s0 H0 C8.E0).nox e := hge
  have hN : ([a, n] : List Str).Nodup := by simp [han]
  refine ⟨_, pss_cons (ps_try_as (X := (cxOf C8.CX0 X.prog X.w X.K X.mg X.base [a, n] x sg g cdg X.A X.stack s0 H0 C8.E0).nox) (c := cv) (i := 1) (n := n)
      (tb := fun W D σ H => ∃ Ech : XK, (∀ cls d σ' H', σ'.length = 2 → Ech cls d H' → W cls d σ' H') ∧ σ[0]? = some (some (.ref fl)) ∧ σ.length = 2 ∧ H c' = some (LamX.CodeO c' q) ∧ tl Ech H (fun _ H' => D.nx σ H'))
      (ts := fun a cls d => fun Dn σ H => ∃ C, cls = .ref C ∧ XfC X.K C ∧ PySem.W.findIn X.K (.ref C) f = some none ∧ tRet (tXf a cls d C f (tVar 1)) Dn σ H)
      (Wout := fun _ _ _ _ => False)
      rfl rfl hN rfl hnl ⟨hgl, hde, .inl hme⟩ LamX.takes0 (fun W pn xe tk _ => ?_) (fun a' oe cls d pn hz hfl => ?_)) (pss_one (ps_ret pe_str)), ?_⟩
  · refine ⟨fun pins s' σ H' D I h' => ?_⟩
    obtain ⟨Ech, hW, h1, _, h2, h3⟩ := h'
    have hp := act (fun cls d σ H => σ.length = 2 → W cls d σ H) pn xe Ech p1 p2 (takes_len rfl tk) (fun cls d σ' H' z hl => hW cls d σ' H' hl z)
    have hq := pss_one (ps_expr (pos := p3) hp rfl)
    exact hq.run pins s' σ H' D I ⟨h1, h2, h3⟩
  · refine ⟨fun pins s σ H Dn I ⟨C, ec, hx, hno, q⟩ => ?_⟩
    have hv : PE ((cxOf C8.CX0 X.prog X.w X.K X.mg X.base [a, n] x sg g cdg X.A X.stack s0 H0 C8.E0).nox.suite a' ((a', oe) :: pn)) (.Name n p5) (tVar 1) := pe_var rfl (.inl hnl) hnd hncd
    exact (pss_one (ps_ret (pe_xf (X := (cxOf C8.CX0 X.prog X.w X.K X.mg X.base [a, n] x sg g cdg X.A X.stack s0 H0 C8.E0).nox) hx hno hz hfl hv (hat _)))).run pins s σ H Dn I q
  · refine ⟨fun cls d H' => ∃ b, PySem.W.exmOne X.K cls cv = some b ∧ (b = true → ∃ C, cls = .ref C ∧ XfC X.K C ∧ PySem.W.findIn X.K (.ref C) f = some none ∧ ∃ dd fs v, d = some dd ∧ H' dd = some (.xd fs) ∧ fs.lookup f = some v ∧ Q v H') ∧ (b = false → False), fun cls d σ' H' hl ⟨b, e1, e2, e3⟩ => ⟨b, e1, fun hb a' ha' => ?_, fun hb => e3 hb⟩, rfl, rfl, hc, h⟩
    obtain ⟨C, g1, g2, g3, dd, fs, v, g4, g5, g6, g7⟩ := e2 hb
    exact ⟨C, g1, g2, g3, V.ref a', List.getElem?_set_self (by rw [hl]; decide), rfl, g1, dd, fs, v, g4, g5, g6, g7⟩
section
variable {Z : Cx} {ca : Nat → Addr} {T : List (Addr × Str)} {W : WX} {a b c tg iter elt : Expr} {ma mb : Sl → M D} {mr mi : Sl → M (List D)} {mg : D → Sl → M Sl} {mt : Sl → M Bool} {me : Sl → M D} {ms mu : Sl → Hd → Option Out} {pos p2 p3 p4 p5 : Pos} {es ifs : List Expr} {scope : Scope} {own : List (Str × Nat)}
theorem ExtN_post {K : PySem.W.Frag} {L0 : Addr → Prop} {ρ : List Addr} {hd : Hd} {H H1 : Hp} (r : RelH K ca T L0 ρ hd H) (e : LamX.ExtN H H1) (t : LamX.Tabs T H1) : Post K ca T L0 ρ hd H ρ hd H1 := by
  have hk : ∀ a, Held H a → Held H1 a := fun a ⟨u, e1, n⟩ => ⟨u, e a u e1 n, n⟩
  have mo : Mono T L0 ρ hd H ρ hd H1 := ⟨⟨[], by simp⟩, fun b o e1 _ n => e b o e1 n, fun a h => .inl h, hk⟩
  refine ⟨mo, r.len, r.nd, fun n c a h1 h2 => ?_, fun a h => ⟨hk a (r.l0 a h).1, (r.l0 a h).2⟩, t⟩
  by_cases hc : c = .dead
  · subst hc; trivial
  · obtain ⟨u, e1, n1⟩ := r.own_Held ⟨n, c, h1, hc, h2⟩
    exact CellOk.mono r mo (r.cell n c a h1 h2) (by rw [e a u e1 n1, e1])
/-- f(lambda: a) -/
theorem s_tryl {told : Option (Nat × Nm × D)} {k cn : Nat} {f ret : Nm} {ev : Nat → Value} {sub : Nat → Nat → Option Bool} {xf : Nat → List Nm} (E : ExcOk Z.K ca ev sub xf) (hfx : ∀ e pl v, lkF f pl = some v → sub e cn = some true → (xf e).contains f = true)
    {x aa : Str} {g cc P : Addr} {pg : Arguments} {bg : List Stmt} {sg : Scope} {dV kV doc pm cdv ct oc : Value} {an od : Option Addr} {osl : Array (Option Value)} {Ng : List Str} {params : Arguments} {body : Expr}
    (hg : Gl Z x) (hm : Z.mg x = some (.ref g)) (hk : PySem.W.keepIn Z.K (.ref g) = true)
    (lk : Z.K.lookup g = some ⟨oc, od, .func (PySem.W.fnOf x x pg bg sg dV kV doc pm an cdv ct), osl⟩) (hcg : PySem.W.codeIn Z.K cdv x = true) (hb : L2.Binds Z.K (PySem.W.fnOf x x pg bg sg dV kV doc pm an cdv ct) [aa] []) (Sg : FnScope Ng [aa] sg) (hNg : Ng[0]? = some aa) (hva : Vis sg aa)
    (hG : LamX.GivesTo Z Ng x sg g cdv bg aa (Z.env.qual ++ "<lambda>") (TTf Z.K (ev cn) (St f) (St ret)))
    (TB : LamX.TabB Z.base Z.mg cc P) (hcode : Z.env.code = .ref cc) (hmT : (P, Z.env.qual ++ "<lambda>") ∈ T) (hu : ∀ p ∈ T, p.1 = P → p.2 = Z.env.qual ++ "<lambda>") (hr : Room (k + 2) Z.A) (L : LamX.LamS Z.env.scope scope) (hdef : defaultsOf params Z.env = ([], []))
    (hbind : ∀ (q : Str) (cl : List (Str × Addr)) (pm cv ctv : Value), bindArgs (PySem.W.kla_fn "<lambda>" q params body scope cl pm cv ctv) ⟨[], []⟩ = pure [])
    (hbody : ∀ (A : Around) (outer : List Env) (s : Shared) (H : Hp) (E : XK) (f c' : Addr), Room k (A.deeper (LamX.lamEnv Z scope s.heap.objs.size f c')) → pX (LamX.lamCx Z A outer s H E scope f c') ca T (fun c d _ H => E c d H) body ma)
    (hdb : (x == ("__debug__" : Str)) = false) (hd : (aa == ("__debug__" : Str)) = false) (hcd : (aa == ("__classdict__" : Str)) = false) :
    pX Z ca T W (.Call (.Name x p2) [.Lambda params body scope p3] [] pos) (fun σ => fun h => match ma σ h with
      | some (.ok _, h1) => some (.ok (.str ret), h1)
      | some (.ex e pl, h1) => match sub e cn with
        | some true => (match lkF f pl with
          | some v => some (.ok v, h1)
          | none => none)
        | _ => none
      | none => none) := by
  refine PE.imp (LamX.pe_lamcall (t := fun E => rdV Z.K ca T (fun c d _ H => E c d H) ma) hg hm hk lk hcg hb Sg hNg hva hG TB hcode hmT hu hr L hdef hbind (fun A outer s H E f c' hr => hbody A outer s H E f c' hr) hdb hd hcd) fun σ H Q h => ?_
  obtain ⟨L0, ρ, σd, hd, r, rs, fn⟩ := h
  refine ⟨r.tabs, fun H1 eN tN => ?_⟩
  have po := ExtN_post r eN tN
  refine ⟨L0, ρ, σd, hd, po.rel, rs.keep r po, ?_⟩
  unfold Fin at fn ⊢
  cases e : ma σd hd with
  | none => simp only [e] at fn
  | some q =>
    obtain ⟨q, hd'⟩ := q
    cases q with
    | ok d =>
      simp only [e] at fn
      exact fun ρ' H' p v rv => fn ρ' H' (po.trans p) _ (by rw [Rep])
    | ex ec pl =>
      simp only [e] at fn
      intro ρ' H' d p ee
      cases hsub : sub ec cn with
      | none => simp only [hsub] at fn
      | some k =>
        cases k with
        | false => simp only [hsub] at fn
        | true =>
          refine ⟨true, E.exm ec cn true hsub, fun _ => ?_, fun z => nomatch z⟩
          simp only [hsub] at fn
          cases hl : lkF f pl with
          | none => simp only [hl] at fn
          | some v =>
            simp only [hl] at fn
            obtain ⟨h1', h2'⟩ := E.fld ec f (hfx ec pl v hl hsub)
            rcases ee with ⟨epl, _⟩ | ⟨dd, vfs, ed, e2, e3, _⟩
            · subst epl; cases hl
            · obtain ⟨w, e4, e5⟩ := (RepF.lookup e3).1 v hl
              exact ⟨_, rfl, h1', h2', dd, vfs, w, ed, e2, e4, fn ρ' H' (po.trans p) w e5⟩
/-- name = [..] -/
theorem asg_red {K : PySem.W.Frag} {mm : Sl → M D} {Dn : Ends} {σ : L2.St} {H : Hp} {i : Nat} (h : rdSt K ca T W (fun σ h => thenS (mm σ h) σ fun d h1 => thenS (ret (σ.set i (some d)) h1) σ fun σ1 h2 => some (.nx σ1 h2)) Dn σ H) : rdV K ca T W mm σ H (fun x H1 => gName i x σ H1 Dn.nx) := by
  obtain ⟨L0, ρ, σd, hd, r, rs, fn⟩ := h
  exact ⟨L0, ρ, σd, hd, r, rs, Fin.imp (FinO.thenS r rs fn) fun ρ1 hd1 H1 d p1 f1 v rv => FinO.nxt p1.rel ((rs.keep r p1).set rv) f1⟩
theorem s_setLc {i : Nat} {y : Str} {py spos : Pos} (hc : Z.calm = true) (hN : Z.N.Nodup) (hy : Z.N[i]? = some y) (hyl : Z.env.scope.names.lookup y = some .local)
    (hsw : swapsWith (.ListComp elt [⟨tg, iter, ifs, 0⟩] scope pos) (some (.Name y py)) spos.line Z.env = pure true) (hi : pI Z ca T W tg iter mi) (ok : BlkOk Z.N Z.env.scope scope own)
    (hg : ∀ (s : Shared) (H : Hp) (C : Addr) (cl : List (Str × Addr)) (fp : List Addr), pG (Z.blk s H scope (compEnvC scope cl C Z.env) fp) ca T Wn (own.map (·.2)) tg mg)
    (ht : ∀ (s : Shared) (H : Hp) (C : Addr) (cl : List (Str × Addr)) (fp : List Addr), PTs (Z.blk s H scope (compEnvC scope cl C Z.env) fp) ifs (rdB Z.K ca T Wn mt))
    (he : ∀ (s : Shared) (H : Hp) (C : Addr) (cl : List (Str × Addr)) (fp : List Addr), pX (Z.blk s H scope (compEnvC scope cl C Z.env) fp) ca T Wn elt me) (hs : ∀ x, foldedSetIterable iter Z.env x = pure x) :
    pS Z ca T W (.Assign [.Name y py] (.ListComp elt [⟨tg, iter, ifs, 0⟩] scope pos) spos) (fun σ h => thenS ((bnd (lcM mi mg mt me (own.map (·.2)) σ) fun xs => ret (.lst xs)) h) σ fun d h1 => thenS (ret (σ.set i (some d)) h1) σ fun σ1 h2 => some (.nx σ1 h2)) :=
  PS.imp (ps_setLc (te := rdV Z.K ca T Wn me) (g := rdG Z.K ca T Wn (List.map (fun q : Str × Nat => q.2) own) mg) hc hN hy hyl hsw hi ok hg ht he hs) fun Dn σ H h => by
    show tLc _ _ _ _ _ σ H (fun x H1 => gName i x σ H1 Dn.nx)
    exact lc_red (val_red (asg_red h))
theorem s_setLcO {i : Nat} {y : Str} {py spos : Pos} (hc : Z.calm = true) (hN : Z.N.Nodup) (hy : Z.N[i]? = some y) (hyl : Z.env.scope.names.lookup y = some .local)
    (hsw : swapsWith (.ListComp elt [⟨tg, iter, ifs, 0⟩] scope pos) (some (.Name y py)) spos.line Z.env = pure true) (hi : pI Z ca T W tg iter mi) (ok : BlkOk Z.N Z.env.scope scope own)
    (hg : ∀ (s : Shared) (H : Hp) (C : Addr) (cl : List (Str × Addr)) (fp : List Addr), pG (Z.blk s H scope (compEnvC scope cl C Z.env) fp) ca T Wn (own.map (·.2)) tg mg)
    (ht : ∀ (s : Shared) (H : Hp) (C : Addr) (cl : List (Str × Addr)) (fp : List Addr), PTs (Z.blk s H scope (compEnvC scope cl C Z.env) fp) ifs (rdB Z.K ca T Wn mt))
    (he : ∀ (s : Shared) (H : Hp) (C : Addr) (cl : List (Str × Addr)) (fp : List Addr), pX (Z.blk s H scope (compEnvC scope cl C Z.env) fp) ca T Wn elt me) (hs : ∀ x, foldedSetIterable iter Z.env x = pure x) :
    pS Z ca T W (.Assign [.Name y py] (.ListComp elt [⟨tg, iter, ifs, 0⟩] scope pos) spos) (fun σ h => thenS ((bnd (lcM mi mg mt me (own.map (·.2)) σ) fun xs => fun h => some (.ok (.loc h.length), h ++ [.lst xs])) h) σ fun d h1 => thenS (ret (σ.set i (some d)) h1) σ fun σ1 h2 => some (.nx σ1 h2)) :=
  PS.imp (ps_setLc (te := rdV Z.K ca T Wn me) (g := rdG Z.K ca T Wn (List.map (fun q : Str × Nat => q.2) own) mg) hc hN hy hyl hsw hi ok hg ht he hs) fun Dn σ H h => by
    show tLc _ _ _ _ _ σ H (fun x H1 => gName i x σ H1 Dn.nx)
    exact lc_red (own_red (asg_red h))
theorem reps3 {K : PySem.W.Frag} {ρ : List Addr} {H : Hp} {L : Addr → Prop} {d e f : D} {vs : List V} (h : Reps K ρ L H [d, e, f] vs) : ∃ u v w, vs = [u, v, w] ∧ Rep K ρ L H d u ∧ Rep K ρ L H e v ∧ Rep K ρ L H f w := by
  rw [Reps] at h
  obtain ⟨u, r, rfl, h1, h2⟩ := h
  obtain ⟨v, w, rfl, h3, h4⟩ := reps2 h2
  exact ⟨u, v, w, rfl, h1, h3, h4⟩
theorem s_par2 {i j : Nat} {x y : Str} {px py pt : Pos} {kt k2 : Nat} {pt2 : Pos} (hc : Z.calm = true) (hN : Z.N.Nodup) (hi : Z.N[i]? = some x) (hj : Z.N[j]? = some y) (hij : i ≠ j)
    (hx : Z.env.scope.names.lookup x = some .local) (hy : Z.env.scope.names.lookup y = some .local) (ha : pA Z ca T W [a, b] mr)
    (hw : swappedStores [.Tuple [.Name x px, .Name y py] kt pt] (.Tuple [a, b] k2 pt2) Z.env = pure (some [x, y])) :
    pS Z ca T W (.Assign [.Tuple [.Name x px, .Name y py] kt pt] (.Tuple [a, b] k2 pt2) pos) (fun σ h => thenS (mr σ h) σ fun ds h1 => match setAll [i, j] ds σ with | some σ1 => some (.nx σ1 h1) | none => none) := by
  refine PS.imp (ps_par hc hN hi hj hij hx hy ha hw rfl) fun Dn σ H h => ?_
  obtain ⟨L0, ρ, σd, hd, r, rs, fn⟩ := h
  refine ⟨L0, ρ, σd, hd, r, rs, Fin.imp (FinO.thenS r rs fn) fun ρ1 hd1 H1 ds p1 f1 vs rvs => ?_⟩
  cases ds with
  | nil => exact False.elim f1
  | cons d ds =>
    cases ds with
    | nil => exact False.elim f1
    | cons e ds =>
      cases ds with
      | cons g ds => exact False.elim f1
      | nil =>
        obtain ⟨v, w, rfl, r1, r2⟩ := reps2 rvs
        exact ⟨v, w, rfl, FinO.nxt p1.rel (((rs.keep r p1).set r1).set r2) f1⟩
theorem s_par3 {i j l : Nat} {x y z : Str} {px py pz pt : Pos} {kt k2 : Nat} {pt2 : Pos} (hc : Z.calm = true) (hN : Z.N.Nodup) (hi : Z.N[i]? = some x) (hj : Z.N[j]? = some y) (hl : Z.N[l]? = some z) (hij : i ≠ j) (hil : i ≠ l) (hjl : j ≠ l)
    (hx : Z.env.scope.names.lookup x = some .local) (hy : Z.env.scope.names.lookup y = some .local) (hz : Z.env.scope.names.lookup z = some .local) (ha : pA Z ca T W [a, b, c] mr)
    (hw : swappedStores [.Tuple [.Name x px, .Name y py, .Name z pz] kt pt] (.Tuple [a, b, c] k2 pt2) Z.env = pure (some [x, y, z])) :
    pS Z ca T W (.Assign [.Tuple [.Name x px, .Name y py, .Name z pz] kt pt] (.Tuple [a, b, c] k2 pt2) pos) (fun σ h => thenS (mr σ h) σ fun ds h1 => match setAll [i, j, l] ds σ with | some σ1 => some (.nx σ1 h1) | none => none) := by
  refine PS.imp (ps_par3 hc hN hi hj hl hij hil hjl hx hy hz ha hw rfl) fun Dn σ H h => ?_
  obtain ⟨L0, ρ, σd, hd, r, rs, fn⟩ := h
  refine ⟨L0, ρ, σd, hd, r, rs, Fin.imp (FinO.thenS r rs fn) fun ρ1 hd1 H1 ds p1 f1 vs rvs => ?_⟩
  cases ds with
  | nil => exact False.elim f1
  | cons d ds =>
    cases ds with
    | nil => exact False.elim f1
    | cons e ds =>
      cases ds with
      | nil => exact False.elim f1
      | cons g ds =>
        cases ds with
        | cons g2 ds => exact False.elim f1
        | nil =>
          obtain ⟨u, v, w, rfl, r1, r2, r3⟩ := reps3 rvs
          exact ⟨u, v, w, rfl, FinO.nxt p1.rel ((((rs.keep r p1).set r1).set r2).set r3) f1⟩
end
end Ev

set_option Elab.async false
set_option linter.all false
set_option maxRecDepth 100000
set_option maxHeartbeats 4000000
/-! Ev4d: len(set(t)), written dicts, lists that become ours, list(range(n)). -/
namespace Ev
open PySem L2 PyProof.Rows
/-! ### counting -/
def dl : List Int → List Int
  | [] => []
  | x :: xs => if xs.contains x then dl xs else x :: dl xs
theorem dl_mem : ∀ (ns : List Int) (j : Int), j ∈ dl ns ↔ j ∈ ns
  | [], j => by simp [dl]
  | x :: xs, j => by
    unfold dl
    by_cases h : xs.contains x = true
    · rw [if_pos h, dl_mem xs j]
      have hx : x ∈ xs := by simpa using h
      constructor
      · exact fun z => List.mem_cons_of_mem _ z
      · intro z
        rcases List.mem_cons.mp z with rfl | z
        · exact hx
        · exact z
    · rw [if_neg h, List.mem_cons, List.mem_cons, dl_mem xs j]
theorem dl_nodup : ∀ ns : List Int, (dl ns).Nodup
  | [] => by simp [dl]
  | x :: xs => by
    unfold dl
    by_cases h : xs.contains x = true
    · rw [if_pos h]; exact dl_nodup xs
    · rw [if_neg h, List.nodup_cons]
      refine ⟨fun z => h ?_, dl_nodup xs⟩
      rw [dl_mem] at z
      simpa using z
theorem dl_len : ∀ ns : List Int, (dl ns).length = nodupI ns
  | [] => rfl
  | x :: xs => by
    unfold dl nodupI
    by_cases h : xs.contains x = true
    · rw [if_pos h, if_pos h, dl_len xs]
    · rw [if_neg h, if_neg h, List.length_cons, dl_len xs]
theorem count_ok {ks ns : List Int} (h : ks.Nodup) (m : ∀ j, j ∈ ks ↔ j ∈ ns) : ks.length = nodupI ns := by
  rw [← dl_len]
  exact ((List.perm_ext_iff_of_nodup h (dl_nodup ns)).mpr fun j => (m j).trans (dl_mem ns j).symm).length_eq
section
variable {X : Cx}
def tLenSetT (K : PySem.W.Frag) (ta : TE) : TE := fun σ H Q => ta σ H fun x H1 => ∃ (l : Addr) (ns : List Int), x = V.ref l ∧ SqT K H1 l (ns.map V.int) ∧ ns.length < 4000 ∧ Q (.int (nodupI ns)) H1
theorem pe_lenSetT {a : Expr} {ta : TE} {p p2 q pos : Pos} (hc : X.calm = true) (hg : Gl X "len") (hm : X.mg "len" = none) (hg2 : Gl X "set") (hm2 : X.mg "set" = none) (ha : PE X a ta)
    (na : starEach [a] X.env = (false, eval a X.env) :: starEach [] X.env) : PE X (.Call (.Name "len" p) [.Call (.Name "set" p2) [a] [] q] [] pos) (tLenSetT X.K ta) := by
  refine ⟨fun pins s σ H Q I h => ?_⟩
  refine Call_ (ld_blt I hg hm PySem.boot_len ?_)
  refine PyProof.Rows.callWith_builtin1 (PyProof.Rows.args_cons ?_ rfl) rfl rfl
  refine Call_ (ld_blt I hg2 hm2 PyProof.Rows.boot_set ?_)
  refine PyProof.Rows.callWith_type1 (PyProof.Rows.args_cons (thn (ha.run pins s σ H _ I h) fun v s1 ⟨x, H1, I1, r1, q1⟩ => PyProof.Rows.args_nil ?_) na) na rfl
  obtain ⟨l, ns, rfl, hq, h1, q1⟩ := q1
  cases r1
  obtain ⟨its, r, ht, hz⟩ := I1.tuple hq
  refine call_set_tupI ns (I1.ok.hd hc) (show s1.heap.IsTuple l its.toArray from ht) (by simpa using r.ints) (by unfold scanBound; omega) fun h' tk c hS hcl hk => ?_
  refine PyProof.Rows.args_nil ?_
  obtain ⟨o, es, ep, t, ho, hex, hd, _, hnd, hmem, _, hf, hn, _⟩ := hS
  have hcount : es.size = nodupI ns := by
    have h2 := count_ok (ks := es.toList.map keyOf) (ns := ns) hnd fun j => by rw [← hmem j]; simp
    rw [List.length_map, Array.length_toList] at h2
    exact h2
  have I2 : Inv X pins σ H1 { s1 with heap := h', toks := tk } := I1.kept fun b o e => hk b o e
  exact call_len_set ho hex hd hf (by rw [hn] <;> omega) ⟨.int (nodupI ns), H1, I2.tok _, ⟨_, by rw [hcount]⟩, q1⟩
def tLenSetA (K : PySem.W.Frag) (ta : TE) : TE := fun σ H Q => ta σ H fun x H1 => ∃ (l : Addr) (ns : List Int), x = V.ref l ∧ ns.length < 4000 ∧ ((SqT K H1 l (ns.map V.int) ∧ Q (.int (nodupI ns)) H1) ∨ (SqL K H1 l (ns.map V.int) ∧ ns.Nodup ∧ Q (.int ns.length) H1))
theorem pe_lenSetA {a : Expr} {ta : TE} {p p2 q pos : Pos} (hc : X.calm = true) (hg : Gl X "len") (hm : X.mg "len" = none) (hg2 : Gl X "set") (hm2 : X.mg "set" = none) (ha : PE X a ta)
    (na : starEach [a] X.env = (false, eval a X.env) :: starEach [] X.env) : PE X (.Call (.Name "len" p) [.Call (.Name "set" p2) [a] [] q] [] pos) (tLenSetA X.K ta) := by
  refine ⟨fun pins s σ H Q I h => ?_⟩
  refine Call_ (ld_blt I hg hm PySem.boot_len ?_)
  refine PyProof.Rows.callWith_builtin1 (PyProof.Rows.args_cons ?_ rfl) rfl rfl
  refine Call_ (ld_blt I hg2 hm2 PyProof.Rows.boot_set ?_)
  refine PyProof.Rows.callWith_type1 (PyProof.Rows.args_cons (thn (ha.run pins s σ H _ I h) fun v s1 ⟨x, H1, I1, r1, q1⟩ => PyProof.Rows.args_nil ?_) na) na rfl
  obtain ⟨l, ns, rfl, h1, q1⟩ := q1
  cases r1
  rcases q1 with ⟨hq, q1⟩ | ⟨hq, hnd, q1⟩
  · obtain ⟨its, r, ht, hz⟩ := I1.tuple hq
    refine call_set_tupI ns (I1.ok.hd hc) (show s1.heap.IsTuple l its.toArray from ht) (by simpa using r.ints) (by unfold scanBound; omega) fun h' tk c hS hcl hk => ?_
    refine PyProof.Rows.args_nil ?_
    obtain ⟨o, es, ep, t, ho, hex, hd, _, hnd, hmem, _, hf, hn, _⟩ := hS
    have hcount : es.size = nodupI ns := by
      have h2 := count_ok (ks := es.toList.map keyOf) (ns := ns) hnd fun j => by rw [← hmem j]; simp
      rw [List.length_map, Array.length_toList] at h2
      exact h2
    have I2 : Inv X pins σ H1 { s1 with heap := h', toks := tk } := I1.kept fun b o e => hk b o e
    exact call_len_set ho hex hd hf (by rw [hn] <;> omega) ⟨.int (nodupI ns), H1, I2.tok _, ⟨_, by rw [hcount]⟩, q1⟩
  · obtain ⟨its, r, pl, hz⟩ := I1.list hq
    have hlen : its.toArray.size = ns.length := by rw [List.size_toArray, ← r.length, List.length_map]
    refine call_set_list (I1.ok.hd hc) pl.isList (by simpa using RZ.intsAre_vals r) (by rw [hlen]; unfold scanBound; omega) fun h' tk hS hk => ?_
    refine PyProof.Rows.args_nil ?_
    rw [hlen, RZ.firstMet_nodup hnd ns.length (Nat.le_refl _), List.take_length] at hS
    obtain ⟨o, es, ep, t, ho, hex, hd, _, _, _, hf, hn⟩ := hS
    have I2 : Inv X pins σ H1 { s1 with heap := h', toks := tk } := I1.kept fun b o e => hk b o (Heap.lt_size e) e
    exact call_len_set ho hex hd hf (by rw [hn] <;> omega) ⟨.int ns.length, H1, I2.tok _, ⟨_, by rw [hn]⟩, q1⟩
end
section
variable {Z : Cx} {ca : Nat → Addr} {T : List (Addr × Str)} {W : WX} {a b c : Expr} {ma mb : Sl → M D} {mr mi : Sl → M (List D)} {pos p2 p3 p4 p5 : Pos} {es : List Expr} {x : Str}
theorem s_lset (hc : Z.calm = true) (hg : Gl Z "len") (hm : Z.mg "len" = none) (hg2 : Gl Z "set") (hm2 : Z.mg "set" = none) (ha : pX Z ca T W a ma) (na : starEach [a] Z.env = (false, eval a Z.env) :: starEach [] Z.env) :
    pX Z ca T W (.Call (.Name "len" p2) [.Call (.Name "set" p3) [a] [] p4] [] pos) (fun σ => bnd (ma σ) fun x => match x with
    | .tup xs => match allI xs with
      | some ns => if ns.length < 4000 then ret (.int (nodupI ns)) else stuck
      | none => stuck
    | .lst xs => match allI xs with
      | some ns => if ns.Nodup ∧ ns.length < 4000 then ret (.int ns.length) else stuck
      | none => stuck
    | _ => stuck) := by
  refine PE.imp (pe_lenSetA hc hg hm hg2 hm2 ha na) fun σ H Q h => ?_
  obtain ⟨L0, ρ, σd, hd, rh, rs, fn⟩ := h
  refine ⟨L0, ρ, σd, hd, rh, rs, Fin.imp (Fin.bnd fn) fun ρ1 hd1 H1 d p1 f1 v rv => ?_⟩
  cases d with
  | tup xs =>
    cases e : allI xs with
    | none => simp only [e] at f1; exact False.elim f1
    | some ns =>
      simp only [e] at f1
      by_cases hl : ns.length < 4000
      · rw [if_pos hl] at f1
        rw [Rep] at rv
        obtain ⟨p, vs, rfl, h1, h2⟩ := rv
        have e2 := h2.ints e
        subst e2
        exact ⟨p, ns, rfl, hl, .inl ⟨h1.sq, Fin.ret p1.rel f1 _ (by rw [Rep])⟩⟩
      · rw [if_neg hl] at f1; exact False.elim f1
  | lst xs =>
    cases e : allI xs with
    | none => simp only [e] at f1; exact False.elim f1
    | some ns =>
      simp only [e] at f1
      by_cases hl : ns.Nodup ∧ ns.length < 4000
      · rw [if_pos hl] at f1
        obtain ⟨p, vs, rfl, h1, h2⟩ := sqL_of_rep (.inl rv)
        have e2 := h2.ints e
        subst e2
        exact ⟨p, ns, rfl, hl.2, .inr ⟨h1, hl.1, Fin.ret p1.rel f1 _ (by rw [Rep])⟩⟩
      · rw [if_neg hl] at f1; exact False.elim f1
  | _ => exact False.elim f1
/-- what is known of a written dict -/
def DctOk (K : PySem.W.Frag) (w : World) (d : Addr) (t : Nm → Option (Option D)) : Prop := (∃ es n, KDict K w d es n) ∧
  (∀ s r, t s = some r → match r with
    | none => PySem.W.nsIn K d (St s) = some none
    | some v => ∃ u v', PySem.W.nsIn K d (St s) = some (some u) ∧ RelV v' u ∧ ∀ ρ L H, Rep K ρ L H v v')
theorem s_din {d : Addr} {t : Nm → Option (Option D)} (hd : DctOk Z.K Z.w d t) (ha : pX Z ca T W a ma) (hb : PE Z b (tC (.ref d))) (hm : behindInMarks .In b = false) :
    pX Z ca T W (.Compare a [.In] [b] pos) (fun σ => bnd (ma σ) fun x => match x with
    | .str s => match t s with
      | some r => ret (.bl r.isSome)
      | none => stuck
    | _ => stuck) := by
  obtain ⟨⟨es, n, D⟩, hk⟩ := hd
  refine PE.imp (pe_cmpR (op_in_kd D) ha hb hm) fun σ H Q h => ?_
  obtain ⟨L0, ρ, σd, hd, rh, rs, fn⟩ := h
  refine ⟨L0, ρ, σd, hd, rh, rs, Fin.imp (Fin.bnd fn) fun ρ1 hd1 H1 dx p1 f1 v rv => ?_⟩
  cases dx with
  | str s =>
    cases e : t s with
    | none => simp only [e] at f1; exact False.elim f1
    | some r =>
      simp only [e] at f1
      rw [Rep] at rv; subst rv
      have h2 := hk s r e
      cases r with
      | none => exact ⟨St s, none, rfl, rfl, h2, Fin.ret p1.rel f1 _ (by rw [Rep]; rfl)⟩
      | some v =>
        obtain ⟨u, v', h3, _⟩ := h2
        exact ⟨St s, some u, rfl, rfl, h3, Fin.ret p1.rel f1 _ (by rw [Rep]; rfl)⟩
  | _ => exact False.elim f1
theorem s_dget {d : Addr} {t : Nm → Option (Option D)} (hd : DctOk Z.K Z.w d t) (ha : pX Z ca T W a ma) (hb : PE Z b (tC (.ref d))) (hs : PlainIx a) :
    pX Z ca T W (.Subscript b a pos) (fun σ => bnd (ma σ) fun x => match x with
    | .str s => match t s with
      | some (some d) => ret d
      | _ => stuck
    | _ => stuck) := by
  obtain ⟨⟨es, n, D⟩, hk⟩ := hd
  refine PE.imp (pe_ix ix_kdict hb ha hs) fun σ H Q h => ?_
  show rdV Z.K ca T W ma σ H _
  obtain ⟨L0, ρ, σd, hd, rh, rs, fn⟩ := h
  refine ⟨L0, ρ, σd, hd, rh, rs, Fin.imp (Fin.bnd fn) fun ρ1 hd1 H1 dx p1 f1 v rv => ?_⟩
  cases dx with
  | str s =>
    cases e : t s with
    | none => simp only [e] at f1; exact False.elim f1
    | some r =>
      cases r with
      | none => simp only [e] at f1; exact False.elim f1
      | some v =>
        simp only [e] at f1
        rw [Rep] at rv; subst rv
        obtain ⟨u, v', h3, h4, h5⟩ := hk s (some v) e
        exact ⟨d, St s, v', rfl, rfl, ⟨es, n, u, D.at_, D.lit, h3, h4⟩, Fin.ret p1.rel f1 _ (h5 _ _ _)⟩
  | _ => exact False.elim f1
/-! ### a list that becomes ours -/
theorem bnd_assoc {α β γ : Type} (m : M α) (f : α → M β) (g : β → M γ) : bnd (bnd m f) g = bnd m fun x => bnd (f x) g := by
  funext h
  unfold bnd
  cases m h with
  | none => rfl
  | some q =>
    obtain ⟨q, h1⟩ := q
    cases q <;> rfl
/-- list(range(n)) -/
theorem sF_lrng (hc : Z.calm = true) (hg : Gl Z "list") (hm : Z.mg "list" = none) (hg2 : Gl Z "range") (hm2 : Z.mg "range" = none) (ha : pX Z ca T W a ma) (na : starEach [a] Z.env = (false, eval a Z.env) :: starEach [] Z.env)
    (na2 : starEach [.Call (.Name "range" p3) [a] [] p4] Z.env = (false, eval (.Call (.Name "range" p3) [a] [] p4) Z.env) :: starEach [] Z.env) :
    pF Z ca T W (.Call (.Name "list" p2) [.Call (.Name "range" p3) [a] [] p4] [] pos) (fun σ => bnd (ma σ) fun x => opt (rngL [x])) := by
  refine pF_of (pe_listRg hc hg hm (prg_1 hg2 hm2 ha na) na2) fun σ H Q h => ?_
  obtain ⟨L0, ρ, σd, hd, rh, rs, fn⟩ := h
  refine ⟨L0, ρ, σd, hd, rh, rs, Fin.imp (Fin.bnd fn) fun ρ1 hd1 H1 d p1 f1 v rv => ?_⟩
  cases d with
  | int j =>
    simp only [rngL] at f1
    by_cases hj : (decide (-1000000 ≤ j) && decide (j ≤ 1000000)) = true
    · rw [if_pos hj] at f1
      rw [Rep] at rv; subst rv
      simp only [Bool.and_eq_true, decide_eq_true_eq] at hj
      refine ⟨j, rfl, ⟨by omega, by omega, by omega, by omega, by omega⟩, fun p hp => ?_⟩
      refine Fin.ret p1.rel f1 _ ?_ p hp
      have e1 : rgV 0 j = ((List.range j.toNat).map fun (i : Nat) => ((i : Nat) : Int)).map V.int := by
        unfold rgV
        rw [List.map_map]
        have e0 : (j - 0).toNat = j.toNat := by omega
        rw [e0]
        refine List.map_congr_left fun i _ => ?_
        show V.int (0 + (i : Int)) = V.int (i : Int)
        rw [Int.zero_add]
      rw [e1]
      have e2 : ((List.range j.toNat).map fun (i : Nat) => D.int (i : Int)) = ((List.range j.toNat).map fun (i : Nat) => ((i : Nat) : Int)).map D.int := by rw [List.map_map]; rfl
      rw [e2]
      exact Reps.of_ints _ _
    · rw [if_neg hj] at f1; exact False.elim f1
  | _ => exact False.elim f1
end
end Ev

set_option Elab.async false
set_option linter.all false
set_option maxRecDepth 100000
set_option maxHeartbeats 4000000
/-! Ev4e: sorted, the greatest first. -/
namespace Ev
open PySem L2 PyProof.Rows
section
variable {Z : Cx} {ca : Nat → Addr} {T : List (Addr × Str)} {W : WX} {a b c : Expr} {ma mb : Sl → M D} {pos p2 p3 p4 p5 : Pos}
theorem s_srtR {j : Nat} (hg : Gl Z "sorted") (hm : Z.mg "sorted" = none) (ha : pX Z ca T W a ma) (he : starEach [a] Z.env = (false, eval a Z.env) :: starEach [] Z.env) :
    pX Z ca T W (.Call (.Name "sorted" p2) [a] [⟨some ("reverse" : Str), .Constant (.bool true) j p4, p5⟩] pos) (fun σ => bnd (ma σ) fun x => fun h => opt (biD .sortedR h [x]) h) := by
  refine PE.imp (pe_callBK (cr_sortedRev (b := true)) hg hm rfl (pa_cons ha pa_nil he) (pk_cons pe_bl pk_nil) (by decide) (by decide) (by rw [he]; rfl) (by rw [he]; rfl)) fun σ H Q h => ?_
  obtain ⟨L0, ρ, σd, hd, rh, rs, fn⟩ := h
  refine ⟨L0, ρ, σd, hd, rh, rs, Fin.imp (Fin.bnd fn) fun ρ1 hd1 H1 x p1 f1 v rv => ?_⟩
  show rSortedKw Z.K true [.bl true] [v] [.bl true] H1 Q
  cases hs : see hd1 x with
  | lst xs =>
    have e : biD .sortedR hd1 [x] = match allI xs with
      | some ns => if ns.length < 64 then some (.lst ((sortI ns).reverse.map .int)) else none
      | none => none := by first | (simp only [biD, hs]; done) | (simp only [biD, hs]; rfl)
    rw [e] at f1
    cases hb : allI xs with
    | none => rw [hb] at f1; exact False.elim f1
    | some ns =>
      rw [hb] at f1
      simp only at f1
      by_cases hz : ns.length < 64
      · rw [if_pos hz] at f1
        obtain ⟨p, ws, rfl, h1, h3⟩ := see_lst p1.rel rv hs
        have := h3.ints hb
        subst this
        refine ⟨p, ns, rfl, rfl, SqL.of h1, fun ns' q hp ho hq => ?_⟩
        have ho' : ns'.Pairwise (· ≥ ·) := ho
        have e1 : ns'.reverse = sortI ns := sortI_only ((List.reverse_perm ns').trans hp) (List.pairwise_reverse.mpr ho')
        have e2 : ns' = (sortI ns).reverse := by rw [← e1, List.reverse_reverse]
        rw [e2]
        have g : Gives Z.K ca T L0 ρ1 hd1 H1 (.lst ((sortI ns).reverse.map .int)) Q := fun ρ' H' v' pp hh => f1 ρ' H' pp v' hh
        exact g.lst p1.rel (Reps.of_ints _ _) hq
      · rw [if_neg hz] at f1; exact False.elim f1
  | _ =>
    have e : biD .sortedR hd1 [x] = none := by simp only [biD, hs]
    rw [e] at f1
    exact False.elim f1
end
end Ev

set_option Elab.async false
set_option linter.all false
set_option maxRecDepth 100000
set_option maxHeartbeats 4000000
/-! Ev4f: == and != of instances, by their class's own __eq__. -/
namespace Ev
open PySem L2 PyProof.Rows
/-- what is known of a class with an own __eq__ and no __ne__ -/
structure EqC (K : PySem.W.Frag) (C f : Addr) : Prop where
  at_ : PySem.W.findIn K (.ref C) "__eq__" = some (some (.ref f))
  fn : PySem.W.isFn K (.ref f) = true
  not : ∀ t ∈ [Ty.non, .bl, .int, .str, .tup, .lst], PySem.W.notFirst K C (.type (tyStr t)) = true
  cls : ∃ nm q N bs hdct sn sub ab col dd k0 k1 k2 k3 k5 newId, K.lookup C = some (excClassObj nm q C N bs [.type "object"] hdct sn sub ab col dd k0 k1 k2 k3 k5 newId) ∧ PySem.W.nsOkIn K N = true ∧ PySem.W.nsIn K N "__eq__" = some (some (.ref f)) ∧ PySem.W.nsIn K N "__ne__" = some none
  fo : ∃ o, K.lookup f = some o ∧ o.cls = .type "function"
section
variable {Z : Cx} {ca : Nat → Addr} {T : List (Addr × Str)} {W : WX} {a b : Expr} {ma mb : Sl → M D} {pos : Pos} {k c : Nat} {f : Addr} {fd : FuncData} {ps : List Str} {F : List D → M D} {neg : Bool}
/-- a name told by the written part -/
theorem ns_has {K : PySem.W.Frag} {hp : Heap} {N : Addr} {mm : Str → Option Value} {nn : Str} {vv : Value} (X : K.In hp) (G : hp.Ns N mm) (e : PySem.W.nsIn K N nn = some (some vv)) : mm nn = some vv := by
  obtain ⟨ob, ents, e1, e2, e3, _, look⟩ := G
  unfold PySem.W.nsIn at e
  split at e
  · rename_i c1 d1 es1 n1 sl1 q1
    have got := X _ _ q1
    rw [e2] at got; cases got; cases e3
    split at e
    · rename_i en1 he1
      cases e
      rw [← look]; unfold nsFind findBy
      rw [← Array.find?_toList]
      rw [he1]; rfl
    · split at e <;> cases e
  · cases e
/-- the reading of the compare -/
def rdOeq (K : PySem.W.Frag) (ca : Nat → Addr) (T : List (Addr × Str)) (F : List D → M D) (neg : Bool) (c : Nat) : R2 := fun x y H Q => ∃ L0 ρ hd dx dy r hd', RelH K ca T L0 ρ hd H ∧ Rep K ρ (Lv L0 ρ hd) H dx x ∧ Rep K ρ (Lv L0 ρ hd) H dy y ∧ insOf hd dx c = true ∧ eqOk neg hd c dy = true ∧
  F [dx, dy] hd = some (.ok (.bl r), hd') ∧ ∀ ρ' H', Post K ca T L0 ρ hd H ρ' hd' H' → Q (.bl (if neg then !r else r)) H'
theorem ins_at {K : PySem.W.Frag} {L0 : Addr → Prop} {ρ : List Addr} {hd : Hd} {H : Hp} {x : V} {d : D} (r : RelH K ca T L0 ρ hd H) (rx : Rep K ρ (Lv L0 ρ hd) H d x) (h : insOf hd d c = true) : ∃ p dx fs, x = .ref p ∧ H p = some (.ins (ca c) dx fs) := by
  unfold insOf at h
  cases d <;> simp only at h <;> try (cases h; done)
  rename_i n
  cases hn : hd[n]? with
  | none => simp [hn] at h
  | some cl =>
    cases cl <;> simp [hn] at h
    rename_i c' fs
    subst h
    rw [Rep] at rx
    obtain ⟨p, rfl, e1⟩ := rx
    obtain ⟨dx, vfs, e2, _⟩ := r.cell n _ p hn e1
    exact ⟨p, dx, vfs, rfl, e2⟩
theorem eq_type {pins : List (Addr × Obj)} {s : Shared} {σ : L2.St} {H : Hp} {L0 : Addr → Prop} {ρ : List Addr} {hd : Hd} {y : V} {u : Value} {dy : D} {f : Addr} (I : Inv Z pins σ H s) (r : RelH Z.K ca T L0 ρ hd H) (ry : RelV y u) (rep : Rep Z.K ρ (Lv L0 ρ hd) H dy y) (E : EqC Z.K (ca c) f) (h : eqOk neg hd c dy = true) :
    ∃ tb, PySem.W.Looks (model Z.prog Z.w) s.heap (typeOf u) tb ∧ PySem.W.notFirst Z.K (ca c) tb = true := by
  have flat : ∀ t, tyD dy = some t → see hd dy = dy → ∃ tb, PySem.W.Looks (model Z.prog Z.w) s.heap (typeOf u) tb ∧ PySem.W.notFirst Z.K (ca c) tb = true := fun t ht hs => by
    obtain ⟨P, kx, hp, _⟩ := kit_of I ry (tyX_of r rep (by rw [hs]; exact ht))
    exact ⟨_, kx.ty _ _ I.kIn hp, E.not t (by cases t <;> decide)⟩
  cases dy with
  | loc m =>
    have h2 : insOf hd (.loc m) c = true := h
    obtain ⟨p, dx, fs, rfl, e⟩ := ins_at r rep h2
    cases ry
    obtain ⟨mB, J', _⟩ := ins_get I.hok e
    obtain ⟨od', J', _⟩ := J'.look
    exact ⟨_, J'.type, by simp [PySem.W.notFirst]⟩
  | _ =>
    unfold eqOk at h
    simp only [Bool.and_eq_true] at h
    obtain ⟨t, ht⟩ := Option.isSome_iff_exists.mp h.2
    first | exact flat t ht rfl | (simp [tyD] at ht)
theorem op_oeq (E : EqC Z.K (ca c) f) (FE : FnE Z.prog Z.w Z.K Z.mg Z.base k f fd ps (spC Z.K ca T F ps.length) false) (hp : ps.length = 2) (hr : Room k Z.A) (hb : Binds Z.K fd ps []) (tk : Takes Z W) (hu : Z.A.units < cLine) : OpR Z (compareOp .Eq) (rdOeq Z.K ca T F false c) := by
  intro pins s σ H x y v u Q I rx ry h
  obtain ⟨L0, ρ, hd, dx, dy, r, hd', rh, r1, r2, i1, i2, e, q⟩ := h
  obtain ⟨p, dd, fs, rfl, hp1⟩ := ins_at rh r1 i1
  obtain rfl : v = .ref p := rx
  obtain ⟨tb, lk, nf⟩ := eq_type I rh ry r2 E i2
  obtain ⟨mA, J, _⟩ := ins_get I.hok hp1
  obtain ⟨od, J, _⟩ := J.look
  obtain ⟨m, hF⟩ := I.fr
  refine PySem.W.cmp_K (op := .Eq) hu hF I.ok.mod.kin J lk nf E.at_ E.fn ?_
  refine wpAny_mono (run_fnE (us := [.ref p, u]) (vs := [.ref p, y]) (Q := fun w H' => ∃ r', w = .bl r' ∧ Q w H') FE hr (fun z => nomatch z) tk I (fun hl => ?_) (.cons rfl (.cons ry .nil)) ?_) (fun w s' hw => ?_) fun _ _ z => z
  · have := hb s [.ref p, u] I.kIn (by simpa using hl)
    simpa using this
  · refine ⟨by rw [hp]; rfl, L0, ρ, hd, [dx, dy], rh, ?_, ?_⟩
    · rw [Reps]
      exact ⟨_, [y], rfl, r1, by rw [Reps]; exact ⟨y, [], rfl, r2, by rw [Reps]⟩⟩
    · rw [e]
      intro ρ' H' po v' rv'
      rw [Rep] at rv'
      subst rv'
      exact ⟨r, rfl, q ρ' H' po⟩
  · obtain ⟨v', H', I', rv', r', rfl, qq⟩ := hw
    obtain rfl : w = .bool r' := rv'
    exact ⟨.bl r', H', I', rfl, qq⟩
theorem op_one (E : EqC Z.K (ca c) f) (FE : FnE Z.prog Z.w Z.K Z.mg Z.base k f fd ps (spC Z.K ca T F ps.length) false) (hp : ps.length = 2) (hr : Room (k + 1) Z.A) (hb : Binds Z.K fd ps []) (tk : Takes Z W) (hu : Z.A.units + 1 < cLine) (hx : Passes (L2.CX Z.prog Z.w) Z (fun _ _ _ => False)) : OpR Z (compareOp .NotEq) (rdOeq Z.K ca T F true c) := by
  intro pins s σ H x y v u Q I rx ry h
  obtain ⟨L0, ρ, hd, dx, dy, r, hd', rh, r1, r2, i1, i2, e, q⟩ := h
  have i3 : insOf hd dy c = true := by
    cases dy <;> first | exact i2 | (simp [eqOk] at i2)
  obtain ⟨p, dd, fs, rfl, hp1⟩ := ins_at rh r1 i1
  obtain ⟨p2, dd2, fs2, rfl, hp2⟩ := ins_at rh r2 i3
  obtain rfl : v = .ref p := rx
  obtain rfl : u = .ref p2 := ry
  obtain ⟨mA, J, _⟩ := ins_get I.hok hp1
  obtain ⟨od, J, _⟩ := J.look
  obtain ⟨mB, J', _⟩ := ins_get I.hok hp2
  obtain ⟨od', J', _⟩ := J'.look
  obtain ⟨nm, qn, N, bs, hdct, sn, sub, ab, col, ddc, k0, k1, k2, k3, k5, newId, hC, hN, hE, hNe⟩ := E.cls
  obtain ⟨fo, hfo, hfc⟩ := E.fo
  have X := I.kIn
  have G : s.heap.Ns N (s.heap.nsMap N) := .of_isNs (PySem.W.isNs_of_in X hN)
  obtain ⟨hh, g, d, t, os⟩ := s
  have own : hh.OwnEqNoNe p (ca c) f "object" [.type "object"] :=
    ⟨_, fo, nm, qn, N, bs, hdct, sn, sub, ab, col, ddc, k0, k1, k2, k3, k5, newId, hh.nsMap N, _, J.at_, J.cls, X _ _ hC, G, ns_has X G hE, X _ _ hfo, hfc, by rfl, by rfl, PySem.W.ns_none_of X G hNe⟩
  refine compareOp_ne_ownEq PySem.F.cmp_object own J'.at_ J'.cls hu ?_
  have hsp : spC Z.K ca T F ps.length [.ref p, .ref p2] H (fun w H' => w = .bl r ∧ Q (.bl (!r)) H') (fun _ _ _ => False) := by
    refine ⟨by rw [hp]; rfl, L0, ρ, hd, [dx, dy], rh, ?_, ?_⟩
    · rw [Reps]
      exact ⟨_, [.ref p2], rfl, r1, by rw [Reps]; exact ⟨_, [], rfl, r2, by rw [Reps]⟩⟩
    · rw [e]
      intro ρ' H' po v' rv'
      rw [Rep] at rv'
      subst rv'
      exact ⟨rfl, q ρ' H' po⟩
  have e0 : Env0 Z.prog Z.w Z.K Z.mg Z.base Z.A.in1 Z.stack ⟨hh, g, d, t, os⟩ H := by
    have e := I.env0
    exact ⟨e.frames, e.mod, e.bs, e.bsz, e.funs, e.frf, e.hok, e.bare⟩
  have hl : [Value.ref p, Value.ref p2].length = ps.length := by rw [hp]; rfl
  have rvs : Vals [V.ref p, V.ref p2] [Value.ref p, Value.ref p2] := .cons rfl (.cons rfl .nil)
  refine wpAny_call (codeAny_mono (FE.run Z.A.in1 Z.stack ⟨hh, g, d, t, os⟩ H ⟨[.ref p, .ref p2], []⟩ [.ref p, .ref p2] [.ref p, .ref p2] _ _ hr.in1 (fun z => nomatch z) e0 (by
    have := hb ⟨hh, g, d, t, os⟩ [.ref p, .ref p2] I.kIn (by simpa using hl)
    simpa using this) rvs hsp) fun rr s' hq => ?_)
  cases rr with
  | error e => exact hx pins σ H _ e s' I hq
  | ok fl =>
    cases fl with
    | ret w =>
      obtain ⟨z, H', I', rz, ez, qq⟩ := I.after hq
      subst ez
      obtain rfl : w = .bool r := rz
      exact ⟨r, rfl, .bl (!r), H', I', rfl, qq⟩
    | next => exact False.elim hq
    | brk => exact False.elim hq
    | cont => exact False.elim hq
theorem rd_oeq {σ : L2.St} {H : Hp} {Q : VK} (h : rdV Z.K ca T W (fun σ => bnd (ma σ) fun x => bnd (mb σ) fun y => oeqM F neg c x y) σ H Q) : tOp (rdOeq Z.K ca T F neg c) (rdV Z.K ca T W ma) (rdV Z.K ca T W mb) σ H Q := by
  obtain ⟨L0, ρ, σd, hd, rh, rs, fn⟩ := h
  refine ⟨L0, ρ, σd, hd, rh, rs, Fin.imp (Fin.bnd fn) fun ρ1 hd1 H1 x p1 f1 v rv => ?_⟩
  refine ⟨L0, ρ1, σd, hd1, p1.rel, rs.keep rh p1, Fin.imp (Fin.bnd f1) fun ρ2 hd2 H2 y p2 f2 u ru => ?_⟩
  unfold oeqM at f2
  by_cases hc : (insOf hd2 x c && eqOk neg hd2 c y) = true
  · rw [if_pos hc] at f2
    obtain ⟨h1, h2⟩ := Bool.and_eq_true_iff.mp hc
    split at f2
    · rename_i r hd3 e
      refine ⟨L0, ρ2, hd2, x, y, r, hd3, p2.rel, Rep.keep p1.rel p2 x v rv, ru, h1, h2, e, fun ρ' H' po => ?_⟩
      exact f2 ρ' H' po (.bl (if neg then !r else r)) (by rw [Rep])
    · exact False.elim f2
  · rw [if_neg hc] at f2; exact False.elim f2
theorem oeqM_bl {x y d : D} {h h' : Hd} (e : oeqM F neg c x y h = some (.ok d, h')) : ∃ r, d = .bl r := by
  unfold oeqM at e
  split at e
  · split at e
    · cases e; exact ⟨_, rfl⟩
    · cases e
  · cases e
end
end Ev

set_option Elab.async false
set_option linter.all false
set_option maxRecDepth 100000
set_option maxHeartbeats 4000000
/-! Ev4g: try with several except clauses, some of which name the error; a clause that returns a module's constant. -/
namespace Ev
open PySem L2 PyProof.Rows
/-- what the clauses wish of an error of the body, one after the other -/
def wMix (K : PySem.W.Frag) (Wout : WX) (D : Ends) : List (Value × Option Nat × (Addr → Value → Option Addr → TS)) → WX
  | [] => Wout
  | (c, none, ts) :: r => fun cls d σ H => ∃ b, PySem.W.exmOne K cls c = some b ∧ (b = true → ∀ a, H a = none → ts a cls d D σ H) ∧ (b = false → wMix K Wout D r cls d σ H)
  | (c, some i, ts) :: r => wAs K c i ts (wMix K Wout D r) D
inductive HdsMix (X : Cx) : List ExceptHandler → List (Value × Option Nat × (Addr → Value → Option Addr → TS)) → Prop
  | nil : HdsMix X [] []
  | one {x : Str} {c : Value} {ts : Addr → Value → Option Addr → TS} {b₀ : Stmt} {suite : List Stmt} {np pos' : Pos} {hds : List ExceptHandler} {l : List (Value × Option Nat × (Addr → Value → Option Addr → TS))} (hc : Names X x c)
      (hsu : ∀ (a : Addr) (oe : Obj) (cls : Value) (d : Option Addr) (pn : List (Addr × Obj)), Zc cls d oe → (∃ vs, oe.data = .fields vs) → PSs (X.suite a ((a, oe) :: pn)) (b₀ :: suite) (ts a cls d)) (r : HdsMix X hds l) :
      HdsMix X (.ExceptHandler (some (.Name x np)) none (b₀ :: suite) pos' :: hds) ((c, none, ts) :: l)
  | as {x n : Str} {i : Nat} {c : Value} {ts : Addr → Value → Option Addr → TS} {b₀ : Stmt} {suite : List Stmt} {np pos' : Pos} {hds : List ExceptHandler} {l : List (Value × Option Nat × (Addr → Value → Option Addr → TS))} (hc : Names X x c)
      (hi : X.N[i]? = some n) (hln : X.env.kindOf n = some .local)
      (hsu : ∀ (a : Addr) (oe : Obj) (cls : Value) (d : Option Addr) (pn : List (Addr × Obj)), Zc cls d oe → (∃ vs, oe.data = .fields vs) → PSs (X.suite a ((a, oe) :: pn)) (b₀ :: suite) (ts a cls d)) (r : HdsMix X hds l) :
      HdsMix X (.ExceptHandler (some (.Name x np)) (some n) (b₀ :: suite) pos' :: hds) ((c, some i, ts) :: l)
section
variable {X : Cx} {body : List Stmt} {h₀ : ExceptHandler} {hds : List ExceptHandler} {l : List (Value × Option Nat × (Addr → Value → Option Addr → TS))} {pos : Pos} {tb : WX → TS} {Wout : WX}
theorem ps_try_mix (hs : X.stack = X.env :: X.outer) (hf : X.env.frame = some X.env.locals) (hN : X.N.Nodup) (tk : Takes X Wout)
    (hb : ∀ (W : WX) (pn : List (Addr × Obj)) (xe : Value → Shared → Prop), Takes (X.tr pn xe) W → PassesOwn (model X.prog X.w) X.A X.env xe → PSs (X.tr pn xe) body (tb W))
    (hh : HdsMix X (h₀ :: hds) l) : PS X (.Try body (h₀ :: hds) [] [] pos) (fun D σ H => tb (wMix X.K Wout D l) D σ H) := by
  refine ⟨fun pins s σ H D I h => ?_⟩
  have ok := I.ok
  have hfr : X.A.frames = some (X.env :: X.outer) := by rw [ok.frames, hs]
  refine wpAny_Try_except ?_
  refine wpAny_mono ((hb (wMix X.K Wout D l) (X.pn ++ pins) (fun e s₁ => wpAny (model X.prog X.w) X.A (noteFrame e X.env) (fun _ s₂ => wpAny (model X.prog X.w) X.A (setFlight e none) (fun _ s₃ =>
    wpAny (model X.prog X.w) X.A (handleBy e X.env (h₀ :: hds)) (SP X pins D) X.xe s₃) X.xe s₂) X.xe s₁) (fun u s' xx => ?_) PassesOwn.looking).run [] s σ H D (I.toTry _) h) (fun f s1 hsp => ?_) (fun e s1 he => he)
  · obtain ⟨a, B, sI, pins', σ', H', cls, d, rfl, J', nb, up, sky, na, os, ag, w⟩ := xx
    have J : Inv X pins σ' H' sI := J'.ofTry ok
    have sky' : Sky B (X.env :: X.outer) a (Zc cls d) X.env.locals s'.heap := by rw [← hs]; exact sky
    show wpAny (model X.prog X.w) X.A (noteFrame (.ref a) X.env) _ _ _
    refine Sky.land Zc.steady hfr hf sky' fun h3 fl3 up3 => ?_
    have J3 : Inv X pins σ' H' { s' with heap := h3 } := J.landed nb fl3.1 (up.trans up3) os ag
    obtain ⟨oe3, vs3, he3, hz3, hd3⟩ := fl3.there
    have notFr : ∀ {h : Heap} {o : Obj} {vs : Array Value}, h.FunFrames B (X.env :: X.outer) → h.get? a = some o → o.data = .fields vs → a ∉ frs (X.env :: X.outer) := fun {h o vs} ff e dd hm => by
      obtain ⟨_, o', e', hnf⟩ := ff.mem hm
      rw [e] at e'; cases e'
      exact hnf _ dd
    have nfr := notFr fl3.2.2.1 he3 hd3
    have nL : a ≠ X.env.locals := fun z => nfr (List.mem_filterMap.mpr ⟨X.env, List.mem_cons_self, by rw [hf, z]⟩)
    have nF : a ∉ X.fs := fun hm => by
      obtain ⟨e, he, q⟩ := List.mem_filterMap.mp hm
      exact nfr (List.mem_filterMap.mpr ⟨e, List.mem_cons_of_mem _ he, q⟩)
    have S3 := J3.suite he3 hd3 na nL nF
    have LT : PySem.W.Looks (model X.prog X.w) h3 (typeOf (.ref a)) cls := fun A Q E s k q => wpAny_typeOf_ref (k _ _ he3) (by rw [hz3.1]; exact q)
    have test : ∀ {x : Str} {np : Pos} {c : Value} {Q : Value → Shared → Prop} {E : Value → Shared → Prop}, Names X x c → Q c { s' with heap := h3 } → wpAny (model X.prog X.w) (X.A.mark (some (.ref a))) (eval (.Name x np) X.env) Q E { s' with heap := h3 } := fun {x np c Q E} hc q => by
      obtain ⟨hg, hdbg, hm | ⟨hm, hv, hnn⟩⟩ := hc
      · exact ld_glob (X := X.suite a ((a, oe3) :: (X.pn ++ pins))) S3 hg hm q hdbg
      · exact ld_blt (X := X.suite a ((a, oe3) :: (X.pn ++ pins))) S3 hg hm hv q hnn hdbg
    have go : ∀ {hds' : List ExceptHandler} {l' : List (Value × Option Nat × (Addr → Value → Option Addr → TS))}, HdsMix X hds' l' → wMix X.K Wout D l' cls d σ' H' →
        wpAny (model X.prog X.w) X.A (handleBy (.ref a) X.env hds') (SP X pins D) X.xe { s' with heap := h3 } := by
      intro hds' l' hk
      induction hk with
      | nil =>
        intro w
        refine wpAny_handleBy_nil ?_
        obtain ⟨k1, k2, k3, oe, vs, T, oT, ts', he, hz, hd, h1, hr⟩ := id fl3
        unfold PySem.passOn
        refine wpAny_bind (wpAny_field he hd h1 ?_)
        rw [if_neg (show ¬ ((Value.ref T == Value.none) = true) from by simp)]
        have fin : wpAny (model X.prog X.w) X.A (setFlight (.ref a) X.env.frame) (fun _ s4 => wpAny (model X.prog X.w) X.A (throw (.ref a) : Sem Flow) (SP X pins D) X.xe s4) X.xe { s' with heap := h3 } := by
          rw [hf]
          refine HandSPX.setFlight_upZ fl3 fun h4 hh4 up4 => wpAny_throw (tk _ _ ?_)
          exact ⟨a, B, sI, pins, σ', H', cls, d, rfl, J, nb, (up.trans up3).trans up4, .inr (.inr (by rw [hs]; exact hh4)), na, os, ag, w⟩
        first
          | exact wpAny_bind (wpAny_pure (wpAny_bind fin))
          | exact wpAny_bind fin
      | @one x c ts b₀ suite np pos' hds2 l2 hc hsu r ih =>
        intro w
        obtain ⟨b, hb1, hyes, hno⟩ := w
        refine wpAny_handleBy_cons (codeAny_handlers_test ?_) (by intro q; cases q)
        have LM := PySem.W.exm_one (M := model X.prog X.w) (J3.kIn) LT hb1
        refine test hc (LM.here ?_)
        cases b with
        | true =>
          refine codeAny_handlers_suite ?_
          refine HandSPX.lands_againZ fl3 fun h4 fl4 up4 => ?_
          have J4 : Inv X pins σ' H' { s' with heap := h4 } := J.landed nb fl4.1 ((up.trans up3).trans up4) os ag
          obtain ⟨oe4, vs4, he4, hz4, hd4⟩ := fl4.there
          have S4 := J4.suite he4 hd4 na nL nF
          refine wpAny_mono ((hsu a oe4 cls d (X.pn ++ pins) hz4 ⟨_, hd4⟩).run [] _ _ H' _ S4 (hyes rfl a na)) (fun f s6 hsp => ?_) (fun _ _ z => False.elim z)
          cases f with
          | next =>
            obtain ⟨σ6, H6, S6, q6⟩ := hsp
            exact ⟨_, _, S6.unsuite ok, q6⟩
          | brk =>
            obtain ⟨σ6, H6, S6, q6⟩ := hsp
            exact ⟨_, _, S6.unsuite ok, q6⟩
          | cont =>
            obtain ⟨σ6, H6, S6, q6⟩ := hsp
            exact ⟨_, _, S6.unsuite ok, q6⟩
          | ret u =>
            obtain ⟨v6, σ6, H6, S6, r6, q6⟩ := hsp
            exact ⟨_, _, _, S6.unsuite ok, r6, q6⟩
        | false =>
          show wpAny _ X.A (handleBy (.ref a) X.env hds2) _ _ _
          exact ih (hno rfl)
      | @as x n i c ts b₀ suite np pos' hds2 l2 hc hi hln hsu r ih =>
        intro w
        obtain ⟨b, hb1, hyes, hno⟩ := w
        refine wpAny_handleBy_cons (codeAny_handlers_test ?_) (by intro q; cases q)
        have LM := PySem.W.exm_one (M := model X.prog X.w) (J3.kIn) LT hb1
        refine test hc (LM.here ?_)
        cases b with
        | true =>
          refine codeAny_handlers_suite_as ?_
          refine HandSPX.lands_againZ fl3 fun h4 fl4 up4 => ?_
          have J4 : Inv X pins σ' H' { s' with heap := h4 } := J.landed nb fl4.1 ((up.trans up3).trans up4) os ag
          obtain ⟨oe4, vs4, he4, hz4, hd4⟩ := fl4.there
          have S4 := J4.suite he4 hd4 na nL nF
          have hloc : Loc X.env.scope n := .inl hln
          refine store_ok (X := X.suite a ((a, oe4) :: (X.pn ++ pins))) (v := .ref a) S4 hN hi hloc rfl (fun s5 S5 => ?_) (.inr hln)
          refine wpAny_mono ((hsu a oe4 cls d (X.pn ++ pins) hz4 ⟨_, hd4⟩).run [] s5 _ H' _ S5 (hyes rfl a na)) (fun f s6 hsp => ?_) (fun _ _ z => False.elim z)
          have end_ : ∀ {σ6 : L2.St} {H6 : Hp} {Q : Shared → Prop}, Inv (X.suite a ((a, oe4) :: (X.pn ++ pins))) [] σ6 H6 s6 → (∀ s7, Inv X pins (σ6.set i none) H6 s7 → Q s7) →
              wpAny (model X.prog X.w) X.A (do bindName X.env n .none; unbindBehindTheSuite X.env n pos') (fun _ s7 => Q s7) X.xe s6 := fun {σ6 H6 Q} S6 hq => gone_ok (S6.unsuite ok) hN hi hln hq
          cases f with
          | next =>
            obtain ⟨σ6, H6, S6, q6⟩ := hsp
            exact end_ S6 fun s7 J7 => ⟨_, _, J7, q6⟩
          | brk =>
            obtain ⟨σ6, H6, S6, q6⟩ := hsp
            exact end_ S6 fun s7 J7 => ⟨_, _, J7, q6⟩
          | cont =>
            obtain ⟨σ6, H6, S6, q6⟩ := hsp
            exact end_ S6 fun s7 J7 => ⟨_, _, J7, q6⟩
          | ret u =>
            obtain ⟨v6, σ6, H6, S6, r6, q6⟩ := hsp
            exact end_ S6 fun s7 J7 => ⟨_, _, _, J7, r6, q6⟩
        | false =>
          show wpAny _ X.A (handleBy (.ref a) X.env hds2) _ _ _
          exact ih (hno rfl)
    exact go hh w
  · cases f with
    | next =>
      obtain ⟨σ', H', J', q⟩ := hsp
      exact wpAny_execs_nil ⟨σ', H', J'.ofTry ok, q⟩
    | brk =>
      obtain ⟨σ', H', J', q⟩ := hsp
      exact ⟨σ', H', J'.ofTry ok, q⟩
    | cont =>
      obtain ⟨σ', H', J', q⟩ := hsp
      exact ⟨σ', H', J'.ofTry ok, q⟩
    | ret u =>
      obtain ⟨v, σ', H', J', r, q⟩ := hsp
      exact ⟨v, σ', H', J'.ofTry ok, r, q⟩
end
theorem Reps.rev {K : PySem.W.Frag} {ρ : List Addr} {L : Addr → Prop} {H : Hp} : ∀ {ds : List D} {vs : List V}, Reps K ρ L H ds vs → Reps K ρ L H ds.reverse vs.reverse
  | [], vs, h => by rw [Reps] at h; subst h; simp [Reps]
  | d :: ds, vs, h => by
    rw [Reps] at h
    obtain ⟨v, ws, rfl, h1, h2⟩ := h
    rw [List.reverse_cons, List.reverse_cons]
    exact (Reps.rev h2).append (by rw [Reps]; exact ⟨v, [], rfl, h1, by simp [Reps]⟩)
section
variable {Z : Cx} {ca : Nat → Addr} {T : List (Addr × Str)} {W : WX} {ms : Sl → Hd → Option Out} {pos p2 p3 : Pos} {x x2 n : Str}
/-- xs[::-1] -/
theorem s_rev {a : Expr} {ma : Sl → M D} {j : Nat} {p4 p5 p6 : Pos} (ha : pX Z ca T W a ma) : pX Z ca T W (.Subscript a (.Slice none none (some (.UnaryOp .USub (.Constant (.int 1) j p4) p5)) p6) pos) (fun σ => bnd (ma σ) fun x => fun h => match see h x with
    | .lst xs => some (.ok (.lst xs.reverse), h)
    | _ => none) := by
  refine PE.imp (pe_revL ha) fun σ H Q h => ?_
  obtain ⟨L0, ρ, σd, hd, rh, rs, fn⟩ := h
  refine ⟨L0, ρ, σd, hd, rh, rs, Fin.imp (Fin.bnd fn) fun ρ1 hd1 H1 x p1 f1 v rv => ?_⟩
  cases hs : see hd1 x with
  | lst xs =>
    simp only [hs] at f1
    obtain ⟨p, ws, rfl, h1, h3⟩ := see_lst p1.rel rv hs
    refine ⟨p, ws, rfl, SqL.of h1, fun q hq => ?_⟩
    have g : Gives Z.K ca T L0 ρ1 hd1 H1 (.lst xs.reverse) Q := fun ρ' H' v' pp hh => f1 ρ' H' pp v' hh
    exact g.lst p1.rel (Reps.rev h3) hq
  | _ => simp only [hs] at f1; exact False.elim f1
/-- except X: return a module's constant -/
theorem s_try_g {cn : Nat} {u : Value} {v : V} {dv : D} {ev : Nat → Value} {sub : Nat → Nat → Option Bool} {xf : Nat → List Nm} {p5 p7 : Pos} {body : List Stmt} {y : Str} (E : ExcOk Z.K ca ev sub xf)
    (hs : Z.stack = Z.env :: Z.outer) (hf : Z.env.frame = some Z.env.locals) (hN : Z.N.Nodup) (hc : Names Z x (ev cn)) (tk : Takes Z W)
    (hb : ∀ (W : WX) (pn : List (Addr × Obj)) (xe : Value → Shared → Prop), Takes (Z.tr pn xe) W → PassesOwn (model Z.prog Z.w) Z.A Z.env xe → PSs (Z.tr pn xe) body (rdSt Z.K ca T W ms))
    (hgy : Gl Z y) (hmy : Z.mg y = some u) (hrel : RelV v u) (hdy : (y == ("__debug__" : Str)) = false) (hrv : ∀ ρ L H, Rep Z.K ρ L H dv v) :
    pS Z ca T W (.Try body [.ExceptHandler (some (.Name x p2)) none [.Return (some (.Name y p5)) p7] p3] [] [] pos) (fun σ h => match ms σ h with
      | some (.ex e pl σ1 h1) => match sub e cn with
        | some true => some (.rt dv h1)
        | some false => some (.ex e pl σ1 h1)
        | none => none
      | o => o) := by
  refine PS.imp (ps_try_mix (tb := fun W => rdSt Z.K ca T W ms) (l := [(ev cn, none, fun a cls d => tRet (tC v))]) (Wout := W) hs hf hN tk hb (.one hc (fun a oe cls d pn hz hfl => ?_) .nil)) fun Dn σ H h => ?_
  · have hg' : Gl (Z.suite a ((a, oe) :: pn)) y := hgy
    have hm' : (Z.suite a ((a, oe) :: pn)).mg y = some u := hmy
    exact pss_one (ps_ret (pe_glob hg' hm' hrel hdy))
  · obtain ⟨L0, ρ, σd, hd, r, rs, fn⟩ := h
    refine ⟨L0, ρ, σd, hd, r, rs, ?_⟩
    unfold FinO at fn ⊢
    cases e : ms σd hd with
    | none => simp only [e] at fn
    | some o =>
      cases o with
      | nx σ1 h1 => simp only [e] at fn; exact fn
      | rt d h1 => simp only [e] at fn; exact fn
      | bk σ1 h1 => simp only [e] at fn; exact fn
      | ct σ1 h1 => simp only [e] at fn; exact fn
      | ex ec pl σ1 h1 =>
        simp only [e] at fn
        intro ρ' H' σ' d p rs' ee
        cases hsub : sub ec cn with
        | none => simp only [hsub] at fn
        | some k =>
          refine ⟨k, E.exm ec cn k hsub, fun hk => ?_, fun hk => ?_⟩
          · subst hk
            simp only [hsub] at fn
            intro a ha
            exact fn ρ' H' v p (hrv _ _ _)
          · subst hk
            simp only [hsub] at fn
            exact fn ρ' H' σ' d p rs' ee
/-- except X: return a module's constant / except Y as n: return n.f -/
theorem s_try_2 {i cn cn2 : Nat} {f : Nm} {u : Value} {v : V} {dv : D} {ev : Nat → Value} {sub : Nat → Nat → Option Bool} {xf : Nat → List Nm} {p4 p5 p6 p7 p8 p9 p10 : Pos} {body : List Stmt} {y : Str} (E : ExcOk Z.K ca ev sub xf)
    (hfx : ∀ e pl v, lkF f pl = some v → sub e cn2 = some true → (xf e).contains f = true)
    (hs : Z.stack = Z.env :: Z.outer) (hf : Z.env.frame = some Z.env.locals) (hN : Z.N.Nodup) (hi : Z.N[i]? = some n) (hln : Z.env.kindOf n = some .local) (hv : Vis Z.env.scope n) (hnd : (n == ("__debug__" : Str)) = false) (hncd : (n == ("__classdict__" : Str)) = false) (hc : Names Z x (ev cn)) (hc2 : Names Z x2 (ev cn2)) (tk : Takes Z W)
    (hb : ∀ (W : WX) (pn : List (Addr × Obj)) (xe : Value → Shared → Prop), Takes (Z.tr pn xe) W → PassesOwn (model Z.prog Z.w) Z.A Z.env xe → PSs (Z.tr pn xe) body (rdSt Z.K ca T W ms))
    (hgy : Gl Z y) (hmy : Z.mg y = some u) (hrel : RelV v u) (hdy : (y == ("__debug__" : Str)) = false) (hrv : ∀ ρ L H, Rep Z.K ρ L H dv v)
    (hat : ∀ (X : Cx), X.env = Z.env → attributeBase (.Name n p8) (St f) X.env (eval (.Name n p8) X.env) = eval (.Name n p8) X.env) :
    pS Z ca T W (.Try body [.ExceptHandler (some (.Name x p2)) none [.Return (some (.Name y p5)) p6] p3, .ExceptHandler (some (.Name x2 p4)) (some n) [.Return (some (.Attribute (.Name n p8) (St f) p9)) p10] p7] [] [] pos) (fun σ h => match ms σ h with
      | some (.ex e pl σ1 h1) => match sub e cn with
        | some true => some (.rt dv h1)
        | some false => (match sub e cn2 with
          | some true => (match lkF f pl with
            | some v => if i < σ1.length then some (.rt v h1) else none
            | none => none)
          | some false => some (.ex e pl σ1 h1)
          | none => none)
        | none => none
      | o => o) := by
  refine PS.imp (ps_try_mix (tb := fun W => rdSt Z.K ca T W ms) (l := [(ev cn, none, fun a cls d => tRet (tC v)), (ev cn2, some i, fun a cls d => fun Dn σ H => ∃ C, cls = .ref C ∧ XfC Z.K C ∧ PySem.W.findIn Z.K (.ref C) (St f) = some none ∧ tRet (tXf a cls d C (St f) (tVar i)) Dn σ H)]) (Wout := W) hs hf hN tk hb (.one hc (fun a oe cls d pn hz hfl => ?_) (.as hc2 hi hln (fun a oe cls d pn hz hfl => ?_) .nil))) fun Dn σ H h => ?_
  · have hg' : Gl (Z.suite a ((a, oe) :: pn)) y := hgy
    have hm' : (Z.suite a ((a, oe) :: pn)).mg y = some u := hmy
    exact pss_one (ps_ret (pe_glob hg' hm' hrel hdy))
  · refine ⟨fun pins s σ H Dn I ⟨C, ec, hx, hno, q⟩ => ?_⟩
    have hN' : (Z.suite a ((a, oe) :: pn)).N[i]? = some n := hi
    have hv' : Vis (Z.suite a ((a, oe) :: pn)).env.scope n := hv
    exact (pss_one (ps_ret (pe_xf hx hno hz hfl (pe_var hN' hv' hnd hncd) (hat _ rfl)))).run pins s σ H Dn I q
  · obtain ⟨L0, ρ, σd, hd, r, rs, fn⟩ := h
    refine ⟨L0, ρ, σd, hd, r, rs, ?_⟩
    unfold FinO at fn ⊢
    cases e : ms σd hd with
    | none => simp only [e] at fn
    | some o =>
      cases o with
      | nx σ1 h1 => simp only [e] at fn; exact fn
      | rt d h1 => simp only [e] at fn; exact fn
      | bk σ1 h1 => simp only [e] at fn; exact fn
      | ct σ1 h1 => simp only [e] at fn; exact fn
      | ex ec pl σ1 h1 =>
        simp only [e] at fn
        intro ρ' H' σ' d p rs' ee
        cases hsub : sub ec cn with
        | none => simp only [hsub] at fn
        | some k =>
          refine ⟨k, E.exm ec cn k hsub, fun hk => ?_, fun hk => ?_⟩
          · subst hk
            simp only [hsub] at fn
            intro a ha
            exact fn ρ' H' v p (hrv _ _ _)
          · subst hk
            simp only [hsub] at fn
            cases hsub2 : sub ec cn2 with
            | none => simp only [hsub2] at fn
            | some k =>
              refine ⟨k, E.exm ec cn2 k hsub2, fun hk => ?_, fun hk => ?_⟩
              · subst hk
                simp only [hsub2] at fn
                cases hl : lkF f pl with
                | none => simp only [hl] at fn
                | some v =>
                  simp only [hl] at fn
                  by_cases hlt : i < σ1.length
                  · rw [if_pos hlt] at fn
                    intro a ha
                    obtain ⟨h1', h2'⟩ := E.fld ec f (hfx ec pl v hl hsub2)
                    rcases ee with ⟨epl, _⟩ | ⟨dd, vfs, ed, e2, e3, _⟩
                    · subst epl; cases hl
                    · obtain ⟨w, e4, e5⟩ := (RepF.lookup e3).1 v hl
                      refine ⟨_, rfl, h1', h2', V.ref a, ?_, rfl, rfl, dd, vfs, w, ed, e2, e4, ?_⟩
                      · exact List.getElem?_set_self (by rw [← rs'.1]; exact hlt)
                      · exact fn ρ' H' w p e5
                  · rw [if_neg hlt] at fn; exact False.elim fn
              · subst hk
                simp only [hsub2] at fn
                exact fn ρ' H' σ' d p rs' ee
end
end Ev

set_option Elab.async false
set_option linter.all false
set_option maxRecDepth 100000
set_option maxHeartbeats 4000000
/-! Ev5a: looking at the text: what it is made of. -/
namespace Ev
open PySem L2 PyProof.Rows
/-! ### taking apart -/
def asName : Expr → Option (Str × Pos)
  | .Name x p => some (x, p)
  | _ => none
theorem asName_ok {e : Expr} {x : Str} {p : Pos} (h : asName e = some (x, p)) : e = .Name x p := by cases e <;> simp [asName] at h; obtain ⟨rfl, rfl⟩ := h; rfl
def asConst : Expr → Option (Const × Nat × Pos)
  | .Constant c k p => some (c, k, p)
  | _ => none
theorem asConst_ok {e : Expr} {c : Const} {k : Nat} {p : Pos} (h : asConst e = some (c, k, p)) : e = .Constant c k p := by cases e <;> simp [asConst] at h; obtain ⟨rfl, rfl, rfl⟩ := h; rfl
def asBin : Expr → Option (Expr × Operator × Expr × Pos)
  | .BinOp a o b p => some (a, o, b, p)
  | _ => none
theorem asBin_ok {e a b : Expr} {o : Operator} {p : Pos} (h : asBin e = some (a, o, b, p)) : e = .BinOp a o b p := by cases e <;> simp [asBin] at h; obtain ⟨rfl, rfl, rfl, rfl⟩ := h; rfl
def asNeg : Expr → Option (Expr × Pos)
  | .UnaryOp .USub a p => some (a, p)
  | _ => none
theorem asNeg_ok {e a : Expr} {p : Pos} (h : asNeg e = some (a, p)) : e = .UnaryOp .USub a p := by
  unfold asNeg at h; split at h
  · cases h; rfl
  · cases h
def asNot : Expr → Option (Expr × Pos)
  | .UnaryOp .Not a p => some (a, p)
  | _ => none
theorem asNot_ok {e a : Expr} {p : Pos} (h : asNot e = some (a, p)) : e = .UnaryOp .Not a p := by
  unfold asNot at h; split at h
  · cases h; rfl
  · cases h
def asCmp1 : Expr → Option (Expr × CmpOp × Expr × Pos)
  | .Compare a [o] [b] p => some (a, o, b, p)
  | _ => none
theorem asCmp1_ok {e a b : Expr} {o : CmpOp} {p : Pos} (h : asCmp1 e = some (a, o, b, p)) : e = .Compare a [o] [b] p := by
  unfold asCmp1 at h; split at h
  · cases h; rfl
  · cases h
def asCmp2 : Expr → Option (Expr × CmpOp × CmpOp × Expr × Expr × Pos)
  | .Compare a [o, q] [b, c] p => some (a, o, q, b, c, p)
  | _ => none
theorem asCmp2_ok {e a b c : Expr} {o q : CmpOp} {p : Pos} (h : asCmp2 e = some (a, o, q, b, c, p)) : e = .Compare a [o, q] [b, c] p := by
  unfold asCmp2 at h; split at h
  · cases h; rfl
  · cases h
def asAnd : Expr → Option (List Expr × Pos)
  | .BoolOp .And es p => some (es, p)
  | _ => none
theorem asAnd_ok {e : Expr} {es : List Expr} {p : Pos} (h : asAnd e = some (es, p)) : e = .BoolOp .And es p := by
  unfold asAnd at h; split at h
  · cases h; rfl
  · cases h
def asOr : Expr → Option (List Expr × Pos)
  | .BoolOp .Or es p => some (es, p)
  | _ => none
theorem asOr_ok {e : Expr} {es : List Expr} {p : Pos} (h : asOr e = some (es, p)) : e = .BoolOp .Or es p := by
  unfold asOr at h; split at h
  · cases h; rfl
  · cases h
def asIf : Expr → Option (Expr × Expr × Expr × Pos)
  | .IfExp c a b p => some (c, a, b, p)
  | _ => none
theorem asIf_ok {e a b c : Expr} {p : Pos} (h : asIf e = some (c, a, b, p)) : e = .IfExp c a b p := by cases e <;> simp [asIf] at h; obtain ⟨rfl, rfl, rfl, rfl⟩ := h; rfl
def asTup : Expr → Option (List Expr × Nat × Pos)
  | .Tuple es k p => some (es, k, p)
  | _ => none
theorem asTup_ok {e : Expr} {es : List Expr} {k : Nat} {p : Pos} (h : asTup e = some (es, k, p)) : e = .Tuple es k p := by cases e <;> simp [asTup] at h; obtain ⟨rfl, rfl, rfl⟩ := h; rfl
def asLst : Expr → Option (List Expr × Pos)
  | .List es p => some (es, p)
  | _ => none
theorem asLst_ok {e : Expr} {es : List Expr} {p : Pos} (h : asLst e = some (es, p)) : e = .List es p := by cases e <;> simp [asLst] at h; obtain ⟨rfl, rfl⟩ := h; rfl
def asSub : Expr → Option (Expr × Expr × Pos)
  | .Subscript a b p => some (a, b, p)
  | _ => none
theorem asSub_ok {e a b : Expr} {p : Pos} (h : asSub e = some (a, b, p)) : e = .Subscript a b p := by cases e <;> simp [asSub] at h; obtain ⟨rfl, rfl, rfl⟩ := h; rfl
def asSlc : Expr → Option (Option Expr × Option Expr × Pos)
  | .Slice l u none p => some (l, u, p)
  | _ => none
theorem asSlc_ok {e : Expr} {l u : Option Expr} {p : Pos} (h : asSlc e = some (l, u, p)) : e = .Slice l u none p := by
  unfold asSlc at h; split at h
  · cases h; rfl
  · cases h
/-- a[::-1] -/
def asRev : Expr → Option (Expr × Nat × Pos × Pos × Pos × Pos)
  | .Subscript a (.Slice none none (some (.UnaryOp .USub (.Constant (.int 1) j p4) p5)) p6) pos => some (a, j, p4, p5, p6, pos)
  | _ => none
theorem asRev_ok {e a : Expr} {j : Nat} {p4 p5 p6 pos : Pos} (h : asRev e = some (a, j, p4, p5, p6, pos)) : e = .Subscript a (.Slice none none (some (.UnaryOp .USub (.Constant (.int 1) j p4) p5)) p6) pos := by
  unfold asRev at h; split at h
  · cases h; rfl
  · cases h
def asCall : Expr → Option (Expr × List Expr × List Keyword × Pos)
  | .Call f a k p => some (f, a, k, p)
  | _ => none
theorem asCall_ok {e f : Expr} {a : List Expr} {k : List Keyword} {p : Pos} (h : asCall e = some (f, a, k, p)) : e = .Call f a k p := by cases e <;> simp [asCall] at h; obtain ⟨rfl, rfl, rfl, rfl⟩ := h; rfl
/-- f(a, ..), f a name -/
def asCalN (e : Expr) : Option (Str × Pos × List Expr × Pos) := match asCall e with
  | some (f, a, [], p) => (match asName f with
    | some (x, q) => some (x, q, a, p)
    | none => none)
  | _ => none
theorem asCalN_ok {e : Expr} {x : Str} {q p : Pos} {a : List Expr} (h : asCalN e = some (x, q, a, p)) : e = .Call (.Name x q) a [] p := by
  unfold asCalN at h
  split at h
  · rename_i f a' p' h1
    split at h
    · rename_i x' q' h2
      cases h
      rw [asCall_ok h1, asName_ok h2]
    · cases h
  · cases h
def asAttr : Expr → Option (Expr × Str × Pos)
  | .Attribute o n p => some (o, n, p)
  | _ => none
theorem asAttr_ok {e o : Expr} {n : Str} {p : Pos} (h : asAttr e = some (o, n, p)) : e = .Attribute o n p := by cases e <;> simp [asAttr] at h; obtain ⟨rfl, rfl, rfl⟩ := h; rfl
/-- o.m(a, .., k = v) -/
def asMeth (e : Expr) : Option (Expr × Str × Pos × List Expr × List Keyword × Pos) := match asCall e with
  | some (f, a, k, p) => (match asAttr f with
    | some (o, n, q) => some (o, n, q, a, k, p)
    | none => none)
  | _ => none
theorem asMeth_ok {e o : Expr} {n : Str} {q p : Pos} {a : List Expr} {k : List Keyword} (h : asMeth e = some (o, n, q, a, k, p)) : e = .Call (.Attribute o n q) a k p := by
  unfold asMeth at h
  split at h
  · rename_i f a' k' p' h1
    split at h
    · rename_i x' n' q' h2
      cases h
      rw [asCall_ok h1, asAttr_ok h2]
    · cases h
  · cases h
def asLc : Expr → Option (Expr × Expr × Expr × List Expr × Scope × Pos)
  | .ListComp elt [⟨tg, it, ifs, 0⟩] sc p => some (elt, tg, it, ifs, sc, p)
  | _ => none
theorem asLc_ok {e elt tg it : Expr} {ifs : List Expr} {sc : Scope} {p : Pos} (h : asLc e = some (elt, tg, it, ifs, sc, p)) : e = .ListComp elt [⟨tg, it, ifs, 0⟩] sc p := by
  unfold asLc at h; split at h
  · cases h; rfl
  · cases h
def asLc2 : Expr → Option (Expr × Expr × Expr × List Expr × Expr × Expr × List Expr × Scope × Pos)
  | .ListComp elt [⟨tg, it, ifs, 0⟩, ⟨tg1, it1, ifs1, 0⟩] sc p => some (elt, tg, it, ifs, tg1, it1, ifs1, sc, p)
  | _ => none
theorem asLc2_ok {e elt tg it tg1 it1 : Expr} {ifs ifs1 : List Expr} {sc : Scope} {p : Pos} (h : asLc2 e = some (elt, tg, it, ifs, tg1, it1, ifs1, sc, p)) : e = .ListComp elt [⟨tg, it, ifs, 0⟩, ⟨tg1, it1, ifs1, 0⟩] sc p := by
  unfold asLc2 at h; split at h
  · cases h; rfl
  · cases h
def asLam : Expr → Option (Arguments × Expr × Scope × Pos)
  | .Lambda a b s p => some (a, b, s, p)
  | _ => none
theorem asLam_ok {e b : Expr} {a : Arguments} {s : Scope} {p : Pos} (h : asLam e = some (a, b, s, p)) : e = .Lambda a b s p := by cases e <;> simp [asLam] at h; obtain ⟨rfl, rfl, rfl, rfl⟩ := h; rfl
/-! ### forms that ask a word of their own -/
def isStar : Expr → Bool
  | .Starred _ _ => true
  | _ => false
theorem star_no {a : Expr} {es : List Expr} {env : Env} (h : isStar a = false) : starEach (a :: es) env = (false, eval a env) :: starEach es env := by
  cases a <;> first | rfl | (simp [isStar] at h)
def asStar : Expr → Option (Expr × Pos)
  | .Starred a p => some (a, p)
  | _ => none
theorem asStar_ok {e a : Expr} {p : Pos} (h : asStar e = some (a, p)) : e = .Starred a p := by cases e <;> simp [asStar] at h; obtain ⟨rfl, rfl⟩ := h; rfl
theorem star_yes {a : Expr} {p : Pos} {es : List Expr} {env : Env} : starEach (.Starred a p :: es) env = (true, eval a env) :: starEach es env := by rfl
def noStars : List Expr → Bool
  | [] => true
  | e :: es => !isStar e && noStars es
theorem stars_none {pos : Pos} {env : Env} : ∀ {es : List Expr}, noStars es = true → (backTo pos (starEach es env)).any (·.1) = false
  | [], _ => rfl
  | e :: es, h => by
    simp only [noStars, Bool.and_eq_true, Bool.not_eq_true'] at h
    rw [star_no h.1]
    show (false || (backTo pos (starEach es env)).any (·.1)) = false
    rw [stars_none h.2]; rfl
theorem stars_all {pos : Pos} {env : Env} : ∀ {es : List Expr}, noStars es = true → (backTo pos (starEach es env)).all (fun x => !x.1) = true
  | [], _ => rfl
  | e :: es, h => by
    simp only [noStars, Bool.and_eq_true, Bool.not_eq_true'] at h
    rw [star_no h.1]
    show (true && (backTo pos (starEach es env)).all (fun x => !x.1)) = true
    rw [stars_all h.2]; rfl
/-- what stands as a plain index -/
def plainB : Expr → Bool
  | .Slice _ _ _ _ => false
  | _ => true
theorem plain_ok {b : Expr} (h : plainB b = true) : PlainIx b := by
  intro o i
  cases b <;> first | rfl | (simp [plainB] at h)
def okBase : Expr → Bool
  | .Call _ [] [] _ => false
  | _ => true
theorem base_ok {o : Expr} {n : Str} {env : Env} {whole : Sem Value} (h : okBase o = true) : attributeBase o n env whole = whole := by
  cases o with
  | Call f a k p =>
    cases a with
    | nil =>
      cases k with
      | nil => simp [okBase] at h
      | cons _ _ => cases f <;> rfl
    | cons _ _ => cases f <;> rfl
  | _ => rfl
/-- forms that a test looks into -/
def boolish : Expr → Bool
  | .UnaryOp .Not _ _ | .BoolOp _ _ _ | .IfExp _ _ _ _ => true
  | _ => false
def isCmp : Expr → Bool
  | .Compare _ _ _ _ => true
  | _ => false
theorem tests_plain {e : Expr} {env : Env} (h : boolish e = false) (h2 : isCmp e = false) : ∀ whole, isTrue e env whole = (do let v ← whole; standAt e.pos; holding [v] (truthy v)) := by
  intro whole
  cases e <;> first | rfl | (simp [boolish] at h; done) | (simp [isCmp] at h2; done) | skip
  rename_i op a p
  cases op <;> first | rfl | (simp [boolish] at h)
def notSet : Expr → Bool
  | .Set _ _ _ => false
  | _ => true
theorem folded_ok {e : Expr} {env : Env} (h : notSet e = true) : ∀ x, foldedSetIterable e env x = pure x := by
  intro x
  cases e <;> first | rfl | (simp [notSet] at h)
def notComp : Expr → Bool
  | .ListComp _ _ _ _ | .SetComp _ _ _ _ | .DictComp _ _ _ _ _ => false
  | _ => true
theorem swaps_no {e : Expr} {t : Option Expr} {l : Nat} {env : Env} (h : notComp e = true) : swapsWith e t l env = pure false := by
  cases e <;> first | rfl | (simp [notComp] at h)
theorem swapsSole_no {e t : Expr} {l : Nat} {env : Env} (h : notComp e = true) : swapsWithSole [t] e l env = pure false := swaps_no h
/-- the call of a method, as the walk wants it -/
theorem meth_eq {o : Expr} {m : Str} {apos pos : Pos} {es : List Expr} {kws : List Keyword} {env : Env} (hb : okBase o = true) (hl : (apos.endLine == pos.line) = true) (hf : methodCallForm (es.length + kws.length) (backTo pos (starEach es env)) (backToKw pos (keywordEach kws env)) = true) :
    eval (.Call (.Attribute o m apos) es kws pos) env = (do
      let ov ← eval o env
      standAt apos.atName
      let (f, first) ← holding [ov] (getMethod ov m (do return (← importBound o env).getD true))
      callWith pos f first (backTo pos (starEach es env)) (backToKw pos (keywordEach kws env))) := by
  have e1 : eval (.Call (.Attribute o m apos) es kws pos) env = (do
      let ov ← attributeBase o m env (eval o env)
      standAt apos.atName
      methodCall o m apos pos env ov (es.length + kws.length) (backTo pos (starEach es env)) (backToKw pos (keywordEach kws env))) := by rw [eval]
  rw [e1, base_ok hb]
  unfold methodCall methodCallPos calleeOf
  rw [hf]
  simp [hl]
end Ev

set_option Elab.async false
set_option linter.all false
set_option maxRecDepth 100000
set_option maxHeartbeats 4000000
/-! Ev5b: what is known around a def; the check of an expression against the evaluator's words. -/
namespace Ev
open PySem L2 PyProof.Rows
/-- what a global name stands for -/
inductive GV where
  | fn (f : Nat) | cls (c f : Nat) | exc (c : Nat) | cst (k : Nat) | dct (k : Nat) | told (f : Nat)
  deriving DecidableEq
structure FI where
  ps : List Str
  gz : Bool
/-- what is known of the text -/
structure Ti where
  G : List (Str × GV)
  bl : List Str
  fs : List FI
  ms : List (Nat × Nm × Nat)
  kw : List (Nat × Nat × List Str × List Nat)
  km : List (Nat × List Str × List Nat)
  ci : List Nat
  hn : List (Str × Nat)
  tf : List (Nat × Nm)
  eqc : List (Nat × Nat) := []
  rti : List (Nat × Bool) := []
/-- what is known where an expression stands -/
structure Ck where
  ti : Ti
  N : List Str
  sc : Scope
  os : Scope
  gk : Bool
  lam : Bool
def lev (n : Nat) : Nat := 5 * n + 1
abbrev cfgOf (B : Tab) (n : Nat) : Cfg := ⟨callN B n, fun k => B.glb[k]?, B.sub, B.flds, B.exf, B.told, B.dct, B.wl⟩
/-- the facts -/
structure Fac (P : Program) (w : World) (K : PySem.W.Frag) (mg : Str → Option Value) (base : Heap) (ca : Nat → Addr) (ev : Nat → Value) (fad : Nat → Addr) (ffd : Nat → FuncData) (ti : Ti) (B : Tab) : Prop where
  fn : ∀ x f, ti.G.lookup x = some (.fn f) → ∃ fi, ti.fs[f]? = some fi ∧ mg x = some (.ref (fad f)) ∧ PySem.W.keepIn K (.ref (fad f)) = true
  bi : ∀ (f : Nat) (fi : FI), ti.fs[f]? = some fi → Binds K (ffd f) fi.ps []
  np : ∀ (f : Nat) (fi : FI) (F : Fe), ti.fs[f]? = some fi → B.fns[f]? = some F → F.np = fi.ps.length
  cls : ∀ x c f, ti.G.lookup x = some (.cls c f) → mg x = some (.ref (ca c)) ∧ PySem.W.keepIn K (.ref (ca c)) = true ∧ ∃ fi, ti.fs[f]? = some fi ∧ fi.gz = false ∧ Mk K (ca c) (fad f)
  cst : ∀ x k, ti.G.lookup x = some (.cst k) → ∃ u v d, mg x = some u ∧ RelV v u ∧ B.glb[k]? = some d ∧ ∀ ρ L H, Rep K ρ L H d v
  dct : ∀ x k, ti.G.lookup x = some (.dct k) → ∃ d, mg x = some (.ref d) ∧ DctOk K w d (B.dct k)
  bl : ∀ x, x ∈ ti.bl → mg x = none
  ms : ∀ c m f, (c, m, f) ∈ ti.ms → Cls K (ca c) ∧ ∃ fi, ti.fs[f]? = some fi ∧ Meth K (ca c) (St m) (fad f)
  kw : ∀ f p ks pm, (f, p, ks, pm) ∈ ti.kw → ∃ fi, ti.fs[f]? = some fi ∧ KwOk K (ffd f) fi.ps p ks pm
  km : ∀ f ks pm, (f, ks, pm) ∈ ti.km → ∃ fi, ti.fs[f]? = some fi ∧ ∀ (s : Shared) (y : Value) (ws us' : List Value), K.In s.heap → ws.length = ks.length → permD pm ws = some us' → BindsTo s (ffd f) ⟨[y], ks.zip ws⟩ (fi.ps.zip (y :: us'))
  flds : ClsOk K ca B.flds
  isc : ∀ c, c ∈ ti.ci → ClsIs K (ca c)
  exc : ∀ x c, ti.G.lookup x = some (.exc c) → mg x = some (.ref (ca c)) ∧ PySem.W.keepIn K (.ref (ca c)) = true ∧
    ((∃ f, B.exf c = [f] ∧ OexC K (ca c) ∧ ∃ fI fd ps, PySem.W.findIn K (.ref (ca c)) "__init__" = some (some (.ref fI)) ∧ PySem.W.typeIn K (.ref fI) = some (.type "function") ∧ FnOk P w K mg base (L2.CX P w) 1 fI fd ps (spX (ca c) (St f)) ∧ Binds K fd ps []) ∨
     (B.exf c = [] ∧ (∃ (bmB : List Value) (Bn newId initId : String), ExcBaseFacts Bn newId initId bmB ∧ PySem.W.excIn K (ca c) bmB newId = true) ∧ PySem.W.subIn K (.ref (ca c)) (.type "BaseException") = some true ∧ PySem.W.typeIn K (.ref (ca c)) = some (.type "type")))
  ex : ExcOk K ca ev B.sub B.exf
  hn : ∀ x c, (x, c) ∈ ti.hn → (x == ("__debug__" : Str)) = false ∧ (mg x = some (ev c) ∨ (mg x = none ∧ bootBuiltins x = some (ev c) ∧ x ≠ "__name__"))
  rti : ∀ cn b, (cn, b) ∈ ti.rti → ∀ e, B.sub e cn = some true → ExcC K (ca e) ∧ PySem.W.kitOne K (.ref (ca e)) (.type "ValueError") = some b
  eqc : ∀ c f, (c, f) ∈ ti.eqc → EqC K (ca c) (fad f) ∧ ∃ fi, ti.fs[f]? = some fi ∧ fi.gz = false ∧ fi.ps.length = 2
  tf : ∀ cn f, (cn, f) ∈ ti.tf → ∀ e pl v, lkF f pl = some v → B.sub e cn = some true → (B.exf e).contains f = true
  told : ∀ x f, ti.G.lookup x = some (.told f) → ∃ cn fl ret, B.told f = some (cn, fl, .str ret) ∧ (∀ e pl v, lkF fl pl = some v → B.sub e cn = some true → (B.exf e).contains fl = true) ∧
    ∃ (aa : Str) (g : Addr) (pg : Arguments) (bg : List Stmt) (sg : Scope) (dV kV doc pm cdv ct oc : Value) (an od : Option Addr) (osl : Array (Option Value)) (Ng : List Str),
      mg x = some (.ref g) ∧ PySem.W.keepIn K (.ref g) = true ∧ K.lookup g = some ⟨oc, od, .func (PySem.W.fnOf x x pg bg sg dV kV doc pm an cdv ct), osl⟩ ∧ PySem.W.codeIn K cdv x = true ∧ L2.Binds K (PySem.W.fnOf x x pg bg sg dV kV doc pm an cdv ct) [aa] [] ∧ FnScope Ng [aa] sg ∧ Ng[0]? = some aa ∧ Vis sg aa ∧
      (x == ("__debug__" : Str)) = false ∧ (aa == ("__debug__" : Str)) = false ∧ (aa == ("__classdict__" : Str)) = false ∧
      ∀ (X : Cx) (q : Str), X.mg = mg → X.K = K → LamX.GivesTo X Ng x sg g cdv bg aa q (TTf X.K (ev cn) (St fl) (St ret))
/-- where an expression stands -/
structure Gd (T : List (Addr × Str)) (n : Nat) (k : Ck) (Z : Cx) (W : WX) : Prop where
  calm : Z.calm = true
  N : Z.N = k.N
  nd : Z.N.Nodup
  sc : Z.env.scope = k.sc
  fn : ∀ x, k.os.names.lookup x = some .cell → Z.fn x = true
  tk : Takes Z W
  rm : Room (lev n + 2) Z.A
  rl : k.lam = true → Room (lev n + 4) Z.A
  gd : k.gk = true → Z.A.guards = some []
  lam : k.lam = true → ∃ cc P q, Z.env.code = .ref cc ∧ Z.env.qual ++ "<lambda>" = q ∧ LamX.TabB Z.base Z.mg cc P ∧ (P, q) ∈ T ∧ ∀ p ∈ T, p.1 = P → p.2 = q
def CallOk (P : Program) (w : World) (K : PySem.W.Frag) (mg : Str → Option Value) (base : Heap) (ca : Nat → Addr) (T : List (Addr × Str)) (fad : Nat → Addr) (ffd : Nat → FuncData) (ti : Ti) (B : Tab) (n : Nat) : Prop :=
  ∀ f fi, ti.fs[f]? = some fi → FnE P w K mg base (lev n) (fad f) (ffd f) fi.ps (spC K ca T (callN B n f) fi.ps.length) fi.gz
theorem callN_len {B : Tab} {n f : Nat} {F : Fe} {ds : List D} {h : Hd} (hF : B.fns[f]? = some F) (e : callN B n f ds h ≠ none) : ds.length = F.np := by
  cases n with
  | zero => exact absurd rfl e
  | succ n =>
    unfold callN at e
    simp only [hF] at e
    by_cases hl : ds.length = F.np
    · exact hl
    · rw [if_neg hl] at e; exact absurd rfl e
theorem callN_lenF {B : Tab} {ti : Ti} {n f : Nat} {fi : FI} {ds : List D} {h : Hd} (np : ∀ (f : Nat) (fi : FI) (F : Fe), ti.fs[f]? = some fi → B.fns[f]? = some F → F.np = fi.ps.length) (hf : ti.fs[f]? = some fi) (e : callN B n f ds h ≠ none) : ds.length = fi.ps.length := by
  cases hF : B.fns[f]? with
  | none =>
    exfalso
    apply e
    cases n with
    | zero => rfl
    | succ n => unfold callN; simp only [hF]
  | some F => rw [callN_len hF e, np f fi F hf hF]
/-- a block's names, seen from within -/
def relS (sc outer : Scope) : Scope := { sc with names := sc.names.map fun (n, k) => if (k == NameKind.free && outer.kind == .function && outer.names.lookup n == some .cell) then (n, NameKind.cell) else (n, k) }
def Ck.blk (k : Ck) (sc : Scope) : Ck := { k with sc := relS sc k.sc, os := sc }
def Ck.lm (k : Ck) (sc : Scope) : Ck := { k with sc := sc, os := sc, gk := false, lam := false }
/-! ### the check -/
def nmOk (x : Str) : Bool := !(x == ("__debug__" : Str)) && !(x == ("__classdict__" : Str)) && decide (x ≠ ("__name__" : Str))
def visB (sc : Scope) (x : Str) : Bool := match sc.names.lookup x with
  | some .local | some .cell | some .free => true
  | _ => false
def locB (sc : Scope) (x : Str) : Bool := match sc.names.lookup x with
  | some .local | some .cell => true
  | _ => false
/-- a name that may be filled -/
def tgB (k : Ck) (x : Str) : Bool := decide (k.sc.names.lookup x = some .local) || (decide (k.sc.names.lookup x = some .cell) && decide (k.os.names.lookup x = some .cell))
def glB (sc : Scope) (x : Str) : Bool := match sc.names.lookup x with
  | some .globalImplicit => true
  | _ => false
/-- x, a built-in that the module does not bind -/
def bltB (k : Ck) (x : Str) : Bool := glB k.sc x && k.ti.bl.contains x
def cstB (d : D) (c : Const) : Bool := match d, c with
  | .non, .none => true
  | .bl b, .bool c => b == c
  | .int i, .int j => i == j
  | .str s, .str t => decide (St s = t)
  | _, _ => false
def bopB (o : Bop) (p : Operator) : Bool := decide (bopA o = p)
def copB (o : Cop) (p : CmpOp) : Bool := decide (copA o = p)
def biN : Bi → Option Str
  | .len => some "len" | .tuple => some "tuple" | .list => some "list" | .all => some "all" | .any => some "any" | .sum => some "sum" | .min => some "min" | .max => some "max" | .abs => some "abs" | .int => some "int" | .str => some "str"
  | .repr => some "repr" | .sorted => some "sorted" | .divmod => some "divmod" | _ => none
def isiN : Isi → Option Str
  | .int => some "int" | .bool => some "bool" | .str => some "str" | .tuple => some "tuple" | _ => none
def isiP : Isi → Bool
  | .int | .bool | .str | .tuple => true
  | _ => false
def len1B {α : Type} : List α → Bool
  | [_] => true
  | _ => false
def ownsOf (N : List Str) (vs : List Nat) : List (Str × Nat) := vs.filterMap fun i => N[i]?.map fun x => (x, i)
def isTupE : Expr → Bool
  | .Tuple _ _ _ => true
  | _ => false
def kwNames : List Keyword → Option (List Str)
  | [] => some []
  | ⟨some n, _, _⟩ :: r => (kwNames r).map (n :: ·)
  | _ => none
def gzB (k : Ck) (f : Nat) : Bool := match k.ti.fs[f]? with
  | some fi => !fi.gz || k.gk
  | none => false
def isCls (ti : Ti) (y : Str) (c : Nat) : Bool := match ti.G.lookup y with
  | some (.cls c' _) => c' == c
  | _ => false
def tyB (k : Ck) (n : Str) (e : Expr) : Bool := match asName e with
  | some (x, _) => decide (x = n) && bltB k x
  | none => false
def lamA : Arguments → Bool
  | ⟨[], [], none, [], [], none, []⟩ => true
  | _ => false
def isTT : T → Bool
  | .tt => true
  | _ => false
/-- the place of a call of a method -/
def methOk (o : Expr) (q p : Pos) (es : List Expr) (kws : List Keyword) : Bool := okBase o && (q.endLine == p.line) && noStars es && decide (es.length + kws.length + (if kws.isEmpty then 0 else 1) < 30)
mutual
def mX (k : Ck) : X → Expr → Bool
  | .var i, e => match asName e with
    | some (x, _) => nmOk x && visB k.sc x && decide (k.N[i]? = some x)
    | none => false
  | .cst d, e => match asConst e with
    | some (c, _, _) => cstB d c
    | none => false
  | .glb j, e => match asName e with
    | some (x, _) => nmOk x && glB k.sc x && decide (k.ti.G.lookup x = some (.cst j))
    | none => false
  | .bin o a b, e => match asBin e with
    | some (l, p, r, _) => bopB o p && mX k a l && mX k b r
    | none => false
  | .neg a, e => match asNeg e with
    | some (l, _) => mX k a l
    | none => false
  | .cmp o a b, e => match asCmp1 e with
    | some (l, p, r, _) => copB o p && !behindInMarks (copA o) r && mX k a l && mX k b r
    | none => false
  | .chn o q a b c, e => match asCmp2 e with
    | some (l, p, p2, m, r, _) => copB o p && copB q p2 && !lastMarks [copA o, copA q] [m, r] && mX k a l && mX k b m && mX k c r
    | none => false
  | .nt a, e => match asNot e with
    | some (l, _) => mX k a l
    | none => false
  | .and xs, e => match asAnd e with
    | some (es, _) => noStars es && mXs k xs es
    | none => false
  | .or xs, e => match asOr e with
    | some (es, _) => noStars es && mXs k xs es
    | none => false
  | .ite t a b, e => match asIf e with
    | some (c, l, r, _) => mT k t c && mX k a l && mX k b r
    | none => false
  | .tup xs, e => match asTup e with
    | some (es, _, _) => mXs k xs es
    | none => false
  | .lst xs, e => match asLst e with
    | some (es, _) => mXs k xs es
    | none => false
  | .nlst xs, e => match asLst e with
    | some (es, _) => mXs k xs es
    | none => false
  | .sub a b, e => match asSub e with
    | some (l, r, _) => plainB r && mX k a l && mX k b r
    | none => false
  | .slc a lo hi, e => match asSub e with
    | some (l, r, _) => (match asSlc r with
      | some (x, y, _) => mX k a l && mO k lo x && mO k hi y
      | none => false)
    | none => false
  | .call f xs, e => match asCalN e with
    | some (x, _, es, _) => nmOk x && glB k.sc x && decide (k.ti.G.lookup x = some (.fn f)) && gzB k f && noStars es && mXs k xs es
    | none => false
  | .callk f pm xs, e => match asCall e with
    | some (g, [], kws, _) => (match asName g, kwNames kws with
      | some (x, _), some ks => nmOk x && glB k.sc x && decide (k.ti.G.lookup x = some (.fn f)) && gzB k f && decide ((f, 0, ks, pm) ∈ k.ti.kw) && mKs k xs kws
      | _, _ => false)
    | _ => false
  | .cb b xs, e => match asCalN e with
    | some (x, _, es, _) => decide (biN b = some x) && bltB k x && noStars es && !es.isEmpty && (k.gk || decide (b ≠ .repr)) && mXs k xs es
    | none => false
  | .mb m o xs, e => match asMeth e with
    | some (l, n, q, es, [], p) => decide (miN m = n) && methOk l q p es [] && mX k o l && mXs k xs es
    | _ => false
  | .fld o f, e => match asAttr e with
    | some (l, n, _) => decide (St f = n) && okBase l && mX k o l
    | none => false
  | .me c f m o xs, e => match asMeth e with
    | some (l, n, q, es, [], p) => decide (St m = n) && methOk l q p es [] && decide ((c, m, f) ∈ k.ti.ms) && gzB k f && mX k o l && mXs k xs es
    | _ => false
  | .mek c f m pm o xs, e => match asMeth e with
    | some (l, n, q, [], kws, p) => (match kwNames kws with
      | some ks => decide (St m = n) && methOk l q p [] kws && decide ((c, m, f) ∈ k.ti.ms) && gzB k f && decide ((f, 1, ks, pm) ∈ k.ti.kw) && mX k o l && mKs k xs kws
      | none => false)
    | _ => false
  | .mk c f xs, e => match asCalN e with
    | some (x, _, es, _) => nmOk x && glB k.sc x && decide (k.ti.G.lookup x = some (.cls c f)) && noStars es && mXs k xs es
    | none => false
  | .mkk c f pm xs, e => match asCall e with
    | some (g, [], kws, _) => (match asName g, kwNames kws with
      | some (x, _), some ks => nmOk x && glB k.sc x && decide (k.ti.G.lookup x = some (.cls c f)) && decide ((f, ks, pm) ∈ k.ti.km) && mKs k xs kws
      | _, _ => false)
    | _ => false
  | .isi a q, e => match asCalN e with
    | some (x, _, [l, r], _) => decide (x = ("isinstance" : Str)) && bltB k x && !isStar l && !isStar r && mX k a l && (match q with
      | .cls c => (match asName r with
        | some (y, _) => nmOk y && glB k.sc y && k.ti.ci.contains c && isCls k.ti y c
        | none => false)
      | .intStr => (match asTup r with
        | some ([r1, r2], _, _) => !isStar r1 && !isStar r2 && tyB k "int" r1 && tyB k "str" r2
        | _ => false)
      | q => (match isiN q with
        | some y => tyB k y r
        | none => false))
    | _ => false
  | .lc vs g it t el, e => match asLc e with
    | some (elt, tg, iter, ifs, sc, _) => decide ((ownsOf k.N vs).map (·.2) = vs) && blkC k.N k.sc sc (ownsOf k.N vs) && notSet iter && mIt k it tg iter && mTg (k.blk sc) vs g tg && (match ifs with | [] => isTT t | [c] => mT (k.blk sc) t c | _ => false) && mX (k.blk sc) el elt
    | none => false
  | .lc2 vs vs1 g it t g1 it1 t1 el, e => match asLc2 e with
    | some (elt, tg, iter, ifs, tg1, iter1, ifs1, sc, _) => decide ((ownsOf k.N vs).map (·.2) = vs) && vs1.all (fun i => vs.contains i) && blkC k.N k.sc sc (ownsOf k.N vs) && notSet iter && notSet iter1 && mIt k it tg iter && mTg (k.blk sc) vs g tg && (match ifs with | [] => isTT t | [c] => mT (k.blk sc) t c | _ => false) &&
        mIt (k.blk sc) it1 tg1 iter1 && mTg (k.blk sc) vs1 g1 tg1 && (match ifs1 with | [] => isTT t1 | [c] => mT (k.blk sc) t1 c | _ => false) && mX (k.blk sc) el elt
    | none => false
  | .tryl f a, e => match asCalN e with
    | some (x, _, [l], _) => nmOk x && glB k.sc x && decide (k.ti.G.lookup x = some (.told f)) && (match asLam l, k.lam with
      | some (pa, body, sc, _), true => lamA pa && LamX.lamSB k.sc sc && mX (k.lm sc) a body
      | _, _ => false)
    | _ => false
  | .olist a, e => match asCalN e with
    | some (x, _, [l], _) => decide (x = ("list" : Str)) && bltB k x && !isStar l && mX k a l
    | _ => false
  | .lrng a, e => match asCalN e with
    | some (x, _, [l], _) => decide (x = ("list" : Str)) && bltB k x && (match asCalN l with
      | some (y, _, [r], _) => decide (y = ("range" : Str)) && bltB k y && !isStar r && mX k a r
      | _ => false)
    | _ => false
  | .olr a, e => match asCalN e with
    | some (x, _, [l], _) => decide (x = ("list" : Str)) && bltB k x && (match asCalN l with
      | some (y, _, [r], _) => decide (y = ("range" : Str)) && bltB k y && !isStar r && mX k a r
      | _ => false)
    | _ => false
  | .lset a, e => match asCalN e with
    | some (x, _, [l], _) => decide (x = ("len" : Str)) && bltB k x && (match asCalN l with
      | some (y, _, [r], _) => decide (y = ("set" : Str)) && bltB k y && !isStar r && mX k a r
      | _ => false)
    | _ => false
  | .oeq neg c f a b, e => match asCmp1 e with
    | some (l, p, r, _) => decide ((if neg then CmpOp.NotEq else CmpOp.Eq) = p) && !behindInMarks p r && decide ((c, f) ∈ k.ti.eqc) && mX k a l && mX k b r
    | none => false
  | .srtR a, e => match asCall e with
    | some (g, [l], [⟨some n, ke, _⟩], _) => (match asName g, asConst ke with
      | some (x, _), some (.bool true, _, _) => decide (x = ("sorted" : Str)) && bltB k x && decide (n = ("reverse" : Str)) && !isStar l && mX k a l
      | _, _ => false)
    | _ => false
  | .rev a, e => match asRev e with
    | some (l, _, _, _, _, _) => mX k a l
    | none => false
  | .din j a, e => match asCmp1 e with
    | some (l, p, r, _) => copB .isin p && (match asName r with
      | some (x, _) => nmOk x && glB k.sc x && decide (k.ti.G.lookup x = some (.dct j)) && mX k a l
      | none => false)
    | none => false
  | .dget j a, e => match asSub e with
    | some (l, r, _) => plainB r && (match asName l with
      | some (x, _) => nmOk x && glB k.sc x && decide (k.ti.G.lookup x = some (.dct j)) && mX k a r
      | none => false)
    | none => false
def mXs (k : Ck) : Xs → List Expr → Bool
  | .nil, [] => true
  | .cons a r, e :: es => !isStar e && mX k a e && mXs k r es
  | .star a r, e :: es => match asStar e with
    | some (l, _) => mX k a l && mXs k r es
    | none => false
  | _, _ => false
def mKs (k : Ck) : Xs → List Keyword → Bool
  | .nil, [] => true
  | .cons a r, ⟨_, e, _⟩ :: es => mX k a e && mKs k r es
  | _, _ => false
def mO (k : Ck) : O → Option Expr → Bool
  | .no, none => true
  | .yes a, some e => mX k a e
  | _, _ => false
def mT (k : Ck) : T → Expr → Bool
  | .tt, _ => false
  | .val a, e => !boolish e && mX k a e
  | .nt t, e => match asNot e with
    | some (l, _) => mT k t l
    | none => false
  | .and ts, e => match asAnd e with
    | some (es, _) => !es.isEmpty && mTs k ts es
    | none => false
  | .or ts, e => match asOr e with
    | some (es, _) => !es.isEmpty && mTs k ts es
    | none => false
def mTs (k : Ck) : Ts → List Expr → Bool
  | .nil, [] => true
  | .cons t r, e :: es => mT k t e && mTs k r es
  | _, _ => false
def mIt (k : Ck) : It → Expr → Expr → Bool
  | .seq a, _, e => mX k a e
  | .rng xs, _, e => match asCalN e with
    | some (x, _, es, _) => decide (x = ("range" : Str)) && bltB k x && noStars es && (decide (es.length = 1) || decide (es.length = 2)) && mXs k xs es
    | none => false
  | .enm a, tg, e => match asCalN e with
    | some (x, _, [l], _) => decide (x = ("enumerate" : Str)) && bltB k x && isTupE tg && !isStar l && mX k a l
    | _ => false
  | .zip a b, tg, e => match asCalN e with
    | some (x, _, [l, r], _) => decide (x = ("zip" : Str)) && bltB k x && isTupE tg && !isStar l && !isStar r && mX k a l && mX k b r
    | _ => false
def mTg (k : Ck) (tv : List Nat) : Tg → Expr → Bool
  | .nm i, e => match asName e with
    | some (x, _) => tgB k x && decide (k.N[i]? = some x) && tv.contains i
    | none => false
  | .tp ts, e => match asTup e with
    | some (es, _, _) => noStars es && mTgs k tv ts es
    | none => false
  | .sb o i, e => match asSub e with
    | some (l, r, _) => plainB r && mX k o l && mX k i r
    | none => false
  | .fd .., _ => false
def mTgs (k : Ck) (tv : List Nat) : Tgs → List Expr → Bool
  | .nil, [] => true
  | .cons g r, e :: es => mTg k tv g e && mTgs k tv r es
  | _, _ => false
end
end Ev

set_option Elab.async false
set_option linter.all false
set_option maxRecDepth 100000
set_option maxHeartbeats 4000000
/-! Ev5c: helps for the check's meaning. -/
namespace Ev
open PySem L2 PyProof.Rows
section
variable {Z : Cx} {ca : Nat → Addr} {T : List (Addr × Str)} {W : WX} {e : Expr}
/-- as a value, and as a test -/
def Both (Z : Cx) (ca : Nat → Addr) (T : List (Addr × Str)) (W : WX) (e : Expr) (m : Sl → M D) : Prop := pX Z ca T W e m ∧ (boolish e = false → pT Z ca T W e (fun σ => bnd (m σ) fun x => fun h => opt (truD h x) h))
theorem both_of {m m' : Sl → M D} (h : pX Z ca T W e m) (he : m' = m) (hc : isCmp e = false) : Both Z ca T W e m' := by
  subst he
  exact ⟨h, fun hb => s_tval h (tests_plain hb hc)⟩
theorem both_bool {m m' : Sl → M D} (h : pX Z ca T W e m) (he : m' = m) (hb : boolish e = true) : Both Z ca T W e m' := by
  subst he
  exact ⟨h, fun hb' => by rw [hb] at hb'; cases hb'⟩
theorem stuck_ok {m : Sl → M D} (h : ∀ σ hd, m σ hd = none) : pX Z ca T W e m := ⟨fun pins s σ H Q I hh => by
  obtain ⟨L0, ρ, σd, hd, r, rs, f⟩ := hh
  rw [h] at f
  exact f.elim⟩
/-- a test from a value that is a bool -/
theorem tst_red {K : PySem.W.Frag} {m : Sl → M D} {σ : L2.St} {H : Hp} {Q : Bool → Hp → Prop} (hb : ∀ σ h d h', m σ h = some (.ok d, h') → ∃ k, d = .bl k) (h : rdB K ca T W (fun σ => bnd (m σ) fun x => fun h => opt (truD h x) h) σ H Q) :
    rdV K ca T W m σ H (fun x H' => ∃ k, x = .bl k ∧ Q k H') := by
  obtain ⟨L0, ρ, σd, hd, r, rs, f⟩ := h
  refine ⟨L0, ρ, σd, hd, r, rs, ?_⟩
  have f2 := Fin.bnd f
  unfold Fin at f2 ⊢
  split at f2
  · exact f2
  · rename_i d hd' e
    intro ρ' H' p v rv
    obtain ⟨k, rfl⟩ := hb _ _ _ _ e
    rw [Rep] at rv; subst rv
    have f3 := f2 ρ' H' p
    exact ⟨k, rfl, f3 ρ' H' (Post.refl p.rel) k rfl⟩
  · exact f2
theorem bnd_ok {α β : Type} {m : M α} {f : α → M β} {h : Hd} {b : β} {h' : Hd} (e : bnd m f h = some (.ok b, h')) : ∃ a h1, m h = some (.ok a, h1) ∧ f a h1 = some (.ok b, h') := by
  unfold bnd at e
  cases hm : m h with
  | none => simp only [hm] at e; cases e
  | some q =>
    obtain ⟨q, h1⟩ := q
    cases q with
    | ok a => simp only [hm] at e; exact ⟨a, h1, rfl, e⟩
    | ex c pl => simp only [hm] at e; cases e
theorem both_oeq {a b : Expr} {ma mb : Sl → M D} {op : CmpOp} {pos : Pos} {m' : Sl → M D} {F : List D → M D} {neg : Bool} {c : Nat} (ho : OpR Z (compareOp op) (rdOeq Z.K ca T F neg c)) (ha : pX Z ca T W a ma) (hb : pX Z ca T W b mb) (hm : behindInMarks op b = false)
    (he : m' = fun σ => bnd (ma σ) fun x => bnd (mb σ) fun y => oeqM F neg c x y) : Both Z ca T W (.Compare a [op] [b] pos) m' := by
  subst he
  refine ⟨PE.imp (pe_cmpR ho ha hb hm) fun σ H Q h => rd_oeq h, fun _ => PT.imp (pt_cmpR ho ha hb hm) fun σ H Q h => ?_⟩
  refine rd_oeq (tst_red (fun σ h d h' e => ?_) h)
  obtain ⟨x, h1, _, e⟩ := bnd_ok e
  obtain ⟨y, h2, _, e⟩ := bnd_ok e
  exact oeqM_bl e
theorem both_cmp {a b : Expr} {ma mb : Sl → M D} {o : Cop} {pos : Pos} {m' : Sl → M D} (hu : Z.A.units + 65 < cLine) (ha : pX Z ca T W a ma) (hb : pX Z ca T W b mb) (hm : behindInMarks (copA o) b = false)
    (he : m' = fun σ => bnd (ma σ) fun x => bnd (mb σ) fun y => fun h => match cmpD o h x y with | some r => some (.ok (.bl r), h) | none => none) : Both Z ca T W (.Compare a [copA o] [b] pos) m' := by
  subst he
  refine ⟨s_cmp hu ha hb hm, fun _ => PT.imp (pt_cmpR (ok_cmp ca T hu o) ha hb hm) fun σ H Q h => ?_⟩
  refine rd_two (f := fun hd a b => (cmpD o hd a b).map D.bl) (fun _ _ _ _ => cmp_opt _ _ _ _) (fun _ _ _ _ h => h) σ H _ (tst_red (fun σ h d h' e => ?_) h)
  obtain ⟨x, h1, _, e⟩ := bnd_ok e
  obtain ⟨y, h2, _, e⟩ := bnd_ok e
  cases hc : cmpD o h2 x y with
  | none => simp only [hc] at e; cases e
  | some r => simp only [hc] at e; cases e; exact ⟨r, rfl⟩
theorem chn_red {o p : Cop} {a b c : Expr} {ma mb mc : Sl → M D} (hu : Z.A.units + 65 < cLine) (σ : L2.St) (H : Hp) (Q : VK)
    (h : rdV Z.K ca T W (fun σ => bnd (ma σ) fun x => bnd (mb σ) fun y => fun h => match cmpD o h x y with
    | some true => bnd (mc σ) (fun z => fun h2 => match cmpD p h2 y z with
      | some r => some (.ok (.bl r), h2)
      | none => none) h
    | some false => some (.ok (.bl false), h)
    | none => none) σ H Q) : tChain (rC (Z := Z) ca T o) (rC (Z := Z) ca T p) (rdV Z.K ca T W ma) (rdV Z.K ca T W mb) (rdV Z.K ca T W mc) σ H Q := by
  obtain ⟨L0, ρ, σd, hd, rh, rs, fn⟩ := h
  refine ⟨L0, ρ, σd, hd, rh, rs, Fin.imp (Fin.bnd fn) fun ρ1 hd1 H1 x p1 f1 v rv => ?_⟩
  have rs1 := rs.keep rh p1
  refine ⟨L0, ρ1, σd, hd1, p1.rel, rs1, Fin.imp (Fin.bnd f1) fun ρ2 hd2 H2 y p2 f2 w rw' => ?_⟩
  have rs2 := rs1.keep p1.rel p2
  cases he : cmpD o hd2 x y with
  | none => rw [he] at f2; exact False.elim f2
  | some k =>
    rw [he] at f2
    refine ⟨L0, ρ2, hd2, x, y, .bl k, p2.rel, Rep.keep p1.rel p2 x v rv, rw', by simp [he], fun ρ3 H3 u p3 ru => ?_⟩
    rw [Rep] at ru; subst ru
    refine ⟨k, rfl, ?_⟩
    cases k with
    | false =>
      rw [if_neg (by simp)]
      exact f2 ρ3 H3 p3 _ (by simp [Rep])
    | true =>
      rw [if_pos rfl]
      have rs3 := rs2.keep p2.rel p3
      have f3 : Fin Z.K ca T (fun c d H' => W c d σ H') L0 ρ3 hd2 H3 (bnd (mc σd) (fun z => fun h2 => match cmpD p h2 y z with | some r => some (Rr.ok (D.bl r), h2) | none => none) hd2) (fun ρ' hd' H' a => ∀ b, Rep Z.K ρ' (Lv L0 ρ' hd') H' a b → Q b H') := by
        have f2' : Fin Z.K ca T (fun c d H' => W c d σ H') L0 ρ2 hd2 H2 (bnd (mc σd) (fun z => fun h2 => match cmpD p h2 y z with | some r => some (Rr.ok (D.bl r), h2) | none => none) hd2) (fun ρ' hd' H' a => ∀ b, Rep Z.K ρ' (Lv L0 ρ' hd') H' a b → Q b H') := f2
        unfold Fin at f2' ⊢
        split at f2'
        · exact f2'
        · exact fun ρ' H' p => f2' ρ' H' (p3.trans p)
        · exact fun ρ' H' d p => f2' ρ' H' d (p3.trans p)
      refine ⟨L0, ρ3, σd, hd2, p3.rel, rs3, Fin.imp (Fin.bnd f3) fun ρ4 hd4 H4 z p4 f4 t rt => ?_⟩
      cases he2 : cmpD p hd4 y z with
      | none => simp only [he2] at f4; exact False.elim f4
      | some j =>
        simp only [he2] at f4
        exact ⟨L0, ρ4, hd4, y, z, .bl j, p4.rel, Rep.keep p3.rel p4 y w (Rep.keep p2.rel p3 y w rw'), rt, by simp [he2], fun ρ' H' v' pp hh => f4 ρ' H' pp v' hh⟩
theorem both_chn {o p : Cop} {a b c : Expr} {ma mb mc : Sl → M D} {pos : Pos} {m' : Sl → M D} (hu : Z.A.units + 65 < cLine) (ha : pX Z ca T W a ma) (hb : pX Z ca T W b mb) (hc : pX Z ca T W c mc) (hm : lastMarks [copA o, copA p] [b, c] = false)
    (he : m' = fun σ => bnd (ma σ) fun x => bnd (mb σ) fun y => fun h => match cmpD o h x y with
    | some true => bnd (mc σ) (fun z => fun h2 => match cmpD p h2 y z with
      | some r => some (.ok (.bl r), h2)
      | none => none) h
    | some false => some (.ok (.bl false), h)
    | none => none) : Both Z ca T W (.Compare a [copA o, copA p] [b, c] pos) m' := by
  subst he
  refine ⟨s_chn hu ha hb hc hm, fun _ => PT.imp (pt_chain (ok_cmp ca T hu o) (ok_cmp ca T hu p) ha hb hc hm) fun σ H Q h => ?_⟩
  refine chn_red (a := a) (b := b) (c := c) hu σ H _ (tst_red (fun σ h d h' e => ?_) h)
  obtain ⟨x, h1, _, e⟩ := bnd_ok e
  obtain ⟨y, h2, _, e⟩ := bnd_ok e
  cases hc : cmpD o h2 x y with
  | none => simp only [hc] at e; cases e
  | some r =>
    cases r with
    | false => simp only [hc] at e; cases e; exact ⟨_, rfl⟩
    | true =>
      simp only [hc] at e
      obtain ⟨z, h3, _, e⟩ := bnd_ok e
      cases hc2 : cmpD p h3 y z with
      | none => simp only [hc2] at e; cases e
      | some r => simp only [hc2] at e; cases e; exact ⟨r, rfl⟩
theorem both_din {d : Addr} {t : Nm → Option (Option D)} {a b : Expr} {ma : Sl → M D} {pos : Pos} {m' : Sl → M D} (hd : DctOk Z.K Z.w d t) (ha : pX Z ca T W a ma) (hb : PE Z b (tC (.ref d))) (hm : behindInMarks .In b = false)
    (he : m' = fun σ => bnd (ma σ) fun x => match x with
    | .str s => match t s with
      | some r => ret (.bl r.isSome)
      | none => stuck
    | _ => stuck) : Both Z ca T W (.Compare a [.In] [b] pos) m' := by
  subst he
  refine ⟨s_din hd ha hb hm, fun _ => ?_⟩
  obtain ⟨⟨es, n, Dk⟩, hk⟩ := hd
  refine PT.imp (pt_cmpR (op_in_kd Dk) ha hb hm) fun σ H Q h => ?_
  have h2 := tst_red (fun σ h d h' e => ?_) h
  · obtain ⟨L0, ρ, σd, hd, rh, rs, fn⟩ := h2
    refine ⟨L0, ρ, σd, hd, rh, rs, Fin.imp (Fin.bnd fn) fun ρ1 hd1 H1 dx p1 f1 v rv => ?_⟩
    cases dx with
    | str s =>
      cases e : t s with
      | none => simp only [e] at f1; exact False.elim f1
      | some r =>
        simp only [e] at f1
        rw [Rep] at rv; subst rv
        have h2 := hk s r e
        cases r with
        | none => exact ⟨St s, none, rfl, rfl, h2, Fin.ret p1.rel f1 _ (by rw [Rep]; rfl)⟩
        | some v =>
          obtain ⟨u, v', h3, _⟩ := h2
          exact ⟨St s, some u, rfl, rfl, h3, Fin.ret p1.rel f1 _ (by rw [Rep]; rfl)⟩
    | _ => exact False.elim f1
  · obtain ⟨x, h1, _, e⟩ := bnd_ok e
    cases x with
    | str s =>
      cases hc : t s with
      | none => simp only [hc] at e; cases e
      | some r => simp only [hc] at e; cases e; exact ⟨_, rfl⟩
    | _ => cases e
end
/-! ### names -/
section
variable {P : Program} {w : World} {K : PySem.W.Frag} {mg : Str → Option Value} {base : Heap} {ca : Nat → Addr} {ev : Nat → Value} {fad : Nat → Addr} {ffd : Nat → FuncData} {ti : Ti} {B : Tab} {T : List (Addr × Str)} {n : Nat} {k : Ck} {Z : Cx} {W : WX}
theorem nmOk_ok {x : Str} (h : nmOk x = true) : (x == ("__debug__" : Str)) = false ∧ (x == ("__classdict__" : Str)) = false ∧ x ≠ "__name__" := by
  unfold nmOk at h
  simp only [Bool.and_eq_true, Bool.not_eq_true', decide_eq_true_eq] at h
  exact ⟨h.1.1, h.1.2, h.2⟩
theorem visB_ok {sc : Scope} {x : Str} (h : visB sc x = true) : Vis sc x := by
  unfold visB at h
  split at h
  · rename_i e; exact .inl e
  · rename_i e; exact .inr (.inl e)
  · rename_i e; exact .inr (.inr e)
  · cases h
theorem locB_ok {sc : Scope} {x : Str} (h : locB sc x = true) : Loc sc x := by
  unfold locB at h
  split at h
  · rename_i e; exact .inl e
  · rename_i e; exact .inr e
  · cases h
theorem glB_ok (g : Gd T n k Z W) {x : Str} (h : glB k.sc x = true) : Gl Z x := by
  unfold glB at h
  split at h
  · rename_i e
    show Z.env.scope.names.lookup x = some .globalImplicit
    rw [g.sc]; exact e
  · cases h
theorem Gd.vis (g : Gd T n k Z W) {x : Str} (h : visB k.sc x = true) : Vis Z.env.scope x := by rw [g.sc]; exact visB_ok h
theorem Gd.loc (g : Gd T n k Z W) {x : Str} (h : locB k.sc x = true) : Loc Z.env.scope x := by rw [g.sc]; exact locB_ok h
theorem Gd.un (g : Gd T n k Z W) : Z.A.units + 65 < cLine := by have := g.rm.un; omega
theorem blt_ok {x : Str} (Fa : Fac Z.prog Z.w Z.K Z.mg Z.base ca ev fad ffd k.ti B) (g : Gd T n k Z W) (h : bltB k x = true) : Gl Z x ∧ Z.mg x = none := by
  unfold bltB at h
  simp only [Bool.and_eq_true, List.contains_iff_mem] at h
  exact ⟨glB_ok g h.1, Fa.bl x h.2⟩
theorem cst_ok {d : D} {c : Const} {j : Nat} {p : Pos} (h : cstB d c = true) : pX Z ca T W (.Constant c j p) (fun _ => ret d) := by
  cases d <;> cases c <;> simp [cstB] at h
  · exact s_const pe_non (fun _ _ _ => by rw [Rep])
  · subst h; exact s_const pe_bl (fun _ _ _ => by rw [Rep])
  · subst h; exact s_const pe_int (fun _ _ _ => by rw [Rep])
  · subst h; exact s_const pe_str (fun _ _ _ => by rw [Rep])
theorem tyB_ok {nm : String} {e : Expr} (Fa : Fac Z.prog Z.w Z.K Z.mg Z.base ca ev fad ffd k.ti B) (g : Gd T n k Z W) (h : tyB k (Str.ofString nm) e = true) (hb : bootBuiltins (Str.ofString nm) = some (.type nm)) (h1 : (Str.ofString nm) ≠ "__name__") (h2 : (Str.ofString nm == ("__debug__" : Str)) = false) : PE Z e (tC (.ty nm)) := by
  unfold tyB at h
  split at h
  · rename_i x p e1
    simp only [Bool.and_eq_true, decide_eq_true_eq] at h
    obtain ⟨hx, h⟩ := h
    subst hx
    rw [asName_ok e1]
    obtain ⟨h3, h4⟩ := blt_ok Fa g h
    exact pe_bltn h3 h4 hb rfl h1 h2
  · cases h
theorem ret_nil {α β : Type} (f : List α → M β) : bnd (ret []) f = f [] := by funext h; rfl
theorem kwNames_len : ∀ {kws : List Keyword} {ks : List Str}, kwNames kws = some ks → kws.length = ks.length
  | [], ks, h => by simp [kwNames] at h; subst h; rfl
  | ⟨nm, v, p⟩ :: r, ks, h => by
    cases nm with
    | none => simp [kwNames] at h
    | some x =>
      simp only [kwNames, Option.map_eq_some_iff] at h
      obtain ⟨ks', h1, rfl⟩ := h
      simp [kwNames_len h1]
theorem kwNames_all {pos : Pos} {env : Env} : ∀ {kws : List Keyword} {ks : List Str}, kwNames kws = some ks →
    (backToKw pos (keywordEach kws env)).all (·.1.isSome) = true ∧ (backToKw pos (keywordEach kws env)).filterMap (·.1) = ks ∧ (backToKw pos (keywordEach kws env)).any (·.1.isNone) = false
  | [], ks, h => by simp [kwNames] at h; subst h; exact ⟨rfl, rfl, rfl⟩
  | ⟨nm, v, p⟩ :: r, ks, h => by
    cases nm with
    | none => simp [kwNames] at h
    | some x =>
      simp only [kwNames, Option.map_eq_some_iff] at h
      obtain ⟨ks', h1, rfl⟩ := h
      obtain ⟨i1, i2, i3⟩ := kwNames_all (pos := pos) (env := env) h1
      refine ⟨?_, ?_, ?_⟩
      · show (true && (backToKw pos (keywordEach r env)).all (·.1.isSome)) = true
        rw [i1]; rfl
      · show x :: (backToKw pos (keywordEach r env)).filterMap (·.1) = _
        rw [i2]
      · show (false || (backToKw pos (keywordEach r env)).any (·.1.isNone)) = false
        rw [i3]; rfl
theorem lamA_ok {pa : Arguments} (h : lamA pa = true) {env : Env} : defaultsOf pa env = ([], []) ∧ ∀ (body : Expr) (scope : Scope) (q : Str) (cl : List (Str × Addr)) (pm cv ctv : Value), bindArgs (PySem.W.kla_fn "<lambda>" q pa body scope cl pm cv ctv) ⟨[], []⟩ = pure [] := by
  unfold lamA at h
  split at h
  · exact ⟨rfl, fun _ _ _ _ _ _ _ => rfl⟩
  · cases h
theorem methForm {pos : Pos} {es : List Expr} {kws : List Keyword} {ks : List Str} {env : Env} (h1 : noStars es = true) (hk : kwNames kws = some ks) (h : es.length + kws.length + (if kws.isEmpty then 0 else 1) < 30) : methodCallForm (es.length + kws.length) (backTo pos (starEach es env)) (backToKw pos (keywordEach kws env)) = true := by
  unfold methodCallForm
  have e1 := stars_all (pos := pos) (env := env) h1
  have e2 := (kwNames_all (pos := pos) (env := env) hk).1
  have e3 : (backToKw pos (keywordEach kws env)).isEmpty = kws.isEmpty := by
    cases kws with
    | nil => rfl
    | cons kk r => obtain ⟨nm, v, p⟩ := kk; rfl
  rw [e1, e2, e3]
  simp only [Bool.true_and]
  exact decide_eq_true h
end
end Ev

set_option Elab.async false
set_option linter.all false
set_option maxRecDepth 100000
set_option maxHeartbeats 8000000
/-! Ev5d: the check of an expression means what it says. -/
namespace Ev
open PySem L2 PyProof.Rows
theorem and2 {a b : Bool} (h : (a && b) = true) : a = true ∧ b = true := Bool.and_eq_true_iff.mp h
theorem notT {a : Bool} (h : (!a) = true) : a = false := by cases a <;> first | rfl | cases h
theorem of_dec {p : Prop} [Decidable p] (h : decide p = true) : p := of_decide_eq_true h
theorem ok_cb {Z : Cx} {ca : Nat → Addr} {T : List (Addr × Str)} {b : Bi} {x : Str} (hc : Z.calm = true) (hu : Z.A.units + 65 < cLine) (hb : biN b = some x) (hg : b = .repr → Z.A.guards = some []) :
    CallR Z (biV b) (rdBi Z.K ca T b) ∧ bootBuiltins x = some (biV b) ∧ ((∃ id, biV b = .builtin id) ∨ ∃ t, biV b = .type t) ∧ x ≠ "__name__" ∧ (x == ("__debug__" : Str)) = false := by
  have hu' : Z.A.units + 64 < cLine := by omega
  cases b <;> simp only [biN] at hb <;> (first | (cases hb; done) | (cases hb)) <;> refine ⟨?_, rfl, ?_, by decide, by decide⟩
  · exact ok_len ca T
  · exact .inl ⟨_, rfl⟩
  · exact ok_tuple ca T
  · exact .inr ⟨_, rfl⟩
  · exact ok_list ca T
  · exact .inr ⟨_, rfl⟩
  · exact ok_all ca T hc
  · exact .inl ⟨_, rfl⟩
  · exact ok_any ca T hc
  · exact .inl ⟨_, rfl⟩
  · exact ok_sum ca T hc
  · exact .inl ⟨_, rfl⟩
  · exact ok_min ca T hc hu'
  · exact .inl ⟨_, rfl⟩
  · exact ok_max ca T hc hu'
  · exact .inl ⟨_, rfl⟩
  · exact ok_abs ca T
  · exact .inl ⟨_, rfl⟩
  · exact ok_int ca T
  · exact .inr ⟨_, rfl⟩
  · exact ok_str ca T
  · exact .inr ⟨_, rfl⟩
  · exact ok_repr ca T (hg rfl) hu
  · exact .inl ⟨_, rfl⟩
  · exact ok_sorted ca T
  · exact .inl ⟨_, rfl⟩
  · exact ok_divmod ca T
  · exact .inl ⟨_, rfl⟩
theorem ok_mb {Z : Cx} {ca : Nat → Addr} {T : List (Addr × Str)} {m : Mi} : PlainAttrs (miT m) ∧ Slot (miT m) (miN m) (miI m) ∧ typeOf (.builtin (miI m)) = pure (.type "method_descriptor") ∧ MtR Z (miI m) (rdMb ca T Z.K m) := by
  cases m
  · exact ⟨PySem.F.plainAttrs_list, PySem.F.slot_list_append, PySem.F.type_list_append, ok_append⟩
  · exact ⟨PySem.F.plainAttrs_list, PySem.F.slot_list_extend, PySem.F.type_list_extend, ok_extend⟩
  · exact ⟨PySem.F.plainAttrs_list, PySem.F.slot_list_pop, PySem.F.type_list_pop, ok_pop⟩
  · exact ⟨PySem.F.plainAttrs_tuple, PySem.F.slot_tuple_index, PySem.F.type_tuple_index, ok_index⟩
  · exact ⟨PySem.F.plainAttrs_str, PySem.F.slot_str_join, PySem.F.type_str_join, ok_joinM⟩
  · exact ⟨PySem.F.plainAttrs_str, PySem.F.slot_str_split, PySem.F.type_str_split, ok_split⟩
  · exact ⟨PySem.F.plainAttrs_str, PySem.F.slot_str_index, PySem.F.type_str_index, ok_sindex⟩
theorem gzB_ok {k : Ck} {Z : Cx} {W : WX} {T : List (Addr × Str)} {n f : Nat} {fi : FI} (g : Gd T n k Z W) (h : gzB k f = true) (hf : k.ti.fs[f]? = some fi) : fi.gz = true → Z.A.guards = some [] := by
  unfold gzB at h
  simp only [hf] at h
  intro hz
  rw [hz] at h
  exact g.gd (by simpa using h)
theorem evXs_len {C : Cfg} : ∀ {xs : Xs} {k : Ck} {es : List Expr} {σ : Sl} {h h' : Hd} {vs : List D}, noStars es = true → mXs k xs es = true → evXs C xs σ h = some (.ok vs, h') → vs.length = es.length
  | .nil, k, [], σ, h, h', vs, hn, hm, e => by rw [evXs] at e; cases e; rfl
  | .nil, k, _ :: _, σ, h, h', vs, hn, hm, e => by simp [mXs] at hm
  | .cons a r, k, [], σ, h, h', vs, hn, hm, e => by simp [mXs] at hm
  | .cons a r, k, x :: es, σ, h, h', vs, hn, hm, e => by
    rw [mXs] at hm
    obtain ⟨h1, h2⟩ := and2 hm
    obtain ⟨_, h3⟩ := and2 hn
    rw [evXs] at e
    obtain ⟨d, g1, _, e⟩ := bnd_ok e
    obtain ⟨ds, g2, e2, e⟩ := bnd_ok e
    cases e
    rw [List.length_cons, List.length_cons, evXs_len h3 h2 e2]
  | .star a r, k, [], σ, h, h', vs, hn, hm, e => by simp [mXs] at hm
  | .star a r, k, x :: es, σ, h, h', vs, hn, hm, e => by
    rw [mXs] at hm
    split at hm
    · rename_i l p h1
      rw [asStar_ok h1] at hn
      simp [noStars, isStar] at hn
    · cases hm
theorem evKs_len {C : Cfg} : ∀ {xs : Xs} {k : Ck} {es : List Keyword} {σ : Sl} {h h' : Hd} {vs : List D}, mKs k xs es = true → evXs C xs σ h = some (.ok vs, h') → vs.length = es.length
  | .nil, k, [], σ, h, h', vs, hm, e => by rw [evXs] at e; cases e; rfl
  | .nil, k, _ :: _, σ, h, h', vs, hm, e => by simp [mKs] at hm
  | .cons a r, k, [], σ, h, h', vs, hm, e => by simp [mKs] at hm
  | .cons a r, k, ⟨nm, x, p⟩ :: es, σ, h, h', vs, hm, e => by
    rw [mKs] at hm
    obtain ⟨h1, h2⟩ := and2 hm
    rw [evXs] at e
    obtain ⟨d, g1, _, e⟩ := bnd_ok e
    obtain ⟨ds, g2, e2, e⟩ := bnd_ok e
    cases e
    rw [List.length_cons, List.length_cons, evKs_len h2 e2]
  | .star a r, k, es, σ, h, h', vs, hm, e => by simp [mKs] at hm
end Ev

set_option Elab.async false
set_option linter.all false
set_option maxRecDepth 100000
set_option maxHeartbeats 8000000
/-! Ev5e: the check of an expression means what it says: all forms. -/
namespace Ev
open PySem L2 PyProof.Rows
section
variable {ca : Nat → Addr} {ev : Nat → Value} {fad : Nat → Addr} {ffd : Nat → FuncData} {B : Tab} {T : List (Addr × Str)} {n : Nat}
abbrev FacZ (ca : Nat → Addr) (ev : Nat → Value) (fad : Nat → Addr) (ffd : Nat → FuncData) (B : Tab) (k : Ck) (Z : Cx) : Prop := Fac Z.prog Z.w Z.K Z.mg Z.base ca ev fad ffd k.ti B
abbrev CalZ (ca : Nat → Addr) (fad : Nat → Addr) (ffd : Nat → FuncData) (B : Tab) (T : List (Addr × Str)) (n : Nat) (k : Ck) (Z : Cx) : Prop := CallOk Z.prog Z.w Z.K Z.mg Z.base ca T fad ffd k.ti B n
theorem gd_blk {k : Ck} {Z : Cx} {W : WX} (g : Gd T n k Z W) (s : Shared) (H : Hp) (sc : Scope) (C : Addr) (cl : List (Str × Addr)) (fp : List Addr) : Gd T n (k.blk sc) (Z.blk s H sc (compEnvC sc cl C Z.env) fp) Wn where
  calm := g.calm
  N := g.N
  nd := g.nd
  sc := by
    show (compEnvC sc cl C Z.env).scope = relS sc k.sc
    rw [← g.sc]
    rfl
  fn := fun x hx => by
    show (sc.names.lookup x == some .cell) = true
    have hx : sc.names.lookup x = some .cell := hx
    rw [hx]; rfl
  tk := LamX.takes0
  rm := g.rm
  rl := g.rl
  gd := g.gd
  lam := g.lam
theorem gd_lam {k : Ck} {Z : Cx} {W : WX} (g : Gd T n k Z W) {sc : Scope} (L : LamX.LamS Z.env.scope sc) (A : Around) (outer : List Env) (s : Shared) (H : Hp) (E : XK) (f c' : Addr) (hr : Room (lev n + 2) (A.deeper (LamX.lamEnv Z sc s.heap.objs.size f c'))) :
    Gd T n (k.lm sc) (LamX.lamCx Z A outer s H E sc f c') (fun c d _ H => E c d H) where
  calm := rfl
  N := g.N
  nd := g.nd
  sc := rfl
  fn := fun x hx => by
    have hx : sc.names.lookup x = some .cell := hx
    exact absurd rfl (L.own _ (PySem.mem_of_lookup hx)).2
  tk := takes_of rfl rfl rfl rfl
  rm := hr
  rl := fun z => (nomatch z)
  gd := fun z => (nomatch z)
  lam := fun z => (nomatch z)
theorem pa_len {k : Ck} {xs : Xs} {es : List Expr} {C : Cfg} {σ : Sl} {h h' : Hd} {vs : List D} (h1 : noStars es = true) (h2 : mXs k xs es = true) (e : evXs C xs σ h = some (.ok vs, h')) : vs.length = es.length := evXs_len h1 h2 e
theorem lc_eq (r : Option (List D × Hd)) : (match r with
    | some (ys, h1) => if ys.length ≤ szL then some (Rr.ok (D.lst ys), h1) else none
    | none => none) = (match (match r with
    | some (ys, h1) => if ys.length ≤ szL then some (Rr.ok ys, h1) else none
    | none => none) with
    | none => none
    | some (.ok a, h1) => ret (D.lst a) h1
    | some (.ex c pl, h1) => some (.ex c pl, h1)) := by
  cases r with
  | none => rfl
  | some q =>
    obtain ⟨ys, h1⟩ := q
    by_cases hz : ys.length ≤ szL
    · simp only [if_pos hz]; rfl
    · simp only [if_neg hz]
mutual
theorem sX : ∀ (x : X) {k : Ck} {Z : Cx} {W : WX} {e : Expr}, FacZ ca ev fad ffd B k Z → CalZ ca fad ffd B T n k Z → Gd T n k Z W → mX k x e = true → Both Z ca T W e (evX (cfgOf B n) x)
  | .var i, k, Z, W, e, Fa, co, g, h => by
    rw [mX] at h
    split at h
    · rename_i x p h1
      obtain ⟨h, h4⟩ := and2 h
      obtain ⟨h2, h3⟩ := and2 h
      obtain ⟨n1, n2, _⟩ := nmOk_ok h2
      rw [asName_ok h1]
      exact both_of (s_var (by rw [g.N]; exact of_dec h4) (g.vis h3) n1 n2) (by funext σ; first | (rw [evX]; done) | (rw [evX] <;> rfl)) rfl
    · cases h
  | .cst d, k, Z, W, e, Fa, co, g, h => by
    rw [mX] at h
    split at h
    · rename_i c j p h1
      rw [asConst_ok h1]
      exact both_of (cst_ok h) (by funext σ; first | (rw [evX]; done) | (rw [evX] <;> rfl)) rfl
    · cases h
  | .glb j, k, Z, W, e, Fa, co, g, h => by
    rw [mX] at h
    split at h
    · rename_i x p h1
      obtain ⟨h, h4⟩ := and2 h
      obtain ⟨h2, h3⟩ := and2 h
      obtain ⟨n1, n2, _⟩ := nmOk_ok h2
      rw [asName_ok h1]
      obtain ⟨u, v, d, e1, e2, e3, e4⟩ := Fa.cst x j (of_dec h4)
      exact both_of (s_const (pe_glob (glB_ok g h3) e1 e2 n1) e4) (by funext σ; rw [evX]; show opt (B.glb[j]?) = _; rw [e3]; rfl) rfl
    · cases h
  | .bin o a b, k, Z, W, e, Fa, co, g, h => by
    rw [mX] at h
    split at h
    · rename_i l q r p h1
      obtain ⟨h, h4⟩ := and2 h
      obtain ⟨h2, h3⟩ := and2 h
      rw [asBin_ok h1, ← of_dec h2]
      exact both_of (s_bin (sX a Fa co g h3).1 (sX b Fa co g h4).1) (by funext σ; first | (rw [evX]; done) | (rw [evX] <;> rfl)) rfl
    · cases h
  | .neg a, k, Z, W, e, Fa, co, g, h => by
    rw [mX] at h
    split at h
    · rename_i l p h1
      rw [asNeg_ok h1]
      exact both_of (s_neg (sX a Fa co g h).1) (by funext σ; first | (rw [evX]; done) | (rw [evX] <;> rfl)) rfl
    · cases h
  | .cmp o a b, k, Z, W, e, Fa, co, g, h => by
    rw [mX] at h
    split at h
    · rename_i l q r p h1
      obtain ⟨h, h5⟩ := and2 h
      obtain ⟨h, h4⟩ := and2 h
      obtain ⟨h2, h3⟩ := and2 h
      rw [asCmp1_ok h1, ← of_dec h2]
      exact both_cmp g.un (sX a Fa co g h4).1 (sX b Fa co g h5).1 (notT h3) (by funext σ; rw [evX] <;> rfl)
    · cases h
  | .chn o q a b c, k, Z, W, e, Fa, co, g, h => by
    rw [mX] at h
    split at h
    · rename_i l q1 q2 m r p h1
      obtain ⟨h, h7⟩ := and2 h
      obtain ⟨h, h6⟩ := and2 h
      obtain ⟨h, h5⟩ := and2 h
      obtain ⟨h, h4⟩ := and2 h
      obtain ⟨h2, h3⟩ := and2 h
      rw [asCmp2_ok h1, ← of_dec h2, ← of_dec h3]
      exact both_chn g.un (sX a Fa co g h5).1 (sX b Fa co g h6).1 (sX c Fa co g h7).1 (notT h4) (by funext σ; rw [evX] <;> rfl)
    · cases h
  | .nt a, k, Z, W, e, Fa, co, g, h => by
    rw [mX] at h
    split at h
    · rename_i l p h1
      rw [asNot_ok h1]
      exact both_bool (s_nt (sX a Fa co g h).1) (by funext σ; first | (rw [evX]; done) | (rw [evX] <;> rfl)) rfl
    · cases h
  | .and xs, k, Z, W, e, Fa, co, g, h => by
    rw [mX] at h
    split at h
    · rename_i es p h1
      obtain ⟨h2, h3⟩ := and2 h
      rw [asAnd_ok h1]
      exact both_bool (sAnd xs Fa co g h2 h3) (by funext σ; first | (rw [evX]; done) | (rw [evX] <;> rfl)) rfl
    · cases h
  | .or xs, k, Z, W, e, Fa, co, g, h => by
    rw [mX] at h
    split at h
    · rename_i es p h1
      obtain ⟨h2, h3⟩ := and2 h
      rw [asOr_ok h1]
      exact both_bool (sOr xs Fa co g h2 h3) (by funext σ; first | (rw [evX]; done) | (rw [evX] <;> rfl)) rfl
    · cases h
  | .ite t a b, k, Z, W, e, Fa, co, g, h => by
    rw [mX] at h
    split at h
    · rename_i c l r p h1
      obtain ⟨h, h4⟩ := and2 h
      obtain ⟨h2, h3⟩ := and2 h
      rw [asIf_ok h1]
      exact both_bool (s_ite (sT t Fa co g h2) (sX a Fa co g h3).1 (sX b Fa co g h4).1) (by funext σ; first | (rw [evX]; done) | (rw [evX] <;> rfl)) rfl
    · cases h
  | .tup xs, k, Z, W, e, Fa, co, g, h => by
    rw [mX] at h
    split at h
    · rename_i es j p h1
      rw [asTup_ok h1]
      exact both_of (s_tup (sXs xs Fa co g h)) (by funext σ; first | (rw [evX]; done) | (rw [evX] <;> rfl)) rfl
    · cases h
  | .lst xs, k, Z, W, e, Fa, co, g, h => by
    rw [mX] at h
    split at h
    · rename_i es p h1
      rw [asLst_ok h1]
      exact both_of (s_lst (sXs xs Fa co g h)) (by funext σ; first | (rw [evX]; done) | (rw [evX] <;> rfl)) rfl
    · cases h
  | .nlst xs, k, Z, W, e, Fa, co, g, h => by
    rw [mX] at h
    split at h
    · rename_i es p h1
      rw [asLst_ok h1]
      refine both_of (sF_lst (sXs xs Fa co g h)).own ?_ rfl
      funext σ
      rw [evX, bnd_assoc]
      congr 1
      funext vs
      by_cases hz : vs.length ≤ szL
      · rw [if_pos hz]; funext h; simp [bnd, ret, hz]
      · rw [if_neg hz]; funext h; simp [bnd, stuck, hz]
    · cases h
  | .sub a b, k, Z, W, e, Fa, co, g, h => by
    rw [mX] at h
    split at h
    · rename_i l r p h1
      obtain ⟨h, h4⟩ := and2 h
      obtain ⟨h2, h3⟩ := and2 h
      rw [asSub_ok h1]
      exact both_of (s_sub (sX a Fa co g h3).1 (sX b Fa co g h4).1 (plain_ok h2)) (by funext σ; first | (rw [evX]; done) | (rw [evX] <;> rfl)) rfl
    · cases h
  | .slc a lo hi, k, Z, W, e, Fa, co, g, h => by
    rw [mX] at h
    split at h
    · rename_i l r p h1
      split at h
      · rename_i x y p2 h5
        obtain ⟨h, h4⟩ := and2 h
        obtain ⟨h2, h3⟩ := and2 h
        rw [asSub_ok h1, asSlc_ok h5]
        exact both_of (s_slc (sX a Fa co g h2).1 (sO lo Fa co g h3) (sO hi Fa co g h4)) (by funext σ; first | (rw [evX]; done) | (rw [evX] <;> rfl)) rfl
      · cases h
    · cases h
  | .call f xs, k, Z, W, e, Fa, co, g, h => by
    rw [mX] at h
    split at h
    · rename_i x q es p h1
      obtain ⟨h, h7⟩ := and2 h
      obtain ⟨h, h6⟩ := and2 h
      obtain ⟨h, h5⟩ := and2 h
      obtain ⟨h, h4⟩ := and2 h
      obtain ⟨h2, h3⟩ := and2 h
      obtain ⟨n1, n2, _⟩ := nmOk_ok h2
      rw [asCalN_ok h1]
      obtain ⟨fi, e1, e2, e3⟩ := Fa.fn x f (of_dec h4)
      have hF := co f fi e1
      have hlen : ∀ ds h, callN B n f ds h ≠ none → ds.length = fi.ps.length := fun ds h z => callN_lenF Fa.np e1 z
      have hr := g.rm.mono (show lev n ≤ lev n + 2 by omega)
      cases es with
      | nil =>
        cases xs with
        | nil => exact both_of (s_call0 hF hlen hr (gzB_ok g h5 e1) g.tk (glB_ok g h3) e2 e3 (Fa.bi f fi e1) n1) (by funext σ; rw [evX, evXs]) rfl
        | cons _ _ => simp [mXs] at h7
        | star _ _ => simp [mXs] at h7
      | cons a es =>
        obtain ⟨g1, g2⟩ := and2 h6
        exact both_of (s_call hF hlen hr (gzB_ok g h5 e1) g.tk (glB_ok g h3) e2 e3 (Fa.bi f fi e1) (sXs xs Fa co g h7) n1 (star_no (notT g1)) (stars_none g2)) (by funext σ; first | (rw [evX]; done) | (rw [evX] <;> rfl)) rfl
    · cases h
  | .callk f pm xs, k, Z, W, e, Fa, co, g, h => by
    rw [mX] at h
    split at h
    · rename_i gg kws p h1
      split at h
      · rename_i x q ks h8 h9
        obtain ⟨h, h7⟩ := and2 h
        obtain ⟨h, h6⟩ := and2 h
        obtain ⟨h, h5⟩ := and2 h
        obtain ⟨h, h4⟩ := and2 h
        obtain ⟨h2, h3⟩ := and2 h
        obtain ⟨n1, n2, _⟩ := nmOk_ok h2
        rw [asCall_ok h1, asName_ok h8]
        obtain ⟨fi, e1, e2, e3⟩ := Fa.fn x f (of_dec h4)
        obtain ⟨fi', e1', hkw⟩ := Fa.kw f 0 ks pm (of_dec h6)
        rw [e1] at e1'; cases e1'
        obtain ⟨q1, q2, q3⟩ := kwNames_all (pos := p) (env := Z.env) h9
        exact both_of (s_callk (co f fi e1) (fun ds h z => callN_lenF Fa.np e1 z) (g.rm.mono (by omega)) (gzB_ok g h5 e1) g.tk (glB_ok g h3) e2 e3 hkw (sKs xs Fa co g h7) (kwNames_len h9) q1 q2 (by rw [q3]; rfl) n1 (fun σ h vs h' z => evKs_len h7 z)) (by funext σ; first | (rw [evX]; done) | (rw [evX] <;> rfl)) rfl
      · cases h
    · cases h
  | .cb b xs, k, Z, W, e, Fa, co, g, h => by
    rw [mX] at h
    split at h
    · rename_i x q es p h1
      obtain ⟨h, h7⟩ := and2 h
      obtain ⟨h, h6⟩ := and2 h
      obtain ⟨h, h5⟩ := and2 h
      obtain ⟨h, h4⟩ := and2 h
      obtain ⟨h2, h3⟩ := and2 h
      rw [asCalN_ok h1]
      obtain ⟨b1, b2⟩ := blt_ok Fa g h3
      obtain ⟨c1, c2, c3, c4, c5⟩ := ok_cb (ca := ca) (T := T) g.calm g.un (of_dec h2) (fun z => by
        subst z
        rcases Bool.or_eq_true_iff.mp h6 with z | z
        · exact g.gd z
        · exact absurd rfl (of_dec z))
      cases es with
      | nil => cases h5
      | cons a es =>
        obtain ⟨g1, g2⟩ := and2 h4
        exact both_of (s_cb b1 b2 c4 c5 (sXs xs Fa co g h7) (star_no (notT g1)) (stars_none g2) c1 c2 c3) (by funext σ; first | (rw [evX]; done) | (rw [evX] <;> rfl)) rfl
    · cases h
  | .mb m o xs, k, Z, W, e, Fa, co, g, h => by
    rw [mX] at h
    split at h
    · rename_i l nn q es p h1
      obtain ⟨h, h6⟩ := and2 h
      obtain ⟨h, h5⟩ := and2 h
      obtain ⟨h2, h4⟩ := and2 h
      rw [asMeth_ok h1, ← of_dec h2]
      unfold methOk at h4
      obtain ⟨h4, m4⟩ := and2 h4
      obtain ⟨h4, m3⟩ := and2 h4
      obtain ⟨m1, m2⟩ := and2 h4
      obtain ⟨c1, c2, c3, c4⟩ := ok_mb (Z := Z) (ca := ca) (T := T) (m := m)
      cases es with
      | nil =>
        cases xs with
        | nil => exact both_of (s_mb0 c1 c2 c3 c4 (sX o Fa co g h5).1 (base_ok m1) m2) (by funext σ; rw [evX, evXs]) rfl
        | cons _ _ => simp [mXs] at h6
        | star _ _ => simp [mXs] at h6
      | cons a es =>
        obtain ⟨g1, g2⟩ := and2 m3
        refine both_of (s_mb c1 c2 c3 c4 (sX o Fa co g h5).1 (sXs xs Fa co g h6) (base_ok m1) ?_ m2 (star_no (notT g1)) (stars_none g2)) (by funext σ; first | (rw [evX]; done) | (rw [evX] <;> rfl)) rfl
        rw [stars_all m3]
        have := of_dec m4
        simp only [Bool.true_and]
        show (true && decide _) = true
        rw [Bool.true_and]
        exact decide_eq_true this
    · cases h
  | .fld o f, k, Z, W, e, Fa, co, g, h => by
    rw [mX] at h
    split at h
    · rename_i l nn p h1
      obtain ⟨h, h4⟩ := and2 h
      obtain ⟨h2, h3⟩ := and2 h
      rw [asAttr_ok h1, ← of_dec h2]
      exact both_of (s_fld (C := cfgOf B n) Fa.flds (sX o Fa co g h4).1 (base_ok h3)) (by funext σ; first | (rw [evX]; done) | (rw [evX] <;> rfl)) rfl
    · cases h
  | .me c f m o xs, k, Z, W, e, Fa, co, g, h => by
    rw [mX] at h
    split at h
    · rename_i l nn q es p h1
      obtain ⟨h, h7⟩ := and2 h
      obtain ⟨h, h6⟩ := and2 h
      obtain ⟨h, h5⟩ := and2 h
      obtain ⟨h, h4⟩ := and2 h
      obtain ⟨h2, h3⟩ := and2 h
      rw [asMeth_ok h1, ← of_dec h2]
      unfold methOk at h3
      obtain ⟨h3, m4⟩ := and2 h3
      obtain ⟨h3, m3⟩ := and2 h3
      obtain ⟨m1, m2⟩ := and2 h3
      obtain ⟨c1, fi, e1, c2⟩ := Fa.ms c m f (of_dec h4)
      have hF := co f fi e1
      have hlen : ∀ ds h, callN B n f ds h ≠ none → ds.length = fi.ps.length := fun ds h z => callN_lenF Fa.np e1 z
      have hr := g.rm.mono (show lev n ≤ lev n + 2 by omega)
      have mf := meth_eq (o := l) (m := St m) (apos := q) (pos := p) (es := es) (kws := []) (env := Z.env) m1 m2 (methForm (ks := []) m3 rfl (of_dec m4))
      cases es with
      | nil =>
        cases xs with
        | nil => exact both_of (s_me0 hF hlen hr (gzB_ok g h5 e1) g.tk c1 c2 (Fa.bi f fi e1) (sX o Fa co g h6).1 mf) (by funext σ; first | (rw [evX, evXs]; done) | (rw [evX, evXs]; rfl)) rfl
        | cons _ _ => simp [mXs] at h7
        | star _ _ => simp [mXs] at h7
      | cons a es =>
        obtain ⟨g1, g2⟩ := and2 m3
        exact both_of (s_me hF hlen hr (gzB_ok g h5 e1) g.tk c1 c2 (Fa.bi f fi e1) (sX o Fa co g h6).1 (sXs xs Fa co g h7) (star_no (notT g1)) (stars_none g2) mf) (by funext σ; first | (rw [evX]; done) | (rw [evX] <;> rfl)) rfl
    · cases h
  | .mek c f m pm o xs, k, Z, W, e, Fa, co, g, h => by
    rw [mX] at h
    split at h
    · rename_i l nn q kws p h1
      split at h
      · rename_i ks h9
        obtain ⟨h, h8⟩ := and2 h
        obtain ⟨h, h7⟩ := and2 h
        obtain ⟨h, h6⟩ := and2 h
        obtain ⟨h, h5⟩ := and2 h
        obtain ⟨h, h4⟩ := and2 h
        obtain ⟨h2, h3⟩ := and2 h
        rw [asMeth_ok h1, ← of_dec h2]
        unfold methOk at h3
        obtain ⟨h3, m4⟩ := and2 h3
        obtain ⟨h3, m3⟩ := and2 h3
        obtain ⟨m1, m2⟩ := and2 h3
        obtain ⟨c1, fi, e1, c2⟩ := Fa.ms c m f (of_dec h4)
        obtain ⟨fi', e1', hkw⟩ := Fa.kw f 1 ks pm (of_dec h6)
        rw [e1] at e1'; cases e1'
        obtain ⟨q1, q2, q3⟩ := kwNames_all (pos := p) (env := Z.env) h9
        have mf := meth_eq (o := l) (m := St m) (apos := q) (pos := p) (es := []) (kws := kws) (env := Z.env) m1 m2 (methForm m3 h9 (of_dec m4))
        exact both_of (s_mek (co f fi e1) (fun ds h z => callN_lenF Fa.np e1 z) (g.rm.mono (by omega)) (gzB_ok g h5 e1) g.tk c1 c2 hkw (sX o Fa co g h7).1 (sKs xs Fa co g h8) (kwNames_len h9) q1 q2 (by rw [q3]; rfl) (fun σ h vs h' z => evKs_len h8 z) mf) (by funext σ; first | (rw [evX]; done) | (rw [evX] <;> rfl)) rfl
      · cases h
    · cases h
  | .mk c f xs, k, Z, W, e, Fa, co, g, h => by
    rw [mX] at h
    split at h
    · rename_i x q es p h1
      obtain ⟨h, h6⟩ := and2 h
      obtain ⟨h, h5⟩ := and2 h
      obtain ⟨h, h4⟩ := and2 h
      obtain ⟨h2, h3⟩ := and2 h
      obtain ⟨n1, n2, _⟩ := nmOk_ok h2
      rw [asCalN_ok h1]
      obtain ⟨e2, e3, fi, e1, e4, e5⟩ := Fa.cls x c f (of_dec h4)
      have hF := co f fi e1
      rw [e4] at hF
      have hlen : ∀ ds h, callN B n f ds h ≠ none → ds.length = fi.ps.length := fun ds h z => callN_lenF Fa.np e1 z
      have hr := g.rm.mono (show lev n + 1 ≤ lev n + 2 by omega)
      cases es with
      | nil =>
        cases xs with
        | nil => exact both_of (s_mk0 e5 hF hlen hr g.tk (glB_ok g h3) e2 e3 (Fa.bi f fi e1) n1) (by funext σ; first | (rw [evX, evXs]; done) | (rw [evX, evXs]; rfl)) rfl
        | cons _ _ => simp [mXs] at h6
        | star _ _ => simp [mXs] at h6
      | cons a es =>
        obtain ⟨g1, g2⟩ := and2 h5
        exact both_of (s_mk e5 hF hlen hr g.tk (glB_ok g h3) e2 e3 (Fa.bi f fi e1) (sXs xs Fa co g h6) n1 (star_no (notT g1)) (stars_none g2)) (by funext σ; first | (rw [evX]; done) | (rw [evX] <;> rfl)) rfl
    · cases h
  | .mkk c f pm xs, k, Z, W, e, Fa, co, g, h => by
    rw [mX] at h
    split at h
    · rename_i gg kws p h1
      split at h
      · rename_i x q ks h8 h9
        obtain ⟨h, h6⟩ := and2 h
        obtain ⟨h, h5⟩ := and2 h
        obtain ⟨h, h4⟩ := and2 h
        obtain ⟨h2, h3⟩ := and2 h
        obtain ⟨n1, n2, _⟩ := nmOk_ok h2
        rw [asCall_ok h1, asName_ok h8]
        obtain ⟨e2, e3, fi, e1, e4, e5⟩ := Fa.cls x c f (of_dec h4)
        obtain ⟨fi', e1', hkw⟩ := Fa.km f ks pm (of_dec h5)
        rw [e1] at e1'; cases e1'
        have hF := co f fi e1
        rw [e4] at hF
        obtain ⟨q1, q2, q3⟩ := kwNames_all (pos := p) (env := Z.env) h9
        exact both_of (s_mkk e5 hF (fun ds h z => callN_lenF Fa.np e1 z) (g.rm.mono (by omega)) g.tk (glB_ok g h3) e2 e3 hkw (sKs xs Fa co g h6) (kwNames_len h9) q1 q2 (by rw [q3]; rfl) n1 (fun σ h vs h' z => evKs_len h6 z)) (by funext σ; first | (rw [evX]; done) | (rw [evX] <;> rfl)) rfl
      · cases h
    · cases h
  | .isi a q, k, Z, W, e, Fa, co, g, h => by
    rw [mX] at h
    split at h
    · rename_i x qq l r p h1
      obtain ⟨h, h7⟩ := and2 h
      obtain ⟨h, h6⟩ := and2 h
      obtain ⟨h, h5⟩ := and2 h
      obtain ⟨h, h4⟩ := and2 h
      obtain ⟨h2, h3⟩ := and2 h
      have hx := of_dec h2
      subst hx
      rw [asCalN_ok h1]
      obtain ⟨b1, b2⟩ := blt_ok Fa g h3
      have s1 : starEach [l, r] Z.env = (false, eval l Z.env) :: starEach [r] Z.env := star_no (notT h4)
      have s2 : starEach [r] Z.env = (false, eval r Z.env) :: starEach [] Z.env := star_no (notT h5)
      have s3 : (backTo p (starEach [r] Z.env)).any (·.1) = false := stars_none (by simp [noStars, notT h5])
      have ha := (sX a Fa co g h6).1
      cases q with
      | cls c =>
        simp only at h7
        split at h7
        · rename_i y py h8
          obtain ⟨h7, g4⟩ := and2 h7
          obtain ⟨h7, g3⟩ := and2 h7
          obtain ⟨g1, g2⟩ := and2 h7
          obtain ⟨n1, n2, _⟩ := nmOk_ok g1
          unfold isCls at g4
          split at g4
          · rename_i c' f' h9
            have := beq_iff_eq.mp g4
            subst this
            obtain ⟨e2, e3, _⟩ := Fa.cls y c' f' h9
            rw [asName_ok h8] at s1 s2 s3 ⊢
            exact both_of (s_isiC (Fa.isc c' (by simpa using g3)) b1 b2 ha (pe_glob (glB_ok g g2) e2 rfl n1) s1 s2 s3) (by funext σ; first | (rw [evX]; done) | (rw [evX] <;> rfl)) rfl
          · cases g4
        · cases h7
      | intStr =>
        simp only at h7
        split at h7
        · rename_i r1 r2 nn pp h8
          obtain ⟨h7, g4⟩ := and2 h7
          obtain ⟨h7, g3⟩ := and2 h7
          obtain ⟨g1, g2⟩ := and2 h7
          rw [asTup_ok h8] at s1 s2 s3 ⊢
          exact both_of (s_isiIS b1 b2 ha (tyB_ok (nm := "int") Fa g g3 rfl (by decide) (by decide)) (tyB_ok (nm := "str") Fa g g4 rfl (by decide) (by decide)) s1 s2 (star_no (notT g1)) (star_no (notT g2)) s3) (by funext σ; first | (rw [evX]; done) | (rw [evX] <;> rfl)) rfl
        · cases h7
      | int => exact both_of (s_isi (k := .int) (.inl rfl) b1 b2 ha (tyB_ok (nm := "int") Fa g h7 rfl (by decide) (by decide)) s1 s2 s3) (by funext σ; first | (rw [evX]; done) | (rw [evX] <;> rfl)) rfl
      | bool => exact both_of (s_isi (k := .bool) (.inr (.inl rfl)) b1 b2 ha (tyB_ok (nm := "bool") Fa g h7 rfl (by decide) (by decide)) s1 s2 s3) (by funext σ; first | (rw [evX]; done) | (rw [evX] <;> rfl)) rfl
      | str => exact both_of (s_isi (k := .str) (.inr (.inr (.inl rfl))) b1 b2 ha (tyB_ok (nm := "str") Fa g h7 rfl (by decide) (by decide)) s1 s2 s3) (by funext σ; first | (rw [evX]; done) | (rw [evX] <;> rfl)) rfl
      | tuple => exact both_of (s_isi (k := .tuple) (.inr (.inr (.inr rfl))) b1 b2 ha (tyB_ok (nm := "tuple") Fa g h7 rfl (by decide) (by decide)) s1 s2 s3) (by funext σ; first | (rw [evX]; done) | (rw [evX] <;> rfl)) rfl
    · cases h
  | .lc vs gg it t el, k, Z, W, e, Fa, co, g, h => by
    rw [mX] at h
    split at h
    · rename_i elt tg iter ifs sc p h1
      obtain ⟨h, h8⟩ := and2 h
      obtain ⟨h, h7⟩ := and2 h
      obtain ⟨h, h6⟩ := and2 h
      obtain ⟨h, h5⟩ := and2 h
      obtain ⟨h, h4⟩ := and2 h
      obtain ⟨h2, h3⟩ := and2 h
      rw [asLc_ok h1]
      have ev2 : (ownsOf k.N vs).map (·.2) = vs := of_dec h2
      have blk := blkOk_by h3
      rw [← g.N, ← g.sc] at blk
      have hF : pF Z ca T W (.ListComp elt [⟨tg, iter, ifs, 0⟩] sc p) (lcM (evIt (cfgOf B n) it) (evTg (cfgOf B n) gg) (evT (cfgOf B n) t) (evX (cfgOf B n) el) vs) := by
        rw [← ev2] at h6
        have := s_lc (mi := evIt (cfgOf B n) it) (mg := evTg (cfgOf B n) gg) (mt := evT (cfgOf B n) t) (me := evX (cfgOf B n) el) (ifs := ifs) (pos := p) g.calm g.nd (sIt it Fa co g h5) blk (fun s H C cl fp => by rw [g.N]; exact sTg (k := k.blk sc) (Z := Z.blk s H sc (compEnvC sc cl C Z.env) fp) gg Fa co (gd_blk g s H sc C cl fp) h6)
          (fun s H C cl fp => by
            cases ifs with
            | nil =>
              cases t <;> simp [isTT] at h7
              refine ⟨fun pins s σ H Q I hh => pts_nil.run pins s σ H Q I ?_⟩
              obtain ⟨L0, ρ, σd, hd, r, rs, f⟩ := hh
              have e1 : evT (cfgOf B n) .tt σd = ret true := by rw [evT]
              rw [e1] at f
              exact Fin.ret r f true rfl
            | cons c cs =>
              cases cs with
              | nil => exact pts_one (sT (k := k.blk sc) (Z := Z.blk s H sc (compEnvC sc cl C Z.env) fp) t Fa co (gd_blk g s H sc C cl fp) h7)
              | cons _ _ => cases h7)
          (fun s H C cl fp => (sX (k := k.blk sc) (Z := Z.blk s H sc (compEnvC sc cl C Z.env) fp) el Fa co (gd_blk g s H sc C cl fp) h8).1) (folded_ok h4)
        rw [g.N, ev2] at this
        exact this
      refine both_of hF.val ?_ rfl
      funext σ
      rw [evX, lcM, bnd_assoc]
      congr 1
      funext its h
      unfold bnd
      dsimp only
      generalize compL (turnF (evTg (cfgOf B n) gg) (evT (cfgOf B n) t) (evX (cfgOf B n) el) vs σ) its h = r
      cases r with
      | none => rfl
      | some q =>
        obtain ⟨ys, h1⟩ := q
        by_cases hz : ys.length ≤ szL
        · simp only [if_pos hz]; rfl
        · simp only [if_neg hz]
    · cases h
  | .lc2 vs vs1 gg it t gg1 it1 t1 el, k, Z, W, e, Fa, co, g, h => by
    rw [mX] at h
    split at h
    · rename_i elt tg iter ifs tg1 iter1 ifs1 sc p h1
      obtain ⟨h, h12⟩ := and2 h
      obtain ⟨h, h11⟩ := and2 h
      obtain ⟨h, h10⟩ := and2 h
      obtain ⟨h, h9⟩ := and2 h
      obtain ⟨h, h8⟩ := and2 h
      obtain ⟨h, h7⟩ := and2 h
      obtain ⟨h, h6⟩ := and2 h
      obtain ⟨h, h5⟩ := and2 h
      obtain ⟨h, h4⟩ := and2 h
      obtain ⟨h, h3⟩ := and2 h
      obtain ⟨h2, hv⟩ := and2 h
      rw [asLc2_ok h1]
      have ev2 : (ownsOf k.N vs).map (·.2) = vs := of_dec h2
      have blk := blkOk_by h3
      rw [← g.N, ← g.sc] at blk
      have hv1 : ∀ i ∈ vs1, i ∈ (ownsOf Z.N vs).map (·.2) := fun i hi => by
        rw [g.N, ev2]
        have := (List.all_eq_true.mp hv) i hi
        simpa using this
      have hifs : ∀ (t : Ev.T) (ifs : List Expr) (hh : (match ifs with | [] => isTT t | [c] => mT (k.blk sc) t c | _ => false) = true) (rec_ : ∀ c, mT (k.blk sc) t c = true → ∀ (s : Shared) (H : Hp) (C : Addr) (cl : List (Str × Addr)) (fp : List Addr), pT (Z.blk s H sc (compEnvC sc cl C Z.env) fp) ca T Wn c (evT (cfgOf B n) t)),
          ∀ (s : Shared) (H : Hp) (C : Addr) (cl : List (Str × Addr)) (fp : List Addr), PTs (Z.blk s H sc (compEnvC sc cl C Z.env) fp) ifs (rdB Z.K ca T Wn (evT (cfgOf B n) t)) := fun t ifs hh rec_ s H C cl fp => by
        cases ifs with
        | nil =>
          cases t <;> simp [isTT] at hh
          refine ⟨fun pins s σ H Q I hh => pts_nil.run pins s σ H Q I ?_⟩
          obtain ⟨L0, ρ, σd, hd, r, rs, f⟩ := hh
          have e1 : evT (cfgOf B n) .tt σd = ret true := by rw [evT]
          rw [e1] at f
          exact Fin.ret r f true rfl
        | cons c cs =>
          cases cs with
          | nil => exact pts_one (rec_ c hh s H C cl fp)
          | cons _ _ => cases hh
      have hX : pX Z ca T W (.ListComp elt [⟨tg, iter, ifs, 0⟩, ⟨tg1, iter1, ifs1, 0⟩] sc p) (lc2M (evIt (cfgOf B n) it) (evTg (cfgOf B n) gg) (evT (cfgOf B n) t) (evIt (cfgOf B n) it1) (evTg (cfgOf B n) gg1) (evT (cfgOf B n) t1) (evX (cfgOf B n) el) vs vs1) := by
        rw [← ev2] at h7
        have := s_lc2 (mi := evIt (cfgOf B n) it) (mg := evTg (cfgOf B n) gg) (mt := evT (cfgOf B n) t) (mi1 := evIt (cfgOf B n) it1) (mg1 := evTg (cfgOf B n) gg1) (mt1 := evT (cfgOf B n) t1) (me := evX (cfgOf B n) el) (ifs := ifs) (ifs1 := ifs1) (vs1 := vs1) (pos := p) g.calm g.nd (sIt it Fa co g h6) blk hv1
          (fun s H C cl fp => by rw [g.N]; exact sTg (k := k.blk sc) (Z := Z.blk s H sc (compEnvC sc cl C Z.env) fp) gg Fa co (gd_blk g s H sc C cl fp) h7)
          (hifs t ifs h8 fun c hc s H C cl fp => sT (k := k.blk sc) (Z := Z.blk s H sc (compEnvC sc cl C Z.env) fp) t Fa co (gd_blk g s H sc C cl fp) hc)
          (fun s H C cl fp => sIt (k := k.blk sc) (Z := Z.blk s H sc (compEnvC sc cl C Z.env) fp) it1 Fa co (gd_blk g s H sc C cl fp) h9)
          (fun s H C cl fp => sTg (k := k.blk sc) (Z := Z.blk s H sc (compEnvC sc cl C Z.env) fp) gg1 Fa co (gd_blk g s H sc C cl fp) h10)
          (hifs t1 ifs1 h11 fun c hc s H C cl fp => sT (k := k.blk sc) (Z := Z.blk s H sc (compEnvC sc cl C Z.env) fp) t1 Fa co (gd_blk g s H sc C cl fp) hc)
          (fun s H C cl fp => (sX (k := k.blk sc) (Z := Z.blk s H sc (compEnvC sc cl C Z.env) fp) el Fa co (gd_blk g s H sc C cl fp) h12).1) (folded_ok h4) (fun env => folded_ok h5)
        rw [g.N, ev2] at this
        exact this
      exact both_of hX (by funext σ; first | (rw [evX]; done) | (rw [evX] <;> rfl)) rfl
    · cases h
  | .tryl f a, k, Z, W, e, Fa, co, g, h => by
    rw [mX] at h
    split at h
    · rename_i x q l p h1
      obtain ⟨h, h5⟩ := and2 h
      obtain ⟨h, h4⟩ := and2 h
      obtain ⟨h2, h3⟩ := and2 h
      split at h5
      · rename_i pa body sc pl h6 h7
        obtain ⟨h5, h10⟩ := and2 h5
        obtain ⟨h8, h9⟩ := and2 h5
        rw [asCalN_ok h1, asLam_ok h6]
        obtain ⟨cn, fl, ret', t1, t2, aa, ga, pg, bg, sg, dV, kV, doc, pm, cdv, ct, oc, an, od, osl, Ng, m1, m2, m3, m4, m5, m6, m7, m8, m9, m10, m11, m12⟩ := Fa.told x f (of_dec h4)
        obtain ⟨cc, P, qq, l1, l2, l3, l4, l5⟩ := g.lam h7
        have L := LamX.lamS_by h9
        rw [← g.sc] at L
        obtain ⟨d1, d2⟩ := lamA_ok (env := Z.env) h8
        have hr4 := g.rl h7
        refine both_of (s_tryl (told := some (cn, fl, .str ret')) (ret := ret') (k := lev n + 2) Fa.ex t2 (glB_ok g h3) m1 m2 m3 m4 m5 m6 m7 m8 (m12 Z _ rfl rfl) l3 l1 (by rw [l2]; exact l4) (by rw [l2]; exact l5) hr4 L d1 (d2 body sc)
          (fun A outer s H E f c' hr => (sX (k := k.lm sc) (Z := LamX.lamCx Z A outer s H E sc f c') a Fa co (gd_lam g L A outer s H E f c' hr) h10).1) m9 m10 m11) ?_ rfl
        funext σ h
        rw [evX]
        simp only [t1]
        try rfl
      · cases h5
    · cases h
  | .olist a, k, Z, W, e, Fa, co, g, h => by
    rw [mX] at h
    split at h
    · rename_i x q l p h1
      obtain ⟨h, h5⟩ := and2 h
      obtain ⟨h, h4⟩ := and2 h
      obtain ⟨h2, h3⟩ := and2 h
      have hx := of_dec h2
      subst hx
      rw [asCalN_ok h1]
      obtain ⟨b1, b2⟩ := blt_ok Fa g h3
      refine both_of (sF_list b1 b2 rfl (by decide) (by decide) (sX a Fa co g h5).1 (star_no (notT h4)) rfl).own ?_ rfl
      funext σ
      rw [evX, bnd_assoc]
      congr 1
      funext x h
      cases e : seqD h x with
      | none => simp [bnd, opt, stuck, e]
      | some xs => simp [bnd, opt, ret, e]
    · cases h
  | .lrng a, k, Z, W, e, Fa, co, g, h => by
    rw [mX] at h
    split at h
    · rename_i x q l p h1
      obtain ⟨h, h5⟩ := and2 h
      obtain ⟨h2, h3⟩ := and2 h
      have hx := of_dec h2
      subst hx
      split at h5
      · rename_i y q2 r p2 h6
        obtain ⟨h, h10⟩ := and2 h5
        obtain ⟨h, h9⟩ := and2 h
        obtain ⟨h7, h8⟩ := and2 h
        have hy := of_dec h7
        subst hy
        rw [asCalN_ok h1, asCalN_ok h6]
        obtain ⟨b1, b2⟩ := blt_ok Fa g h3
        obtain ⟨b3, b4⟩ := blt_ok Fa g h8
        refine both_of (sF_lrng g.calm b1 b2 b3 b4 (sX a Fa co g h10).1 (star_no (notT h9)) rfl).val ?_ rfl
        funext σ
        rw [evX, bnd_assoc]
        congr 1
        funext x
        cases e : rngL [x] with
        | none => rfl
        | some xs => rfl
      · cases h5
    · cases h
  | .olr a, k, Z, W, e, Fa, co, g, h => by
    rw [mX] at h
    split at h
    · rename_i x q l p h1
      obtain ⟨h, h5⟩ := and2 h
      obtain ⟨h2, h3⟩ := and2 h
      have hx := of_dec h2
      subst hx
      split at h5
      · rename_i y q2 r p2 h6
        obtain ⟨h, h10⟩ := and2 h5
        obtain ⟨h, h9⟩ := and2 h
        obtain ⟨h7, h8⟩ := and2 h
        have hy := of_dec h7
        subst hy
        rw [asCalN_ok h1, asCalN_ok h6]
        obtain ⟨b1, b2⟩ := blt_ok Fa g h3
        obtain ⟨b3, b4⟩ := blt_ok Fa g h8
        refine both_of (sF_lrng g.calm b1 b2 b3 b4 (sX a Fa co g h10).1 (star_no (notT h9)) rfl).own ?_ rfl
        funext σ
        rw [evX, bnd_assoc]
        congr 1
        funext x
        cases e : rngL [x] with
        | none => rfl
        | some xs => rfl
      · cases h5
    · cases h
  | .lset a, k, Z, W, e, Fa, co, g, h => by
    rw [mX] at h
    split at h
    · rename_i x q l p h1
      obtain ⟨h, h5⟩ := and2 h
      obtain ⟨h2, h3⟩ := and2 h
      have hx := of_dec h2
      subst hx
      split at h5
      · rename_i y q2 r p2 h6
        obtain ⟨h, h10⟩ := and2 h5
        obtain ⟨h, h9⟩ := and2 h
        obtain ⟨h7, h8⟩ := and2 h
        have hy := of_dec h7
        subst hy
        rw [asCalN_ok h1, asCalN_ok h6]
        obtain ⟨b1, b2⟩ := blt_ok Fa g h3
        obtain ⟨b3, b4⟩ := blt_ok Fa g h8
        exact both_of (s_lset g.calm b1 b2 b3 b4 (sX a Fa co g h10).1 (star_no (notT h9))) (by funext σ; first | (rw [evX]; done) | (rw [evX] <;> rfl)) rfl
      · cases h5
    · cases h
  | .oeq neg c f a b, k, Z, W, e, Fa, co, g, h => by
    rw [mX] at h
    split at h
    · rename_i l p r pos h1
      obtain ⟨h, h6⟩ := and2 h
      obtain ⟨h, h5⟩ := and2 h
      obtain ⟨h, h4⟩ := and2 h
      obtain ⟨h2, h3⟩ := and2 h
      rw [asCmp1_ok h1]
      have e1 := of_dec h2
      obtain ⟨E, fi, q1, q2, q3⟩ := Fa.eqc c f (of_dec h4)
      have FE := co f fi q1
      rw [q2] at FE
      have hb := Fa.bi f fi q1
      have hu := g.un
      cases neg with
      | false =>
        have e2 : CmpOp.Eq = p := e1
        subst e2
        have ho := op_oeq (c := c) E FE q3 (g.rm.mono (by omega)) hb g.tk (by omega)
        exact both_oeq ho (sX a Fa co g h5).1 (sX b Fa co g h6).1 (notT h3) (by funext σ; rw [evX])
      | true =>
        have e2 : CmpOp.NotEq = p := e1
        subst e2
        have ho := op_one (c := c) E FE q3 (g.rm.mono (by omega)) hb g.tk (by omega) (passes_call (E := fun _ _ _ => False) g.tk (fun _ _ _ _ z => z.elim))
        exact both_oeq ho (sX a Fa co g h5).1 (sX b Fa co g h6).1 (notT h3) (by funext σ; rw [evX])
    · cases h
  | .rev a, k, Z, W, e, Fa, co, g, h => by
    rw [mX] at h
    split at h
    · rename_i l j p4 p5 p6 pos h1
      rw [asRev_ok h1]
      refine both_of (s_rev (sX a Fa co g h).1) ?_ rfl
      funext σ
      first | (rw [evX]; done) | (rw [evX] <;> rfl)
    · cases h
  | .srtR a, k, Z, W, e, Fa, co, g, h => by
    rw [mX] at h
    split at h
    · rename_i gg l n ke kp p h1
      split at h
      · rename_i x q j1 p1 h8 h9
        obtain ⟨h, h6⟩ := and2 h
        obtain ⟨h, h5⟩ := and2 h
        obtain ⟨h, h4⟩ := and2 h
        obtain ⟨h2, h3⟩ := and2 h
        rw [asCall_ok h1, asName_ok h8, asConst_ok h9]
        have e1 := of_dec h2
        have e2 := of_dec h4
        subst e1 e2
        obtain ⟨b1, b2⟩ := blt_ok Fa g h3
        exact both_of (s_srtR b1 b2 (sX a Fa co g h6).1 (star_no (notT h5))) (by funext σ; rw [evX]) rfl
      · cases h
    · cases h
  | .din j a, k, Z, W, e, Fa, co, g, h => by
    rw [mX] at h
    split at h
    · rename_i l q r p h1
      obtain ⟨h2, h3⟩ := and2 h
      split at h3
      · rename_i x px h4
        obtain ⟨h, h8⟩ := and2 h3
        obtain ⟨h, h7⟩ := and2 h
        obtain ⟨h5, h6⟩ := and2 h
        obtain ⟨n1, n2, _⟩ := nmOk_ok h5
        rw [asCmp1_ok h1, ← of_dec h2, asName_ok h4]
        obtain ⟨d, e1, e2⟩ := Fa.dct x j (of_dec h7)
        exact both_din e2 (sX a Fa co g h8).1 (pe_glob (glB_ok g h6) e1 rfl n1) rfl (by funext σ; rw [evX] <;> rfl)
      · cases h3
    · cases h
  | .dget j a, k, Z, W, e, Fa, co, g, h => by
    rw [mX] at h
    split at h
    · rename_i l r p h1
      obtain ⟨h2, h3⟩ := and2 h
      split at h3
      · rename_i x px h4
        obtain ⟨h, h8⟩ := and2 h3
        obtain ⟨h, h7⟩ := and2 h
        obtain ⟨h5, h6⟩ := and2 h
        obtain ⟨n1, n2, _⟩ := nmOk_ok h5
        rw [asSub_ok h1, asName_ok h4]
        obtain ⟨d, e1, e2⟩ := Fa.dct x j (of_dec h7)
        exact both_of (s_dget e2 (sX a Fa co g h8).1 (pe_glob (glB_ok g h6) e1 rfl n1) (plain_ok h2)) (by funext σ; first | (rw [evX]; done) | (rw [evX] <;> rfl)) rfl
      · cases h3
    · cases h
theorem sXs : ∀ (xs : Xs) {k : Ck} {Z : Cx} {W : WX} {es : List Expr}, FacZ ca ev fad ffd B k Z → CalZ ca fad ffd B T n k Z → Gd T n k Z W → mXs k xs es = true → pA Z ca T W es (evXs (cfgOf B n) xs)
  | .nil, k, Z, W, es, Fa, co, g, h => by
    cases es with
    | nil =>
      have e : evXs (cfgOf B n) .nil = fun _ => ret [] := by funext σ; rw [evXs]
      rw [e]; exact s_anil
    | cons _ _ => simp [mXs] at h
  | .cons a r, k, Z, W, es, Fa, co, g, h => by
    cases es with
    | nil => simp [mXs] at h
    | cons x es =>
      rw [mXs] at h
      obtain ⟨h, h3⟩ := and2 h
      obtain ⟨h1, h2⟩ := and2 h
      have e : evXs (cfgOf B n) (.cons a r) = fun σ => bnd (evX (cfgOf B n) a σ) fun x => bnd (evXs (cfgOf B n) r σ) fun xs => ret (x :: xs) := by funext σ; rw [evXs]
      rw [e]
      exact s_acons (sX a Fa co g h2).1 (sXs r Fa co g h3) (star_no (notT h1))
  | .star a r, k, Z, W, es, Fa, co, g, h => by
    cases es with
    | nil => simp [mXs] at h
    | cons x es =>
      rw [mXs] at h
      split at h
      · rename_i l p h1
        obtain ⟨h2, h3⟩ := and2 h
        have e : evXs (cfgOf B n) (.star a r) = fun σ => bnd (evX (cfgOf B n) a σ) fun x => fun h => match seqD h x with
          | some ys => bnd (evXs (cfgOf B n) r σ) (fun xs => ret (ys ++ xs)) h
          | none => none := by funext σ; rw [evXs] <;> rfl
        rw [e, asStar_ok h1]
        exact s_astar (sX a Fa co g h2).1 (sXs r Fa co g h3) star_yes
      · cases h
theorem sKs : ∀ (xs : Xs) {k : Ck} {Z : Cx} {W : WX} {es : List Keyword}, FacZ ca ev fad ffd B k Z → CalZ ca fad ffd B T n k Z → Gd T n k Z W → mKs k xs es = true → pK Z ca T W es (evXs (cfgOf B n) xs)
  | .nil, k, Z, W, es, Fa, co, g, h => by
    cases es with
    | nil =>
      have e : evXs (cfgOf B n) .nil = fun _ => ret [] := by funext σ; rw [evXs]
      rw [e]; exact s_knil
    | cons _ _ => simp [mKs] at h
  | .cons a r, k, Z, W, es, Fa, co, g, h => by
    cases es with
    | nil => simp [mKs] at h
    | cons x es =>
      obtain ⟨nm, x, p⟩ := x
      rw [mKs] at h
      obtain ⟨h1, h2⟩ := and2 h
      have e : evXs (cfgOf B n) (.cons a r) = fun σ => bnd (evX (cfgOf B n) a σ) fun x => bnd (evXs (cfgOf B n) r σ) fun xs => ret (x :: xs) := by funext σ; rw [evXs]
      rw [e]
      exact s_kcons (sX a Fa co g h1).1 (sKs r Fa co g h2)
  | .star a r, k, Z, W, es, Fa, co, g, h => by simp [mKs] at h
theorem sO : ∀ (o : O) {k : Ck} {Z : Cx} {W : WX} {e : Option Expr}, FacZ ca ev fad ffd B k Z → CalZ ca fad ffd B T n k Z → Gd T n k Z W → mO k o e = true → PO Z e (rdI Z.K ca T W (evO (cfgOf B n) o))
  | .no, k, Z, W, e, Fa, co, g, h => by
    cases e with
    | some _ => simp [mO] at h
    | none =>
      have e : evO (cfgOf B n) .no = fun _ => ret none := by funext σ; rw [evO]
      rw [e]; exact s_ono
  | .yes a, k, Z, W, e, Fa, co, g, h => by
    cases e with
    | none => simp [mO] at h
    | some e =>
      rw [mO] at h
      have e : evO (cfgOf B n) (.yes a) = fun σ => bnd (evX (cfgOf B n) a σ) fun x => match x with | .int i => ret (some i) | _ => stuck := by funext σ; rw [evO] <;> rfl
      rw [e]; exact s_oyes (sX a Fa co g h).1
theorem sAnd : ∀ (xs : Xs) {k : Ck} {Z : Cx} {W : WX} {es : List Expr} {pos : Pos}, FacZ ca ev fad ffd B k Z → CalZ ca fad ffd B T n k Z → Gd T n k Z W → noStars es = true → mXs k xs es = true → pX Z ca T W (.BoolOp .And es pos) (evAnd (cfgOf B n) xs)
  | .nil, k, Z, W, es, pos, Fa, co, g, hs, h => stuck_ok fun σ hd => by rw [evAnd] <;> rfl
  | .star a r, k, Z, W, es, pos, Fa, co, g, hs, h => stuck_ok fun σ hd => by rw [evAnd] <;> rfl
  | .cons a r, k, Z, W, es, pos, Fa, co, g, hs, h => by
    cases es with
    | nil => simp [mXs] at h
    | cons x es =>
      rw [mXs] at h
      obtain ⟨h, h3⟩ := and2 h
      obtain ⟨h1, h2⟩ := and2 h
      obtain ⟨_, hs2⟩ := and2 hs
      cases es with
      | nil =>
        cases r with
        | nil =>
          have e : evAnd (cfgOf B n) (.cons a .nil) = evX (cfgOf B n) a := by funext σ; rw [evAnd]
          rw [e]; exact pe_one (sX a Fa co g h2).1
        | cons _ _ => simp [mXs] at h3
        | star _ _ => simp [mXs] at h3
      | cons y es =>
        have hr : r ≠ .nil := fun z => by subst z; simp [mXs] at h3
        have e : evAnd (cfgOf B n) (.cons a r) = fun σ => bnd (evX (cfgOf B n) a σ) fun x => match x with | .bl true => evAnd (cfgOf B n) r σ | .bl false => ret (.bl false) | _ => stuck := by
          funext σ
          cases r with
          | nil => exact absurd rfl hr
          | cons _ _ => rw [evAnd] <;> first | rfl | (intro z; cases z)
          | star _ _ => rw [evAnd] <;> first | rfl | (intro z; cases z)
        rw [e]
        exact s_and (sX a Fa co g h2).1 (sAnd r Fa co g hs2 h3)
theorem sOr : ∀ (xs : Xs) {k : Ck} {Z : Cx} {W : WX} {es : List Expr} {pos : Pos}, FacZ ca ev fad ffd B k Z → CalZ ca fad ffd B T n k Z → Gd T n k Z W → noStars es = true → mXs k xs es = true → pX Z ca T W (.BoolOp .Or es pos) (evOr (cfgOf B n) xs)
  | .nil, k, Z, W, es, pos, Fa, co, g, hs, h => stuck_ok fun σ hd => by rw [evOr] <;> rfl
  | .star a r, k, Z, W, es, pos, Fa, co, g, hs, h => stuck_ok fun σ hd => by rw [evOr] <;> rfl
  | .cons a r, k, Z, W, es, pos, Fa, co, g, hs, h => by
    cases es with
    | nil => simp [mXs] at h
    | cons x es =>
      rw [mXs] at h
      obtain ⟨h, h3⟩ := and2 h
      obtain ⟨h1, h2⟩ := and2 h
      obtain ⟨_, hs2⟩ := and2 hs
      cases es with
      | nil =>
        cases r with
        | nil =>
          have e : evOr (cfgOf B n) (.cons a .nil) = evX (cfgOf B n) a := by funext σ; rw [evOr]
          rw [e]; exact pe_one (sX a Fa co g h2).1
        | cons _ _ => simp [mXs] at h3
        | star _ _ => simp [mXs] at h3
      | cons y es =>
        have hr : r ≠ .nil := fun z => by subst z; simp [mXs] at h3
        have e : evOr (cfgOf B n) (.cons a r) = fun σ => bnd (evX (cfgOf B n) a σ) fun x => match x with | .bl true => ret (.bl true) | .bl false => evOr (cfgOf B n) r σ | _ => stuck := by
          funext σ
          cases r with
          | nil => exact absurd rfl hr
          | cons _ _ => rw [evOr] <;> first | rfl | (intro z; cases z)
          | star _ _ => rw [evOr] <;> first | rfl | (intro z; cases z)
        rw [e]
        exact s_or (sX a Fa co g h2).1 (sOr r Fa co g hs2 h3)
theorem sT : ∀ (t : Ev.T) {k : Ck} {Z : Cx} {W : WX} {e : Expr}, FacZ ca ev fad ffd B k Z → CalZ ca fad ffd B T n k Z → Gd T n k Z W → mT k t e = true → pT Z ca T W e (evT (cfgOf B n) t)
  | .tt, k, Z, W, e, Fa, co, g, h => by simp [mT] at h
  | .val a, k, Z, W, e, Fa, co, g, h => by
    rw [mT] at h
    obtain ⟨h1, h2⟩ := and2 h
    have e : evT (cfgOf B n) (.val a) = fun σ => bnd (evX (cfgOf B n) a σ) fun x => fun h => opt (truD h x) h := by funext σ; rw [evT]
    rw [e]
    exact (sX a Fa co g h2).2 (notT h1)
  | .nt t, k, Z, W, e, Fa, co, g, h => by
    rw [mT] at h
    split at h
    · rename_i l p h1
      have e : evT (cfgOf B n) (.nt t) = fun σ => bnd (evT (cfgOf B n) t σ) fun k => ret (!k) := by funext σ; rw [evT]
      rw [e, asNot_ok h1]
      exact s_tnot (sT t Fa co g h)
    · cases h
  | .and ts, k, Z, W, e, Fa, co, g, h => by
    rw [mT] at h
    split at h
    · rename_i es p h1
      obtain ⟨h2, h3⟩ := and2 h
      have e : evT (cfgOf B n) (.and ts) = evTA (cfgOf B n) ts := by funext σ; rw [evT]
      rw [e, asAnd_ok h1]
      exact (sTA ts Fa co g h2 h3).pt
    · cases h
  | .or ts, k, Z, W, e, Fa, co, g, h => by
    rw [mT] at h
    split at h
    · rename_i es p h1
      obtain ⟨h2, h3⟩ := and2 h
      have e : evT (cfgOf B n) (.or ts) = evTO (cfgOf B n) ts := by funext σ; rw [evT]
      rw [e, asOr_ok h1]
      exact (sTO ts Fa co g h2 h3).pt
    · cases h
theorem sTA : ∀ (ts : Ts) {k : Ck} {Z : Cx} {W : WX} {es : List Expr} {pos : Pos}, FacZ ca ev fad ffd B k Z → CalZ ca fad ffd B T n k Z → Gd T n k Z W → (!es.isEmpty) = true → mTs k ts es = true → pW Z ca T W (.BoolOp .And es pos) (evTA (cfgOf B n) ts)
  | .nil, k, Z, W, es, pos, Fa, co, g, hs, h => by
    cases es with
    | nil => cases hs
    | cons _ _ => simp [mTs] at h
  | .cons t r, k, Z, W, es, pos, Fa, co, g, hs, h => by
    cases es with
    | nil => cases hs
    | cons x es =>
      rw [mTs] at h
      obtain ⟨h1, h2⟩ := and2 h
      have e : evTA (cfgOf B n) (.cons t r) = fun σ => bnd (evT (cfgOf B n) t σ) fun k => if k then evTA (cfgOf B n) r σ else ret false := by funext σ; rw [evTA]
      rw [e]
      cases es with
      | nil =>
        cases r with
        | nil =>
          have e2 : evTA (cfgOf B n) .nil = fun _ => ret true := by funext σ; rw [evTA]
          rw [e2]
          exact s_tand1 (sT t Fa co g h1)
        | cons _ _ => simp [mTs] at h2
      | cons y es => exact s_tand (sT t Fa co g h1) (sTA r Fa co g rfl h2)
theorem sTO : ∀ (ts : Ts) {k : Ck} {Z : Cx} {W : WX} {es : List Expr} {pos : Pos}, FacZ ca ev fad ffd B k Z → CalZ ca fad ffd B T n k Z → Gd T n k Z W → (!es.isEmpty) = true → mTs k ts es = true → pW Z ca T W (.BoolOp .Or es pos) (evTO (cfgOf B n) ts)
  | .nil, k, Z, W, es, pos, Fa, co, g, hs, h => by
    cases es with
    | nil => cases hs
    | cons _ _ => simp [mTs] at h
  | .cons t r, k, Z, W, es, pos, Fa, co, g, hs, h => by
    cases es with
    | nil => cases hs
    | cons x es =>
      rw [mTs] at h
      obtain ⟨h1, h2⟩ := and2 h
      have e : evTO (cfgOf B n) (.cons t r) = fun σ => bnd (evT (cfgOf B n) t σ) fun k => if k then ret true else evTO (cfgOf B n) r σ := by funext σ; rw [evTO]
      rw [e]
      cases es with
      | nil =>
        cases r with
        | nil =>
          have e2 : evTO (cfgOf B n) .nil = fun _ => ret false := by funext σ; rw [evTO]
          rw [e2]
          exact s_tor1 (sT t Fa co g h1)
        | cons _ _ => simp [mTs] at h2
      | cons y es => exact s_tor (sT t Fa co g h1) (sTO r Fa co g rfl h2)
theorem sIt : ∀ (it : It) {k : Ck} {Z : Cx} {W : WX} {tg e : Expr}, FacZ ca ev fad ffd B k Z → CalZ ca fad ffd B T n k Z → Gd T n k Z W → mIt k it tg e = true → pI Z ca T W tg e (evIt (cfgOf B n) it)
  | .seq a, k, Z, W, tg, e, Fa, co, g, h => by
    rw [mIt] at h
    have e : evIt (cfgOf B n) (.seq a) = fun σ => bnd (evX (cfgOf B n) a σ) fun x => fun h => opt (itD h x) h := by funext σ; rw [evIt]
    rw [e]
    exact s_itseq (sX a Fa co g h).1
  | .rng xs, k, Z, W, tg, e, Fa, co, g, h => by
    rw [mIt] at h
    split at h
    · rename_i x q es p h1
      obtain ⟨h, h6⟩ := and2 h
      obtain ⟨h, h5⟩ := and2 h
      obtain ⟨h, h4⟩ := and2 h
      obtain ⟨h2, h3⟩ := and2 h
      have hx := of_dec h2
      subst hx
      obtain ⟨b1, b2⟩ := blt_ok Fa g h3
      have e : evIt (cfgOf B n) (.rng xs) = fun σ => bnd (evXs (cfgOf B n) xs σ) fun vs => opt (rngD vs) := by funext σ; rw [evIt]
      rw [e, asCalN_ok h1]
      have hA := sXs xs Fa co g h6
      rcases Bool.or_eq_true_iff.mp h5 with z | z
      · obtain ⟨l, rfl⟩ := len1 (of_dec z)
        obtain ⟨g1, g2⟩ := and2 h4
        exact s_itrng1 b1 b2 hA (star_no (notT g1)) (fun σ h vs h' z => evXs_len h4 h6 z)
      · obtain ⟨l, r, rfl⟩ := len2 (of_dec z)
        obtain ⟨g1, g2⟩ := and2 h4
        obtain ⟨g3, g4⟩ := and2 g2
        exact s_itrng2 b1 b2 hA (by rw [star_no (notT g1), star_no (notT g3)]; rfl) (star_no (notT g3)) (fun σ h vs h' z => evXs_len h4 h6 z)
    · cases h
  | .enm a, k, Z, W, tg, e, Fa, co, g, h => by
    rw [mIt] at h
    split at h
    · rename_i x q l p h1
      obtain ⟨h, h6⟩ := and2 h
      obtain ⟨h, h5⟩ := and2 h
      obtain ⟨h, h4⟩ := and2 h
      obtain ⟨h2, h3⟩ := and2 h
      have hx := of_dec h2
      subst hx
      obtain ⟨b1, b2⟩ := blt_ok Fa g h3
      have e : evIt (cfgOf B n) (.enm a) = fun σ => bnd (evX (cfgOf B n) a σ) fun x => match x with | .lst xs => ret (enmD 0 xs) | _ => stuck := by funext σ; rw [evIt] <;> rfl
      rw [e, asCalN_ok h1]
      cases tg <;> simp [isTupE] at h4
      exact s_itenm b1 b2 (sX a Fa co g h6).1 (star_no (notT h5)) (star_no (notT h5))
    · cases h
  | .zip a b, k, Z, W, tg, e, Fa, co, g, h => by
    rw [mIt] at h
    split at h
    · rename_i x q l r p h1
      obtain ⟨h, h8⟩ := and2 h
      obtain ⟨h, h7⟩ := and2 h
      obtain ⟨h, h6⟩ := and2 h
      obtain ⟨h, h5⟩ := and2 h
      obtain ⟨h, h4⟩ := and2 h
      obtain ⟨h2, h3⟩ := and2 h
      have hx := of_dec h2
      subst hx
      obtain ⟨b1, b2⟩ := blt_ok Fa g h3
      have e : evIt (cfgOf B n) (.zip a b) = fun σ => bnd (evX (cfgOf B n) a σ) fun x => bnd (evX (cfgOf B n) b σ) fun y => match x, y with
        | .lst xs, .lst ys => ret (zipD xs ys)
        | .tup xs, .tup ys => ret (zipD xs ys)
        | .tup xs, .lst ys => ret (zipD xs ys)
        | _, _ => stuck := by funext σ; rw [evIt] <;> rfl
      rw [e, asCalN_ok h1]
      cases tg <;> simp [isTupE] at h4
      exact s_itzipM b1 b2 (sX a Fa co g h7).1 (sX b Fa co g h8).1 (star_no (notT h5)) (star_no (notT h6)) (stars_none (by simp [noStars, notT h6]))
    · cases h
theorem sTg : ∀ (gg : Tg) {k : Ck} {Z : Cx} {W : WX} {tv : List Nat} {e : Expr}, FacZ ca ev fad ffd B k Z → CalZ ca fad ffd B T n k Z → Gd T n k Z W → mTg k tv gg e = true → pG Z ca T W tv e (evTg (cfgOf B n) gg)
  | .nm i, k, Z, W, tv, e, Fa, co, g, h => by
    rw [mTg] at h
    split at h
    · rename_i x p h1
      obtain ⟨h, h4⟩ := and2 h
      obtain ⟨h2, h3⟩ := and2 h
      have e : evTg (cfgOf B n) (.nm i) = fun d σ => ret (σ.set i (some d)) := by funext d σ; rw [evTg]
      rw [e, asName_ok h1]
      rcases Bool.or_eq_true_iff.mp h2 with z | z
      · exact s_gnm g.nd (by rw [g.N]; exact of_dec h3) (.inl (by rw [g.sc]; exact of_dec z)) (.inr (by rw [g.sc]; exact of_dec z)) (by simpa using h4)
      · obtain ⟨z1, z2⟩ := and2 z
        exact s_gnm g.nd (by rw [g.N]; exact of_dec h3) (.inr (by rw [g.sc]; exact of_dec z1)) (.inl (g.fn x (of_dec z2))) (by simpa using h4)
    · cases h
  | .tp ts, k, Z, W, tv, e, Fa, co, g, h => by
    rw [mTg] at h
    split at h
    · rename_i es j p h1
      obtain ⟨h2, h3⟩ := and2 h
      rw [asTup_ok h1]
      have g0 : Gd T n k Z Wn := { g with tk := LamX.takes0 }
      obtain ⟨q1, q2, q3⟩ := sTgs ts Fa co g0 h2 h3
      have := (s_gtp (k := j) (pos := p) g.calm q1 (n := es.length) (q2 Z.env).1 (q2 Z.env).2).none_ex (W := W)
      have e : evTg (cfgOf B n) (.tp ts) = fun d σ => fun h => match (match d with | .tup xs => if xs.length = es.length then evTgs (cfgOf B n) ts xs σ else stuck | .wtp xs => if xs.length = es.length then evTgs (cfgOf B n) ts xs σ else stuck | _ => stuck) h with | some (.ok a, h1) => some (.ok a, h1) | _ => none := by
        funext d σ h
        rw [evTg, ← q3]
        try rfl
      rw [e]
      exact this
    · cases h
  | .sb o i, k, Z, W, tv, e, Fa, co, g, h => by
    rw [mTg] at h
    split at h
    · rename_i l r p h1
      obtain ⟨h, h4⟩ := and2 h
      obtain ⟨h2, h3⟩ := and2 h
      have e : evTg (cfgOf B n) (.sb o i) = fun d σ => bnd (evX (cfgOf B n) o σ) fun x => bnd (evX (cfgOf B n) i σ) fun k => bnd (setSD x k d) fun _ => ret σ := by funext d σ; rw [evTg]
      rw [e, asSub_ok h1]
      exact s_gsb (sX o Fa co g h3).1 (sX i Fa co g h4).1 (fun v => by rw [assign]; cases r <;> first | rfl | (simp [plainB] at h2))
    · cases h
  | .fd _ _, k, Z, W, tv, e, Fa, co, g, h => by simp [mTg] at h
theorem sTgs : ∀ (ts : Tgs) {k : Ck} {Z : Cx} {tv : List Nat} {es : List Expr}, FacZ ca ev fad ffd B k Z → CalZ ca fad ffd B T n k Z → Gd T n k Z Wn → noStars es = true → mTgs k tv ts es = true →
    pGs Z ca T Wn tv es (evTgs (cfgOf B n) ts) ∧ (∀ env, (assignEach es env).length = es.length ∧ (assignEach es env).findIdx? (·.1) = none) ∧ tgsLen ts = es.length
  | .nil, k, Z, tv, es, Fa, co, g, hs, h => by
    cases es with
    | cons _ _ => simp [mTgs] at h
    | nil =>
      have e : evTgs (cfgOf B n) .nil = fun ds σ => match ds with | [] => ret σ | _ => stuck := by funext ds σ; cases ds <;> (rw [evTgs] <;> first | rfl | (intro _ z; cases z; done) | (intro z; cases z; done) | (intro _ _ _ _ z; cases z; done) | (intro _ _ _ _ _ z; cases z; done))
      exact ⟨by rw [e]; exact s_gnil, fun env => ⟨rfl, rfl⟩, rfl⟩
  | .cons gg r, k, Z, tv, es, Fa, co, g, hs, h => by
    cases es with
    | nil => simp [mTgs] at h
    | cons x es =>
      rw [mTgs] at h
      obtain ⟨h1, h2⟩ := and2 h
      obtain ⟨g1, g2⟩ := and2 hs
      have hst := notT g1
      obtain ⟨q1, q2, q3⟩ := sTgs r Fa co g g2 h2
      have e : evTgs (cfgOf B n) (.cons gg r) = fun ds σ => match ds with | d :: ds => bnd (evTg (cfgOf B n) gg d σ) fun σ1 => evTgs (cfgOf B n) r ds σ1 | _ => stuck := by
        funext ds σ; cases ds <;> (rw [evTgs] <;> first | rfl | (intro _ z; cases z; done) | (intro z; cases z; done) | (intro _ _ _ _ z; cases z; done) | (intro _ _ _ _ _ z; cases z; done))
      have ea : ∀ env, assignEach (x :: es) env = (false, assign x env) :: assignEach es env := fun env => by
        cases x <;> first | rfl | (simp [isStar] at hst)
      refine ⟨by rw [e]; exact s_gcons (sTg gg Fa co g h1) q1 (by rw [ea]; rfl), fun env => ⟨?_, ?_⟩, by rw [tgsLen, q3]; rfl⟩
      · rw [ea, List.length_cons, (q2 env).1, List.length_cons]
      · rw [ea]
        have := (q2 env).2
        rw [List.findIdx?_cons, this]
        try rfl
end
end
end Ev

set_option Elab.async false
set_option linter.all false
set_option maxRecDepth 100000
set_option maxHeartbeats 4000000
/-! Ev6a: stores: in which order, by which road. -/
namespace Ev
open PySem L2 PyProof.Rows
def fnK (sc : Scope) : Bool := decide (sc.kind = .function)
def pairTV (tg e : Expr) : Option (List Expr × List Expr) := match [tg], e with
    | [.Tuple ts _ _], .Tuple vs _ _ | [.List ts _], .Tuple vs _ _ => some (ts, vs)
    | _, _ => none
def namesTV (sc : Scope) (ts : List Expr) : List Str := ts.filterMap fun
    | .Name id pos => if sc.names.lookup id == some .local && pos.line == (ts.head?.map (·.pos.line)).getD 0 then some id else none
    | _ => none
def swV (sc : Scope) (tg e : Expr) : Option (Option (List Str)) := match pairTV tg e with
  | none => some none
  | some (ts, vs) =>
    if !(ts.length == 2 || ts.length == 3) || vs.length != ts.length then some none
    else if vs.any isStar then some none
    else if (namesTV sc ts).length != ts.length || (namesTV sc ts).eraseDups.length != (namesTV sc ts).length then some none
    else if vs.all (foldedForSure 8) then some none
    else if vs.all (constantsAlone 8) then none
    else some (some (namesTV sc ts))
theorem blockKind_fn {env : Env} (h : env.scope.kind = .function) : env.blockKind = .function := by
  unfold Env.blockKind
  rw [h]; rfl
theorem swV_ok {env : Env} {tg e : Expr} {r : Option (List Str)} (hk : env.scope.kind = .function) (h : swV env.scope tg e = some r) : swappedStores [tg] e env = pure r := by
  have hb := blockKind_fn hk
  unfold swV at h
  unfold swappedStores
  show (match pairTV tg e with | some (ts, vs) => _ | _ => _) = _
  cases hp : pairTV tg e with
  | none => simp only [hp] at h ⊢; cases h; rfl
  | some q =>
    obtain ⟨ts, vs⟩ := q
    simp only [hp] at h ⊢
    rw [hb]
    change (if (!(ts.length == 2 || ts.length == 3) || vs.length != ts.length || ScopeKind.function != ScopeKind.function) = true then (pure none : Sem (Option (List Str)))
      else if vs.any isStar = true then pure none
      else if ((namesTV env.scope ts).length != ts.length || (namesTV env.scope ts).eraseDups.length != (namesTV env.scope ts).length) = true then pure none
      else if vs.all (foldedForSure 8) = true then pure none
      else if vs.all (constantsAlone 8) = true then (do unsupported "assign.tuple-of-constant-expressions:order-of-the-stores"; pure (some (namesTV env.scope ts)))
      else pure (some (namesTV env.scope ts))) = pure r
    have e0 : (ScopeKind.function != ScopeKind.function) = false := by decide
    rw [e0, Bool.or_false]
    by_cases h1 : (!(ts.length == 2 || ts.length == 3) || vs.length != ts.length) = true
    · rw [if_pos h1] at h ⊢; cases h; rfl
    · rw [if_neg h1] at h ⊢
      by_cases h2 : vs.any isStar = true
      · rw [if_pos h2] at h ⊢; cases h; rfl
      · rw [if_neg h2] at h ⊢
        by_cases h3 : ((namesTV env.scope ts).length != ts.length || (namesTV env.scope ts).eraseDups.length != (namesTV env.scope ts).length) = true
        · rw [if_pos h3] at h ⊢; cases h; rfl
        · rw [if_neg h3] at h ⊢
          by_cases h4 : vs.all (foldedForSure 8) = true
          · rw [if_pos h4] at h ⊢; cases h; rfl
          · rw [if_neg h4] at h ⊢
            by_cases h5 : vs.all (constantsAlone 8) = true
            · rw [if_pos h5] at h; cases h
            · rw [if_neg h5] at h ⊢; cases h; rfl
/-- a comprehension told to a target: is it told while its block still stands -/
def swLc (sc inner : Scope) (tg e : Expr) : Bool := match asName tg with
  | some (t, pos) => (sc.names.lookup t == some .local) && (pos.line == e.pos.line) && !(inner.names.any fun (n, k) => n == t && (k == .local || k == .cell))
  | none => false
theorem swLc_ok {env : Env} {tg elt : Expr} {gs : List Comprehension} {inner : Scope} {p : Pos} {l : Nat} {b : Bool} (hk : env.scope.kind = .function) (h : swLc env.scope inner tg (.ListComp elt gs inner p) = b) : swapsWith (.ListComp elt gs inner p) (some tg) l env = pure b := by
  have hb := blockKind_fn hk
  subst h
  unfold swLc
  cases tg <;> first | rfl | skip
  rename_i t pos
  show (do return env.blockKind == .function && env.kindOf t == some .local && pos.line == (Expr.ListComp elt gs inner p).pos.line && !(inner.names.any fun (n, k) => n == t && (k == .local || k == .cell)) : Sem Bool) = _
  rw [hb]
  rfl
end Ev

set_option Elab.async false
set_option linter.all false
set_option maxRecDepth 100000
set_option maxHeartbeats 8000000
/-! Ev6b: the check of statements, and its meaning. -/
namespace Ev
open PySem L2 PyProof.Rows
/-- where a statement stands -/
structure Gs (T : List (Addr × Str)) (n : Nat) (k : Ck) (Z : Cx) (W : WX) : Prop extends Gd T n k Z W where
  po : PassesOwn (model Z.prog Z.w) Z.A Z.env Z.xe
  st : Z.stack = Z.env :: Z.outer
  fr : Z.env.frame = some Z.env.locals
def asAssign : Stmt → Option (Expr × Expr × Pos)
  | .Assign [t] v p => some (t, v, p)
  | _ => none
theorem asAssign_ok {s : Stmt} {t v : Expr} {p : Pos} (h : asAssign s = some (t, v, p)) : s = .Assign [t] v p := by
  unfold asAssign at h; split at h
  · cases h; rfl
  · cases h
def asRet : Stmt → Option (Option Expr × Pos)
  | .Return v p => some (v, p)
  | _ => none
theorem asRet_ok {s : Stmt} {v : Option Expr} {p : Pos} (h : asRet s = some (v, p)) : s = .Return v p := by
  unfold asRet at h; split at h
  · cases h; rfl
  · cases h
def asExpr : Stmt → Option (Expr × Pos)
  | .Expr v p => some (v, p)
  | _ => none
theorem asExpr_ok {s : Stmt} {v : Expr} {p : Pos} (h : asExpr s = some (v, p)) : s = .Expr v p := by
  unfold asExpr at h; split at h
  · cases h; rfl
  · cases h
def asIfS : Stmt → Option (Expr × List Stmt × List Stmt × Pos)
  | .If c a b p => some (c, a, b, p)
  | _ => none
theorem asIfS_ok {s : Stmt} {c : Expr} {a b : List Stmt} {p : Pos} (h : asIfS s = some (c, a, b, p)) : s = .If c a b p := by
  unfold asIfS at h; split at h
  · cases h; rfl
  · cases h
def asFor : Stmt → Option (Expr × Expr × List Stmt × Pos)
  | .For t i b [] p => some (t, i, b, p)
  | _ => none
theorem asFor_ok {s : Stmt} {t i : Expr} {b : List Stmt} {p : Pos} (h : asFor s = some (t, i, b, p)) : s = .For t i b [] p := by
  unfold asFor at h; split at h
  · cases h; rfl
  · cases h
def asWhl : Stmt → Option (Expr × List Stmt × Pos)
  | .While c b [] p => some (c, b, p)
  | _ => none
theorem asWhl_ok {s : Stmt} {c : Expr} {b : List Stmt} {p : Pos} (h : asWhl s = some (c, b, p)) : s = .While c b [] p := by
  unfold asWhl at h; split at h
  · cases h; rfl
  · cases h
def asRaise : Stmt → Option (Str × Pos × List Expr × Pos × Pos)
  | .Raise (some e) none p => (match asCalN e with
    | some (x, q, es, p3) => some (x, q, es, p3, p)
    | none => none)
  | _ => none
theorem asRaise_ok {s : Stmt} {x : Str} {q p3 p : Pos} {es : List Expr} (h : asRaise s = some (x, q, es, p3, p)) : s = .Raise (some (.Call (.Name x q) es [] p3)) none p := by
  unfold asRaise at h; split at h
  · split at h
    · rename_i e1
      cases h
      rw [asCalN_ok e1]
    · cases h
  · cases h
/-- try: .. / except x as n: return n.f -/
def asTryF : Stmt → Option (List Stmt × Str × Pos × Str × Str × Pos × Pos × Pos × Pos × Pos)
  | .Try body [.ExceptHandler (some (.Name x p2)) (some n) [.Return (some (.Attribute (.Name m p5) f p6)) p7] p3] [] [] pos => if n = m then some (body, x, p2, n, f, p5, p6, p7, p3, pos) else none
  | _ => none
theorem asTryF_ok {s : Stmt} {body : List Stmt} {x n f : Str} {p2 p5 p6 p7 p3 pos : Pos} (h : asTryF s = some (body, x, p2, n, f, p5, p6, p7, p3, pos)) :
    s = .Try body [.ExceptHandler (some (.Name x p2)) (some n) [.Return (some (.Attribute (.Name n p5) f p6)) p7] p3] [] [] pos := by
  unfold asTryF at h; split at h
  · split at h
    · rename_i e; subst e; cases h; rfl
    · cases h
  · cases h
/-- try: .. / except x as n: return isinstance(n, ValueError) -/
def asTryI : Stmt → Option (List Stmt × Str × Pos × Str × Pos × Pos × Pos × Pos × Pos × Pos × Pos)
  | .Try body [.ExceptHandler (some (.Name x p2)) (some n) [.Return (some (.Call (.Name y p4) [.Name m p5, .Name z p6] [] p8)) p7] p3] [] [] pos => if n = m ∧ y = ("isinstance" : Str) ∧ z = ("ValueError" : Str) then some (body, x, p2, n, p3, p4, p5, p6, p7, p8, pos) else none
  | _ => none
theorem asTryI_ok {s : Stmt} {body : List Stmt} {x n : Str} {p2 p3 p4 p5 p6 p7 p8 pos : Pos} (h : asTryI s = some (body, x, p2, n, p3, p4, p5, p6, p7, p8, pos)) :
    s = .Try body [.ExceptHandler (some (.Name x p2)) (some n) [.Return (some (.Call (.Name "isinstance" p4) [.Name n p5, .Name "ValueError" p6] [] p8)) p7] p3] [] [] pos := by
  unfold asTryI at h; split at h
  · split at h
    · rename_i e; obtain ⟨e1, e2, e3⟩ := e; subst e1 e2 e3; cases h; rfl
    · cases h
  · cases h
/-- try: .. / except x: return constant -/
def asTryC : Stmt → Option (List Stmt × Str × Pos × Const × Nat × Pos × Pos × Pos × Pos)
  | .Try body [.ExceptHandler (some (.Name x p2)) none [.Return (some (.Constant c j p5)) p7] p3] [] [] pos => some (body, x, p2, c, j, p5, p7, p3, pos)
  | _ => none
theorem asTryC_ok {s : Stmt} {body : List Stmt} {x : Str} {c : Const} {j : Nat} {p2 p5 p7 p3 pos : Pos} (h : asTryC s = some (body, x, p2, c, j, p5, p7, p3, pos)) :
    s = .Try body [.ExceptHandler (some (.Name x p2)) none [.Return (some (.Constant c j p5)) p7] p3] [] [] pos := by
  unfold asTryC at h; split at h
  · cases h; rfl
  · cases h
/-- try: .. / except x: return a name -/
def asTryG : Stmt → Option (List Stmt × Str × Pos × Str × Pos × Pos × Pos × Pos)
  | .Try body [.ExceptHandler (some (.Name x p2)) none [.Return (some (.Name y p5)) p7] p3] [] [] pos => some (body, x, p2, y, p5, p7, p3, pos)
  | _ => none
theorem asTryG_ok {s : Stmt} {body : List Stmt} {x y : Str} {p2 p5 p7 p3 pos : Pos} (h : asTryG s = some (body, x, p2, y, p5, p7, p3, pos)) :
    s = .Try body [.ExceptHandler (some (.Name x p2)) none [.Return (some (.Name y p5)) p7] p3] [] [] pos := by
  unfold asTryG at h; split at h
  · cases h; rfl
  · cases h
/-- try: .. / except x: return a name / except z as n: return n.f -/
def asTry2 : Stmt → Option (List Stmt × Str × Pos × Str × Pos × Pos × Pos × Str × Pos × Str × Str × Pos × Pos × Pos × Pos × Pos)
  | .Try body [.ExceptHandler (some (.Name x p2)) none [.Return (some (.Name y p5)) p6] p3, .ExceptHandler (some (.Name x2 p4)) (some n) [.Return (some (.Attribute (.Name m p8) f p9)) p10] p7] [] [] pos => if n = m then some (body, x, p2, y, p5, p6, p3, x2, p4, n, f, p8, p9, p10, p7, pos) else none
  | _ => none
theorem asTry2_ok {s : Stmt} {body : List Stmt} {x y x2 n f : Str} {p2 p3 p4 p5 p6 p7 p8 p9 p10 pos : Pos} (h : asTry2 s = some (body, x, p2, y, p5, p6, p3, x2, p4, n, f, p8, p9, p10, p7, pos)) :
    s = .Try body [.ExceptHandler (some (.Name x p2)) none [.Return (some (.Name y p5)) p6] p3, .ExceptHandler (some (.Name x2 p4)) (some n) [.Return (some (.Attribute (.Name n p8) f p9)) p10] p7] [] [] pos := by
  unfold asTry2 at h; split at h
  · split at h
    · rename_i e; subst e; cases h; rfl
    · cases h
  · cases h
def isPass : Stmt → Bool
  | .Pass _ => true
  | _ => false
def isBrk : Stmt → Bool
  | .Break _ => true
  | _ => false
def isCont : Stmt → Bool
  | .Continue _ => true
  | _ => false
def allSl (k : Ck) : List Nat := List.range k.N.length
def exfB (B : Tab) (c : Nat) (es : List Expr) : Bool := match B.exf c, es with
  | [_], [_] => true
  | [], [] => true
  | _, _ => false
/-- two or three names at once -/
def parB (k : Ck) (is : List Nat) (tg e : Expr) : Bool := match is, asTup tg, asTup e with
  | [i, j], some ([t1, t2], _, _), some (es, _, _) => (match asName t1, asName t2 with
    | some (x, _), some (y, _) => decide (k.N[i]? = some x) && decide (k.N[j]? = some y) && decide (i ≠ j) && decide (k.sc.names.lookup x = some .local) && decide (k.sc.names.lookup y = some .local) && decide (es.length = 2) && decide (swV k.sc tg e = some (some [x, y]))
    | _, _ => false)
  | [i, j, l], some ([t1, t2, t3], _, _), some (es, _, _) => (match asName t1, asName t2, asName t3 with
    | some (x, _), some (y, _), some (z, _) => decide (k.N[i]? = some x) && decide (k.N[j]? = some y) && decide (k.N[l]? = some z) && decide (i ≠ j) && decide (i ≠ l) && decide (j ≠ l) && decide (k.sc.names.lookup x = some .local) && decide (k.sc.names.lookup y = some .local) && decide (k.sc.names.lookup z = some .local) && decide (es.length = 3) && decide (swV k.sc tg e = some (some [x, y, z]))
    | _, _, _ => false)
  | _, _, _ => false
def hasTf (B : Tab) (cn : Nat) (f : Nm) (es : List Nat) : Bool := es.all fun e => !decide (B.sub e cn = some true) || (B.exf e).contains f
def isLcX : X → Bool
  | .lc .. => true
  | _ => false
def mAsg (k : Ck) (g : Tg) (x : X) (st : Stmt) : Bool := match asAssign st with
    | some (t, v, p) => if notComp v then !isStar t && decide (swV k.sc t v = some none) && mTg k (allSl k) g t && mX k x v
      else (match asLc v with
        | some (elt, tg, iter, ifs, sc, _) => (match asName t, g, x with
          | some (y, _), .nm i, .lc vs gg it tt el => nmOk y && decide (k.N[i]? = some y) && decide (k.sc.names.lookup y = some .local) && swLc k.sc sc t v &&
              decide ((ownsOf k.N vs).map (·.2) = vs) && blkC k.N k.sc sc (ownsOf k.N vs) && notSet iter && mIt k it tg iter && mTg (k.blk sc) vs gg tg && (match ifs with | [] => isTT tt | [c] => mT (k.blk sc) tt c | _ => false) && mX (k.blk sc) el elt
          | _, _, _ => false)
        | none => false)
    | none => false
mutual
def mS (B : Tab) (k : Ck) : S → Stmt → Bool
  | .asg (.fd o f) x, st => match asAssign st with
    | some (t, v, _) => (match asAttr t with
      | some (l, n, _) => decide (St f = n) && notComp v && mX k x v && mX k o l
      | none => false)
    | none => false
  | .asg g x, st => mAsg k g x st
  | .par is xs, st => match asAssign st with
    | some (t, v, _) => parB k is t v && (match asTup v with
      | some (es, _, _) => mXs k xs es
      | none => false)
    | none => false
  | .expr x, st => match asExpr st with
    | some (v, _) => notComp v && mX k x v
    | none => false
  | .ret x, st => match asRet st with
    | some (some v, _) => mX k x v
    | _ => false
  | .retN, st => match asRet st with
    | some (none, _) => true
    | _ => false
  | .ifs t a b, st => match asIfS st with
    | some (c, x, y, _) => mT k t c && mSs B k a x && mSs B k b y
    | none => false
  | .for_ g it b, st => match asFor st with
    | some (t, i, x, _) => !isStar t && notSet i && mIt k it t i && mTg k (allSl k) g t && mSs B k b x
    | none => false
  | .whl t b, st => match asWhl st with
    | some (c, x, _) => mT k t c && mSs B k b x
    | none => false
  | .raise c xs, st => match asRaise st with
    | some (x, _, es, _, _) => nmOk x && glB k.sc x && decide (k.ti.G.lookup x = some (.exc c)) && noStars es && exfB B c es && mXs k xs es
    | none => false
  | .try_ b c hk, st => match hk with
    | .rtf i f => (match asTryF st with
      | some (body, x, _, n, g, _, _, _, _, _) => decide (St f = g) && decide (k.N[i]? = some n) && decide (k.sc.names.lookup n = some .local) && nmOk n && glB k.sc x && decide ((x, c) ∈ k.ti.hn) && decide ((c, f) ∈ k.ti.tf) && mSs B k b body
      | none => false)
    | .rti i b' => (match asTryI st with
      | some (body, x, _, n, _, _, _, _, _, _, _) => decide (k.N[i]? = some n) && decide (k.sc.names.lookup n = some .local) && nmOk n && glB k.sc x && decide ((x, c) ∈ k.ti.hn) && decide ((c, b') ∈ k.ti.rti) && bltB k "isinstance" && bltB k "ValueError" && mSs B k b body
      | none => false)
    | .rtc d => (match asTryC st with
      | some (body, x, _, cc, _, _, _, _, _) => cstB d cc && glB k.sc x && decide ((x, c) ∈ k.ti.hn) && mSs B k b body
      | none => false)
    | .rtg j => (match asTryG st with
      | some (body, x, _, y, _, _, _, _) => nmOk y && glB k.sc y && decide (k.ti.G.lookup y = some (.cst j)) && glB k.sc x && decide ((x, c) ∈ k.ti.hn) && mSs B k b body
      | none => false)
  | .try2 b c j c2 i f, st => (match asTry2 st with
      | some (body, x, _, y, _, _, _, x2, _, n, g, _, _, _, _, _) => decide (St f = g) && decide (k.N[i]? = some n) && decide (k.sc.names.lookup n = some .local) && nmOk n && nmOk y && glB k.sc y && decide (k.ti.G.lookup y = some (.cst j)) && glB k.sc x && decide ((x, c) ∈ k.ti.hn) && glB k.sc x2 && decide ((x2, c2) ∈ k.ti.hn) && decide ((c2, f) ∈ k.ti.tf) && mSs B k b body
      | none => false)
  | .pass, st => isPass st
  | .brk, st => isBrk st
  | .cont, st => isCont st
  | .frz _, _ => false
def mSs (B : Tab) (k : Ck) : Ss → List Stmt → Bool
  | .nil, [] => true
  | .cons (.frz _) r, sts => mSs B k r sts
  | .cons s r, st :: sts => mS B k s st && mSs B k r sts
  | _, _ => false
end
end Ev

set_option Elab.async false
set_option linter.all false
set_option maxRecDepth 100000
set_option maxHeartbeats 8000000
/-! Ev6c: the check of statements means what it says. -/
namespace Ev
open PySem L2 PyProof.Rows
section
variable {ca : Nat → Addr} {ev : Nat → Value} {fad : Nat → Addr} {ffd : Nat → FuncData} {B : Tab} {T : List (Addr × Str)} {n : Nat}
theorem evX_lc {C : Cfg} {vs : List Nat} {gg : Tg} {it : It} {t : Ev.T} {el : X} {σ : Sl} : evX C (.lc vs gg it t el) σ = bnd (lcM (evIt C it) (evTg C gg) (evT C t) (evX C el) vs σ) fun xs => ret (.lst xs) := by
  rw [evX, lcM, bnd_assoc]
  congr 1
  funext its h
  unfold bnd
  dsimp only
  generalize compL (turnF (evTg C gg) (evT C t) (evX C el) vs σ) its h = r
  cases r with
  | none => rfl
  | some q =>
    obtain ⟨ys, h1⟩ := q
    by_cases hz : ys.length ≤ szL
    · simp only [if_pos hz]; rfl
    · simp only [if_neg hz]
theorem Gs.fnk {k : Ck} {Z : Cx} {W : WX} (hk : Z.env.scope.kind = .function) (g : Gs T n k Z W) : k.sc.kind = .function := by rw [← g.sc]; exact hk
theorem sFd {k : Ck} {Z : Cx} {W : WX} {st : Stmt} (o : X) (f : Nm) (x : X) (Fa : FacZ ca ev fad ffd B k Z) (co : CalZ ca fad ffd B T n k Z) (g : Gs T n k Z W) (h : mS B k (.asg (.fd o f) x) st = true) : pS Z ca T W st (exS (cfgOf B n) (.asg (.fd o f) x)) := by
  rw [mS] at h
  split at h
  · rename_i t v p h1
    split at h
    · rename_i l nn q h2
      obtain ⟨h, h6⟩ := and2 h
      obtain ⟨h, h5⟩ := and2 h
      obtain ⟨h3, h4⟩ := and2 h
      rw [asAssign_ok h1, asAttr_ok h2, ← of_dec h3]
      have e : exS (cfgOf B n) (.asg (.fd o f) x) = fun σ h => thenS (evX (cfgOf B n) x σ h) σ fun d h1 => thenS (bnd (evX (cfgOf B n) o σ) (fun x => bnd (setFD (cfgOf B n) x f d) fun _ => ret σ) h1) σ fun σ1 h2 => some (.nx σ1 h2) := by
        funext σ h
        rw [exS]
        congr 1
        all_goals (try (funext d h1; try rw [evTg]))
      rw [e]
      exact s_fldset (C := cfgOf B n) Fa.flds (sX o Fa co g.toGd h6).1 (sX x Fa co g.toGd h5).1 (swaps_no h4)
    · cases h
  · cases h
theorem sAsg {k : Ck} {Z : Cx} {W : WX} {st : Stmt} (gg : Tg) (x : X) (hk : Z.env.scope.kind = .function) (Fa : FacZ ca ev fad ffd B k Z) (co : CalZ ca fad ffd B T n k Z) (g : Gs T n k Z W) (h : mAsg k gg x st = true) : pS Z ca T W st (exS (cfgOf B n) (.asg gg x)) := by
  unfold mAsg at h
  have e : exS (cfgOf B n) (.asg gg x) = fun σ h => thenS (evX (cfgOf B n) x σ h) σ fun d h1 => thenS (evTg (cfgOf B n) gg d σ h1) σ fun σ1 h2 => some (.nx σ1 h2) := by
    funext σ h
    rw [exS]
  split at h
  · rename_i t v p h1
    rw [asAssign_ok h1]
    split at h
    · rename_i hn
      obtain ⟨h, h5⟩ := and2 h
      obtain ⟨h, h4⟩ := and2 h
      obtain ⟨h2, h3⟩ := and2 h
      rw [e]
      have hw : swappedStores [t] v Z.env = pure none := swV_ok hk (by rw [g.sc]; exact of_dec h3)
      have hst := notT h2
      exact s_asg (sX x Fa co g.toGd h5).1 (sTg gg Fa co g.toGd h4) (swapsSole_no hn) hw (by cases t <;> first | rfl | (simp [isStar] at hst))
    · split at h
      · rename_i elt tg iter ifs sc pl h2
        split at h
        · rename_i y py i vs g2 it tt el h3
          obtain ⟨h, c12⟩ := and2 h
          obtain ⟨h, c11⟩ := and2 h
          obtain ⟨h, c10⟩ := and2 h
          obtain ⟨h, c9⟩ := and2 h
          obtain ⟨h, c8⟩ := and2 h
          obtain ⟨h, c7⟩ := and2 h
          obtain ⟨h, c6⟩ := and2 h
          obtain ⟨h, c5⟩ := and2 h
          obtain ⟨h, c4⟩ := and2 h
          obtain ⟨c1, c2⟩ := and2 h
          have ev2 : (ownsOf k.N vs).map (·.2) = vs := of_dec c6
          have blk := blkOk_by c7
          rw [← g.N, ← g.sc] at blk
          rw [asLc_ok h2, asName_ok h3]
          rw [asLc_ok h2, asName_ok h3, ← g.sc] at c5
          have e2 : exS (cfgOf B n) (.asg (.nm i) (.lc vs g2 it tt el)) = fun σ h => thenS ((bnd (lcM (evIt (cfgOf B n) it) (evTg (cfgOf B n) g2) (evT (cfgOf B n) tt) (evX (cfgOf B n) el) vs σ) fun xs => ret (.lst xs)) h) σ fun d h1 => thenS (ret (σ.set i (some d)) h1) σ fun σ1 h2 => some (.nx σ1 h2) := by
            rw [e]
            funext σ h
            rw [evX_lc]
            congr 1
            all_goals (try (funext d h1; try rw [evTg]))
          rw [e2]
          rw [← ev2] at c10
          have := s_setLc (W := W) (mi := evIt (cfgOf B n) it) (mg := evTg (cfgOf B n) g2) (mt := evT (cfgOf B n) tt) (me := evX (cfgOf B n) el) (i := i) (y := y) (py := py) (spos := p) (ifs := ifs) (pos := pl) g.calm g.nd (by rw [g.N]; exact of_dec c2) (by rw [g.sc]; exact of_dec c4) (swLc_ok hk c5) (sIt it Fa co g.toGd c9) blk
            (fun s H C cl fp => by rw [g.N]; exact sTg (k := k.blk sc) (Z := Z.blk s H sc (compEnvC sc cl C Z.env) fp) g2 Fa co (gd_blk g.toGd s H sc C cl fp) c10)
            (fun s H C cl fp => by
              cases ifs with
              | nil =>
                cases tt <;> simp [isTT] at c11
                refine ⟨fun pins s σ H Q I hh => pts_nil.run pins s σ H Q I ?_⟩
                obtain ⟨L0, ρ, σd, hd, r, rs, f⟩ := hh
                have e1 : evT (cfgOf B n) .tt σd = ret true := by rw [evT]
                rw [e1] at f
                exact Fin.ret r f true rfl
              | cons c cs =>
                cases cs with
                | nil => exact pts_one (sT (k := k.blk sc) (Z := Z.blk s H sc (compEnvC sc cl C Z.env) fp) tt Fa co (gd_blk g.toGd s H sc C cl fp) c11)
                | cons _ _ => cases c11)
            (fun s H C cl fp => (sX (k := k.blk sc) (Z := Z.blk s H sc (compEnvC sc cl C Z.env) fp) el Fa co (gd_blk g.toGd s H sc C cl fp) c12).1) (folded_ok c8)
          rw [g.N, ev2] at this
          exact this
        · cases h
      · cases h
  · cases h
theorem gs_tr {k : Ck} {Z : Cx} {W W' : WX} (g : Gs T n k Z W) {pn : List (Addr × Obj)} {xe : Value → Shared → Prop} (tk : Takes (Z.tr pn xe) W') (po : PassesOwn (model Z.prog Z.w) Z.A Z.env xe) : Gs T n k (Z.tr pn xe) W' where
  calm := g.calm
  N := g.N
  nd := g.nd
  sc := g.sc
  fn := g.fn
  tk := tk
  rm := g.rm
  rl := g.rl
  gd := g.gd
  lam := g.lam
  po := po
  st := g.st
  fr := g.fr
theorem thenS_bnd {α β : Type} (m : M α) (f : α → M β) (h : Hd) (σ : Sl) (k : β → Hd → Option Out) : thenS (bnd m f h) σ k = thenS (m h) σ fun a h1 => thenS (f a h1) σ k := by
  unfold bnd thenS
  cases m h with
  | none => rfl
  | some q =>
    obtain ⟨q, h1⟩ := q
    cases q <;> rfl
mutual
theorem sS : ∀ (s : S) {k : Ck} {Z : Cx} {W : WX} {st : Stmt}, Z.env.scope.kind = .function → FacZ ca ev fad ffd B k Z → CalZ ca fad ffd B T n k Z → Gs T n k Z W → mS B k s st = true → pS Z ca T W st (exS (cfgOf B n) s)
  | .asg (.fd o f) x, k, Z, W, st, hk, Fa, co, g, h => sFd o f x Fa co g h
  | .asg (.nm i) x, k, Z, W, st, hk, Fa, co, g, h => by
    rw [mS] at h
    · exact sAsg _ x hk Fa co g h
    all_goals (intros; simp_all)
  | .asg (.tp ts) x, k, Z, W, st, hk, Fa, co, g, h => by
    rw [mS] at h
    · exact sAsg _ x hk Fa co g h
    all_goals (intros; simp_all)
  | .asg (.sb o i) x, k, Z, W, st, hk, Fa, co, g, h => by
    rw [mS] at h
    · exact sAsg _ x hk Fa co g h
    all_goals (intros; simp_all)
  | .par is xs, k, Z, W, st, hk, Fa, co, g, h => by
    rw [mS] at h
    split at h
    · rename_i t v p h1
      obtain ⟨h2, h3⟩ := and2 h
      split at h3
      · rename_i es j q h4
        have e : exS (cfgOf B n) (.par is xs) = fun σ h => thenS (evXs (cfgOf B n) xs σ h) σ fun ds h1 => match setAll is ds σ with | some σ1 => some (.nx σ1 h1) | none => none := by funext σ h; rw [exS] <;> rfl
        rw [e, asAssign_ok h1]
        unfold parB at h2
        split at h2
        · rename_i i j t1 t2 k1 q1 es' k2 q2 h5 h6
          rw [h4] at h6; cases h6
          split at h2
          · rename_i x px y py h7 h8
            obtain ⟨h2, c7⟩ := and2 h2
            obtain ⟨h2, c6⟩ := and2 h2
            obtain ⟨h2, c5⟩ := and2 h2
            obtain ⟨h2, c4⟩ := and2 h2
            obtain ⟨h2, c3⟩ := and2 h2
            obtain ⟨c1, c2⟩ := and2 h2
            obtain ⟨a, b, rfl⟩ := len2 (of_dec c6)
            have hw := swV_ok (env := Z.env) hk (by rw [g.sc]; exact of_dec c7)
            rw [asTup_ok h5, asTup_ok h4, asName_ok h7, asName_ok h8] at hw ⊢
            exact s_par2 g.calm g.nd (by rw [g.N]; exact of_dec c1) (by rw [g.N]; exact of_dec c2) (of_dec c3) (by rw [g.sc]; exact of_dec c4) (by rw [g.sc]; exact of_dec c5) (sXs xs Fa co g.toGd h3) hw
          · cases h2
        · rename_i i j l t1 t2 t3 k1 q1 es' k2 q2 h5 h6
          rw [h4] at h6; cases h6
          split at h2
          · rename_i x px y py z pz h7 h8 h9
            obtain ⟨h2, d4⟩ := and2 h2
            obtain ⟨h2, d3⟩ := and2 h2
            obtain ⟨h2, d2⟩ := and2 h2
            obtain ⟨h2, d1⟩ := and2 h2
            obtain ⟨h2, c7⟩ := and2 h2
            obtain ⟨h2, c6⟩ := and2 h2
            obtain ⟨h2, c5⟩ := and2 h2
            obtain ⟨h2, c4⟩ := and2 h2
            obtain ⟨h2, c3⟩ := and2 h2
            obtain ⟨c1, c2⟩ := and2 h2
            have hes : ∃ a b c, es = [a, b, c] := by
              have := of_dec d3
              match es, this with
              | [a, b, c], _ => exact ⟨a, b, c, rfl⟩
            obtain ⟨a, b, c, rfl⟩ := hes
            have hw := swV_ok (env := Z.env) hk (by rw [g.sc]; exact of_dec d4)
            rw [asTup_ok h5, asTup_ok h4, asName_ok h7, asName_ok h8, asName_ok h9] at hw ⊢
            exact s_par3 g.calm g.nd (by rw [g.N]; exact of_dec c1) (by rw [g.N]; exact of_dec c2) (by rw [g.N]; exact of_dec c3) (of_dec c4) (of_dec c5) (of_dec c6) (by rw [g.sc]; exact of_dec c7) (by rw [g.sc]; exact of_dec d1) (by rw [g.sc]; exact of_dec d2) (sXs xs Fa co g.toGd h3) hw
          · cases h2
        · cases h2
      · cases h3
    · cases h
  | .expr x, k, Z, W, st, hk, Fa, co, g, h => by
    rw [mS] at h
    split at h
    · rename_i v p h1
      obtain ⟨h2, h3⟩ := and2 h
      have e : exS (cfgOf B n) (.expr x) = fun σ h => thenS (evX (cfgOf B n) x σ h) σ fun _ h1 => some (.nx σ h1) := by funext σ h; rw [exS]
      rw [e, asExpr_ok h1]
      exact s_expr (sX x Fa co g.toGd h3).1 (swaps_no h2)
    · cases h
  | .ret x, k, Z, W, st, hk, Fa, co, g, h => by
    rw [mS] at h
    split at h
    · rename_i v p h1
      have e : exS (cfgOf B n) (.ret x) = fun σ h => thenS (evX (cfgOf B n) x σ h) σ fun d h1 => some (.rt d h1) := by funext σ h; rw [exS]
      rw [e, asRet_ok h1]
      exact s_ret (sX x Fa co g.toGd h).1
    · cases h
  | .retN, k, Z, W, st, hk, Fa, co, g, h => by
    rw [mS] at h
    split at h
    · rename_i p h1
      have e : exS (cfgOf B n) .retN = fun _ h => some (.rt .non h) := by funext σ h; rw [exS]
      rw [e, asRet_ok h1]
      exact s_retN
    · cases h
  | .ifs t a b, k, Z, W, st, hk, Fa, co, g, h => by
    rw [mS] at h
    split at h
    · rename_i c x y p h1
      obtain ⟨h, h4⟩ := and2 h
      obtain ⟨h2, h3⟩ := and2 h
      have e : exS (cfgOf B n) (.ifs t a b) = fun σ h => thenS (evT (cfgOf B n) t σ h) σ fun k h1 => if k then exSs (cfgOf B n) a σ h1 else exSs (cfgOf B n) b σ h1 := by funext σ h; rw [exS]
      rw [e, asIfS_ok h1]
      exact s_if (sT t Fa co g.toGd h2) (sSs a hk Fa co g h3) (sSs b hk Fa co g h4)
    · cases h
  | .for_ gg it b, k, Z, W, st, hk, Fa, co, g, h => by
    rw [mS] at h
    split at h
    · rename_i t i x p h1
      obtain ⟨h, h6⟩ := and2 h
      obtain ⟨h, h5⟩ := and2 h
      obtain ⟨h, h4⟩ := and2 h
      obtain ⟨h2, h3⟩ := and2 h
      have e : exS (cfgOf B n) (.for_ gg it b) = fun σ h => thenS (evIt (cfgOf B n) it σ h) σ fun its h1 => forL (fun x σ h => thenS (evTg (cfgOf B n) gg x σ h) σ fun σ1 h2 => exSs (cfgOf B n) b σ1 h2) its σ h1 := by funext σ h; rw [exS]
      rw [e, asFor_ok h1]
      exact s_for g.po g.calm (sIt it Fa co g.toGd h4) (sTg gg Fa co g.toGd h5) (sSs b hk Fa co g h6) (folded_ok h3)
    · cases h
  | .whl t b, k, Z, W, st, hk, Fa, co, g, h => by
    rw [mS] at h
    split at h
    · rename_i c x p h1
      obtain ⟨h2, h3⟩ := and2 h
      have e : exS (cfgOf B n) (.whl t b) = fun σ h => whlL (fun σ => evT (cfgOf B n) t σ) (fun σ h => exSs (cfgOf B n) b σ h) B.wl σ h := by funext σ h; rw [exS]
      rw [e, asWhl_ok h1]
      exact s_whl g.po (sT t Fa co g.toGd h2) (sSs b hk Fa co g h3) B.wl
    · cases h
  | .raise c xs, k, Z, W, st, hk, Fa, co, g, h => by
    rw [mS] at h
    split at h
    · rename_i x q es p3 p h1
      obtain ⟨h, h6⟩ := and2 h
      obtain ⟨h, h5⟩ := and2 h
      obtain ⟨h, h4⟩ := and2 h
      obtain ⟨h, h3⟩ := and2 h
      obtain ⟨h1', h2⟩ := and2 h
      obtain ⟨n1, n2, _⟩ := nmOk_ok h1'
      rw [asRaise_ok h1]
      obtain ⟨e1, e2, e3⟩ := Fa.exc x c (of_dec h3)
      rcases e3 with ⟨f, q1, q2, fI, fd, ps, q3, q4, q5, q6⟩ | ⟨q1, ⟨bmB, Bn, newId, initId, q2, q3⟩, q4, q5⟩
      · have e : exS (cfgOf B n) (.raise c xs) = fun σ h => thenS (evXs (cfgOf B n) xs σ h) σ fun ds h1 => match ds with | [d] => some (.ex c [(f, d)] σ h1) | _ => none := by
          funext σ h
          rw [exS]
          congr 1
          funext ds h1
          show (match ds, B.exf c with
            | [d], [f] => some (Out.ex c [(f, d)] σ h1)
            | [], [] => some (.ex c [] σ h1)
            | _, _ => none) = _
          rw [q1]
          cases ds with
          | nil => rfl
          | cons d ds => cases ds <;> rfl
        rw [e]
        cases es with
        | nil => unfold exfB at h5; rw [q1] at h5; cases h5
        | cons a es =>
          obtain ⟨g1, g2⟩ := and2 h4
          exact s_raise1 g.calm g.tk q2 q3 q4 q5 (g.rm.mono (by show 2 ≤ lev n + 2; omega)) q6 (glB_ok g.toGd h2) e1 (sXs xs Fa co g.toGd h6) n1 (star_no (notT g1)) (stars_none g2)
      · cases es with
        | cons a es => unfold exfB at h5; rw [q1] at h5; cases h5
        | nil =>
          cases xs with
          | nil =>
            have e : exS (cfgOf B n) (.raise c .nil) = fun σ h => some (.ex c [] σ h) := by
              funext σ h
              rw [exS, evXs]
              show (match ([] : List D), B.exf c with
                | [d], [f] => some (Out.ex c [(f, d)] σ h)
                | [], [] => some (.ex c [] σ h)
                | _, _ => none) = _
              rw [q1]
            rw [e]
            exact s_raise0 g.calm g.tk q2 q3 (raises_own q4 q5) e2 (glB_ok g.toGd h2) e1 n1
          | cons _ _ => simp [mXs] at h6
          | star _ _ => simp [mXs] at h6
    · cases h
  | .try_ b c hkk, k, Z, W, st, hk, Fa, co, g, h => by
    cases hkk with
    | rtf i f =>
      simp only [mS] at h
      split at h
      · rename_i body x p2 nn gf p5 p6 p7 p3 pos h1
        obtain ⟨h, h9⟩ := and2 h
        obtain ⟨h, h8⟩ := and2 h
        obtain ⟨h, h7⟩ := and2 h
        obtain ⟨h, h6⟩ := and2 h
        obtain ⟨h, h5⟩ := and2 h
        obtain ⟨h, h4⟩ := and2 h
        obtain ⟨h2, h3⟩ := and2 h
        obtain ⟨n1, n2, _⟩ := nmOk_ok h5
        obtain ⟨m1, m2⟩ := Fa.hn x c (of_dec h7)
        have e : exS (cfgOf B n) (.try_ b c (.rtf i f)) = fun σ h => match exSs (cfgOf B n) b σ h with
          | some (.ex e pl σ1 h1) => match B.sub e c with
            | some true => (match lkF f pl with
              | some v => if i < σ1.length then some (.rt v h1) else none
              | none => none)
            | some false => some (.ex e pl σ1 h1)
            | none => none
          | o => o := by funext σ h; rw [exS] <;> rfl
        rw [e, asTryF_ok h1, ← of_dec h2]
        exact s_try_f Fa.ex (Fa.tf c f (of_dec h8)) g.st g.fr g.nd (by rw [g.N]; exact of_dec h3) (by show Z.env.scope.names.lookup nn = some .local; rw [g.sc]; exact of_dec h4) (.inl (by rw [g.sc]; exact of_dec h4)) n1 n2 ⟨glB_ok g.toGd h6, m1, m2⟩ g.tk
          (fun W' pn xe tk po => sSs b hk Fa co (gs_tr g tk po) h9) (fun X _ => base_ok rfl)
      · cases h
    | rti i b' =>
      simp only [mS] at h
      split at h
      · rename_i body x p2 nn p3 p4 p5 p6 p7 p8 pos h1
        obtain ⟨h, h10⟩ := and2 h
        obtain ⟨h, h9⟩ := and2 h
        obtain ⟨h, h8⟩ := and2 h
        obtain ⟨h, h7⟩ := and2 h
        obtain ⟨h, h6⟩ := and2 h
        obtain ⟨h, h5⟩ := and2 h
        obtain ⟨h, h4⟩ := and2 h
        obtain ⟨h2, h3⟩ := and2 h
        obtain ⟨n1, n2, _⟩ := nmOk_ok h4
        obtain ⟨m1, m2⟩ := Fa.hn x c (of_dec h6)
        obtain ⟨b1, b2⟩ := blt_ok Fa g.toGd h8
        obtain ⟨b3, b4⟩ := blt_ok Fa g.toGd h9
        have e : exS (cfgOf B n) (.try_ b c (.rti i b')) = fun σ h => match exSs (cfgOf B n) b σ h with
          | some (.ex e pl σ1 h1) => match B.sub e c with
            | some true => if pl.isEmpty && decide (i < σ1.length) then some (.rt (.bl b') h1) else none
            | some false => some (.ex e pl σ1 h1)
            | none => none
          | o => o := by funext σ h; rw [exS] <;> rfl
        rw [e, asTryI_ok h1]
        exact s_try_i Fa.ex (Fa.rti c b' (of_dec h7)) g.st g.fr g.nd (by rw [g.N]; exact of_dec h2) (by show Z.env.scope.names.lookup nn = some .local; rw [g.sc]; exact of_dec h3) (.inl (by rw [g.sc]; exact of_dec h3)) n1 n2 ⟨glB_ok g.toGd h5, m1, m2⟩ g.tk
          b1 b2 b3 b4 rfl (by decide) (by decide) (fun W' pn xe tk po => sSs b hk Fa co (gs_tr g tk po) h10)
      · cases h
    | rtc d =>
      simp only [mS] at h
      split at h
      · rename_i body x p2 cc j p5 p7 p3 pos h1
        obtain ⟨h, h5⟩ := and2 h
        obtain ⟨h, h4⟩ := and2 h
        obtain ⟨h2, h3⟩ := and2 h
        obtain ⟨m1, m2⟩ := Fa.hn x c (of_dec h4)
        have e : exS (cfgOf B n) (.try_ b c (.rtc d)) = fun σ h => match exSs (cfgOf B n) b σ h with
          | some (.ex e pl σ1 h1) => match B.sub e c with
            | some true => some (.rt d h1)
            | some false => some (.ex e pl σ1 h1)
            | none => none
          | o => o := by funext σ h; rw [exS] <;> rfl
        rw [e, asTryC_ok h1]
        have key : ∃ v, (∀ X : Cx, PE X (.Constant cc j p5) (tC v)) ∧ ∀ ρ L H, Rep Z.K ρ L H d v := by
          cases d <;> cases cc <;> simp [cstB] at h2
          · exact ⟨_, fun X => pe_non, fun _ _ _ => by rw [Rep]⟩
          · subst h2; exact ⟨_, fun X => pe_bl, fun _ _ _ => by rw [Rep]⟩
          · subst h2; exact ⟨_, fun X => pe_int, fun _ _ _ => by rw [Rep]⟩
          · subst h2; exact ⟨_, fun X => pe_str, fun _ _ _ => by rw [Rep]⟩
        obtain ⟨v, k1, k2⟩ := key
        exact s_try_c (i := 0) Fa.ex g.st g.fr ⟨glB_ok g.toGd h3, m1, m2⟩ g.tk (fun W' pn xe tk po => sSs b hk Fa co (gs_tr g tk po) h5) k1 k2
      · cases h
    | rtg j =>
      simp only [mS] at h
      split at h
      · rename_i body x p2 y p5 p7 p3 pos h1
        obtain ⟨h, h7⟩ := and2 h
        obtain ⟨h, h6⟩ := and2 h
        obtain ⟨h, h5⟩ := and2 h
        obtain ⟨h, h4⟩ := and2 h
        obtain ⟨h2, h3⟩ := and2 h
        obtain ⟨n1, n2, _⟩ := nmOk_ok h2
        obtain ⟨m1, m2⟩ := Fa.hn x c (of_dec h6)
        obtain ⟨u, v, d, e1, e2, e3, e4⟩ := Fa.cst y j (of_dec h4)
        have e : exS (cfgOf B n) (.try_ b c (.rtg j)) = fun σ h => match exSs (cfgOf B n) b σ h with
          | some (.ex e pl σ1 h1) => match B.sub e c with
            | some true => some (.rt d h1)
            | some false => some (.ex e pl σ1 h1)
            | none => none
          | o => o := by
          funext σ h; rw [exS]
          have eg : (cfgOf B n).glb j = some d := e3
          cases exSs (cfgOf B n) b σ h with
          | none => rfl
          | some o =>
            cases o <;> try rfl
            rename_i e pl σ1 h1
            show (match (cfgOf B n).sub e c with
              | some true => (match (cfgOf B n).glb j with
                | some d => some (Out.rt d h1)
                | none => none)
              | some false => some (.ex e pl σ1 h1)
              | none => none) = _
            rw [eg] <;> rfl
        rw [e, asTryG_ok h1]
        exact s_try_g Fa.ex g.st g.fr g.nd ⟨glB_ok g.toGd h5, m1, m2⟩ g.tk (fun W' pn xe tk po => sSs b hk Fa co (gs_tr g tk po) h7) (glB_ok g.toGd h3) e1 e2 n1 e4
      · cases h
  | .try2 b c j c2 i f, k, Z, W, st, hk, Fa, co, g, h => by
    rw [mS] at h
    split at h
    · rename_i body x p2 y p5 p6 p3 x2 p4 nn gf p8 p9 p10 p7 pos h1
      obtain ⟨h, h13⟩ := and2 h
      obtain ⟨h, h12⟩ := and2 h
      obtain ⟨h, h11⟩ := and2 h
      obtain ⟨h, h10⟩ := and2 h
      obtain ⟨h, h9⟩ := and2 h
      obtain ⟨h, h8⟩ := and2 h
      obtain ⟨h, h7⟩ := and2 h
      obtain ⟨h, h6⟩ := and2 h
      obtain ⟨h, h5⟩ := and2 h
      obtain ⟨h, h4⟩ := and2 h
      obtain ⟨h, h3⟩ := and2 h
      obtain ⟨h1', h2⟩ := and2 h
      obtain ⟨n1, n2, _⟩ := nmOk_ok h4
      obtain ⟨y1, y2, _⟩ := nmOk_ok h5
      obtain ⟨m1, m2⟩ := Fa.hn x c (of_dec h9)
      obtain ⟨m3, m4⟩ := Fa.hn x2 c2 (of_dec h11)
      obtain ⟨u, v, d, e1, e2, e3, e4⟩ := Fa.cst y j (of_dec h7)
      have e : exS (cfgOf B n) (.try2 b c j c2 i f) = fun σ h => match exSs (cfgOf B n) b σ h with
        | some (.ex e pl σ1 h1) => match B.sub e c with
          | some true => some (.rt d h1)
          | some false => (match B.sub e c2 with
            | some true => (match lkF f pl with
              | some v => if i < σ1.length then some (.rt v h1) else none
              | none => none)
            | some false => some (.ex e pl σ1 h1)
            | none => none)
          | none => none
        | o => o := by
        funext σ h; rw [exS]
        have eg : (cfgOf B n).glb j = some d := e3
        cases exSs (cfgOf B n) b σ h with
        | none => rfl
        | some o =>
          cases o <;> try rfl
          rename_i e pl σ1 h1
          show (match (cfgOf B n).sub e c with
            | some true => (match (cfgOf B n).glb j with
              | some d => some (Out.rt d h1)
              | none => none)
            | some false => (match (cfgOf B n).sub e c2 with
              | some true => (match lkF f pl with
                | some v => if i < σ1.length then some (.rt v h1) else none
                | none => none)
              | some false => some (.ex e pl σ1 h1)
              | none => none)
            | none => none) = _
          rw [eg] <;> rfl
      rw [e, asTry2_ok h1, ← of_dec h1']
      exact s_try_2 Fa.ex (Fa.tf c2 f (of_dec h12)) g.st g.fr g.nd (by rw [g.N]; exact of_dec h2) (by show Z.env.scope.names.lookup nn = some .local; rw [g.sc]; exact of_dec h3) (.inl (by rw [g.sc]; exact of_dec h3)) n1 n2 ⟨glB_ok g.toGd h8, m1, m2⟩ ⟨glB_ok g.toGd h10, m3, m4⟩ g.tk
        (fun W' pn xe tk po => sSs b hk Fa co (gs_tr g tk po) h13) (glB_ok g.toGd h6) e1 e2 y1 e4 (fun X _ => base_ok rfl)
    · cases h
  | .pass, k, Z, W, st, hk, Fa, co, g, h => by
    rw [mS] at h
    cases st <;> simp [isPass] at h
    have e : exS (cfgOf B n) .pass = fun σ h => some (.nx σ h) := by funext σ h; rw [exS]
    rw [e]; exact s_pass
  | .brk, k, Z, W, st, hk, Fa, co, g, h => by
    rw [mS] at h
    cases st <;> simp [isBrk] at h
    have e : exS (cfgOf B n) .brk = fun σ h => some (.bk σ h) := by funext σ h; rw [exS]
    rw [e]; exact s_brk
  | .cont, k, Z, W, st, hk, Fa, co, g, h => by
    rw [mS] at h
    cases st <;> simp [isCont] at h
    have e : exS (cfgOf B n) .cont = fun σ h => some (.ct σ h) := by funext σ h; rw [exS]
    rw [e]; exact s_cont
  | .frz _, k, Z, W, st, hk, Fa, co, g, h => by simp [mS] at h
theorem sSs : ∀ (ss : Ss) {k : Ck} {Z : Cx} {W : WX} {sts : List Stmt}, Z.env.scope.kind = .function → FacZ ca ev fad ffd B k Z → CalZ ca fad ffd B T n k Z → Gs T n k Z W → mSs B k ss sts = true → pSs Z ca T W sts (exSs (cfgOf B n) ss)
  | .nil, k, Z, W, sts, hk, Fa, co, g, h => by
    cases sts with
    | cons _ _ => simp [mSs] at h
    | nil =>
      have e : exSs (cfgOf B n) .nil = fun σ h => some (.nx σ h) := by funext σ h; rw [exSs]
      rw [e]; exact s_nil
  | .cons s r, k, Z, W, sts, hk, Fa, co, g, h => by
    have ih := fun (st' : Stmt) (h' : mS B k s st' = true) => sS s hk Fa co g h'
    have ihr := fun (sts' : List Stmt) (h' : mSs B k r sts' = true) => sSs r hk Fa co g h'
    have gen : (∀ i, s ≠ .frz i) → pSs Z ca T W sts (exSs (cfgOf B n) (.cons s r)) := fun hs => by
      cases sts with
      | nil =>
        exfalso
        cases s <;> first | (exact hs _ rfl) | (simp [mSs] at h)
      | cons st sts =>
        have h' : (mS B k s st && mSs B k r sts) = true := by
          cases s <;> first | (exact absurd rfl (hs _)) | (rw [mSs] at h <;> first | exact h | (intros; simp_all))
        obtain ⟨h1, h2⟩ := and2 h'
        have e : exSs (cfgOf B n) (.cons s r) = fun σ h => match exS (cfgOf B n) s σ h with | some (.nx σ1 h1) => exSs (cfgOf B n) r σ1 h1 | o => o := by funext σ h; rw [exSs] <;> rfl
        rw [e]
        exact s_cons (ih st h1) (ihr sts h2)
    cases s with
    | frz i =>
      have h' : mSs B k r sts = true := by
        cases sts <;> (rw [mSs] at h; exact h)
      have e : exSs (cfgOf B n) (.cons (.frz i) r) = fun σ h => match (match σ[i]? with
      | some (some (.loc n)) => (match h[n]? with
        | some (.lst xs) => some (Out.nx (σ.set i (some (.lst xs))) (h.set n .dead))
        | _ => none)
      | some (some (.lst xs)) => some (.nx σ h)
      | some (some (.tup xs)) => some (.nx σ h)
      | _ => none) with | some (.nx σ1 h1) => exSs (cfgOf B n) r σ1 h1 | o => o := by
        funext σ h
        rw [exSs, exS]
        try rfl
      rw [e]
      exact s_frz (ihr sts h')
    | _ => exact gen (fun i z => nomatch z)
end
end
end Ev

set_option Elab.async false
set_option linter.all false
set_option maxRecDepth 100000
set_option maxHeartbeats 400000
/-! Ev7a: defs keep the evaluator's promise. -/
namespace Ev
open PySem L2 PyProof.Rows
section
variable {K : PySem.W.Frag} {ca : Nat → Addr} {T : List (Addr × Str)} {L0 : Addr → Prop} {ρ ρ' : List Addr} {hd hd' : Hd} {H H' : Hp}
mutual
theorem Rep.pur {L L' : Addr → Prop} (hL : ∀ a, ¬ L a → ¬ L' a) : ∀ (d : D) (v : V), pureD d = true → Rep K ρ L H d v → Rep K ρ' L' H d v
  | .non, v, hp, h => by rw [Rep] at h ⊢; exact h
  | .bl b, v, hp, h => by rw [Rep] at h ⊢; exact h
  | .int b, v, hp, h => by rw [Rep] at h ⊢; exact h
  | .str b, v, hp, h => by rw [Rep] at h ⊢; exact h
  | .tup ds, v, hp, h => by
    rw [pureD] at hp
    rw [Rep] at h ⊢
    obtain ⟨a, vs, e, h1, h2⟩ := h
    exact ⟨a, vs, e, h1, Reps.pur hL ds vs hp h2⟩
  | .wtp ds, v, hp, h => by
    rw [pureD] at hp
    rw [Rep] at h ⊢
    obtain ⟨a, vs, e, h1, h2⟩ := h
    exact ⟨a, vs, e, h1, Reps.pur hL ds vs hp h2⟩
  | .lst ds, v, hp, h => by
    rw [pureD] at hp
    rw [Rep] at h ⊢
    obtain ⟨a, vs, e, h1, h2, h3⟩ := h
    exact ⟨a, vs, e, h1, hL a h2, Reps.pur hL ds vs hp h3⟩
  | .ro ds, v, hp, h => by
    rw [pureD] at hp
    rw [Rep] at h ⊢
    obtain ⟨a, vs, e, h1, h3⟩ := h
    exact ⟨a, vs, e, h1.imp (fun q => ⟨q.1, hL a q.2⟩) id, Reps.pur hL ds vs hp h3⟩
  | .loc n, v, hp, h => by simp [pureD] at hp
theorem Reps.pur {L L' : Addr → Prop} (hL : ∀ a, ¬ L a → ¬ L' a) : ∀ (ds : List D) (vs : List V), pureDs ds = true → Reps K ρ L H ds vs → Reps K ρ' L' H ds vs
  | [], vs, hp, h => by rw [Reps] at h ⊢; exact h
  | d :: ds, vs, hp, h => by
    rw [pureDs] at hp
    obtain ⟨p1, p2⟩ := and2 hp
    rw [Reps] at h ⊢
    obtain ⟨v, w, e, h1, h2⟩ := h
    exact ⟨v, w, e, Rep.pur hL d v p1 h1, Reps.pur hL ds w p2 h2⟩
end
theorem RepF.pur {L L' : Addr → Prop} (hL : ∀ a, ¬ L a → ¬ L' a) : ∀ (ds : Pl) (vs : List (Str × V)), plPure ds = true → RepF K ρ L H ds vs → RepF K ρ' L' H ds vs
  | [], vs, hp, h => by rw [RepF] at h ⊢; exact h
  | (f, d) :: ds, vs, hp, h => by
    rw [plPure] at hp
    obtain ⟨p1, p2⟩ := and2 hp
    rw [RepF] at h ⊢
    obtain ⟨v, w, e, h1, h2⟩ := h
    exact ⟨v, w, e, Rep.pur hL d v p1 h1, RepF.pur hL ds w p2 h2⟩
/-- everything of ours stands outside -/
theorem RelH.aside (r : RelH K ca T L0 ρ hd H) : RelH K ca T (Lv L0 ρ hd) [] [] H := by
  have no : ∀ a, ¬ Own ([] : List Addr) ([] : Hd) a := fun a ⟨n, c, h1, _⟩ => by simp at h1
  refine ⟨rfl, fun i j a c d h1 => by simp at h1, fun n c a h1 => by simp at h1, fun a h => ⟨?_, no a⟩, r.tabs⟩
  rcases h with h | h
  · exact (r.l0 a h).1
  · exact r.own_Held h
theorem Post.back (r : RelH K ca T L0 ρ hd H) (p : Post K ca T (Lv L0 ρ hd) [] [] H ρ' hd' H') : Post K ca T L0 ρ hd H ρ hd H' := by
  have no : ∀ a, ¬ Own ([] : List Addr) ([] : Hd) a := fun a ⟨n, c, h1, _⟩ => by simp at h1
  have mo : Mono T L0 ρ hd H ρ hd H' := ⟨⟨[], by simp⟩, fun b o e _ ht => p.keep b o e (no b) ht, fun a h => .inl h, p.held⟩
  refine ⟨mo, r.len, r.nd, fun n c a h1 h2 => ?_, fun a h => ⟨p.held a (r.l0 a h).1, (r.l0 a h).2⟩, p.rel.tabs⟩
  by_cases hc : c = .dead
  · subst hc; trivial
  · obtain ⟨u, e, hu⟩ := r.own_Held ⟨n, c, h1, hc, h2⟩
    exact CellOk.mono r mo (r.cell n c a h1 h2) (by rw [p.keep a u e (no a) hu, e])
theorem start_rel {ds : List D} {vs : List V} {N : List Str} {ns : Nat} {L : Addr → Prop} (h : Reps K ρ L H ds vs) (hn : N.length = ns) (hl : ds.length ≤ ns) : RelS K ρ L H (Ev.start ns ds) (L2.start N vs) := by
  have hlen := h.length
  refine ⟨by simp [Ev.start, L2.start, hn, hlen], fun i d e => ?_⟩
  unfold Ev.start at e
  by_cases hi : i < ds.length
  · rw [List.getElem?_append_left (by simpa using hi), List.getElem?_map] at e
    cases hd : ds[i]? with
    | none => rw [hd] at e; cases e
    | some d' =>
      rw [hd] at e; cases e
      obtain ⟨v, e1, e2⟩ := h.get hd
      refine ⟨v, ?_, e2⟩
      unfold L2.start
      rw [List.getElem?_append_left (by simpa [← hlen] using hi), List.getElem?_map, e1]
      rfl
  · rw [List.getElem?_append_right (by simpa using hi)] at e
    rw [List.getElem?_replicate] at e
    split at e <;> cases e
end
/-- what is known of a def -/
structure DefOk (K : PySem.W.Frag) (mg : Str → Option Value) (base : Heap) (T : List (Addr × Str)) (ti : Ti) (B : Tab) (lam : Bool) (ad : Addr) (fd' : FuncData) (fi : FI) (F : Fe) (N : List Str) (name qual : Str) (params : Arguments) (body : List Stmt) (scope : Scope) (dV kV doc pm cdv ct oc : Value) (an od : Option Addr) (osl : Array (Option Value)) : Prop where
  lk : K.lookup ad = some ⟨oc, od, .func (PySem.W.fnOf name qual params body scope dV kV doc pm an cdv ct), osl⟩
  fd : fd' = PySem.W.fnOf name qual params body scope dV kV doc pm an cdv ct
  cd : PySem.W.codeIn K cdv qual = true
  sc : FnScope N fi.ps scope
  ck : mSs B ⟨ti, N, scope, scope, fi.gz, lam⟩ F.body body = true
  ns : N.length = F.ns
  np : fi.ps.length = F.np
  le : F.np ≤ F.ns
  lm : lam = true → ∃ cc P q, cdv = .ref cc ∧ qual ++ ".<locals>." ++ "<lambda>" = q ∧ LamX.TabB base mg cc P ∧ (P, q) ∈ T ∧ ∀ p ∈ T, p.1 = P → p.2 = q
section
variable {P : Program} {w : World} {K : PySem.W.Frag} {mg : Str → Option Value} {base : Heap} {ca : Nat → Addr} {ev : Nat → Value} {fad : Nat → Addr} {ffd : Nat → FuncData} {T : List (Addr × Str)} {ti : Ti} {B : Tab} {n : Nat}
theorem out_fin {W : WX} {Wc : Wish} {Q : VK} {L0 : Addr → Prop} {ρ : List Addr} {hd : Hd} {H : Hp} {o : Option Out} (hW : ∀ c d σ H, Wc c d H → W c d σ H)
    (h : Fin K ca T Wc L0 ρ hd H (outR o) (fun ρ' hd' H' d => ∀ v, Rep K ρ' (Lv L0 ρ' hd') H' d v → Q v H')) : FinO K ca T W { nx := fun _ H' => Q .non H', rt := Q } L0 ρ hd H o := by
  cases o with
  | none => exact h
  | some o =>
    cases o with
    | nx σ h1 => exact fun ρ' H' σ p _ => h ρ' H' p .non (by rw [Rep])
    | rt d h1 => exact fun ρ' H' v p rv => h ρ' H' p v rv
    | bk σ h1 => exact h.elim
    | ct σ h1 => exact h.elim
    | ex c pl σ h1 => exact fun ρ' H' σ d p _ ee => hW _ _ _ _ (h ρ' H' d p ee)
theorem body_gs {lam : Bool} {fi : FI} {ad : Addr} {N : List Str} {qual : Str} {scope : Scope} {cdv : Value} {A : Around} {outer : List Env} {s : Shared} {H : Hp} {E : XK} (nd : N.Nodup) (hrd : Room (lev n + 4) (A.deeper (envOfC qual scope s.heap.objs.size ad cdv))) (hg : fi.gz = true → A.guards = some [])
    (lm : lam = true → ∃ cc P q, cdv = .ref cc ∧ qual ++ ".<locals>." ++ "<lambda>" = q ∧ LamX.TabB base mg cc P ∧ (P, q) ∈ T ∧ ∀ p ∈ T, p.1 = P → p.2 = q) :
    Gs T n ⟨ti, N, scope, scope, fi.gz, lam⟩ (cxOf (L2.CX P w) P w K mg base N qual scope ad cdv A outer s H E) (fun cls d _ H => E cls d H) where
  calm := rfl
  N := rfl
  nd := nd
  sc := rfl
  fn := fun x hx => rfl
  tk := takes_of rfl rfl rfl rfl
  rm := by
    show Room (lev n + 2) (A.deeper (envOfC qual scope s.heap.objs.size ad cdv))
    exact hrd.mono (Nat.add_le_add_left (by decide) _)
  rl := fun _ => by
    show Room (lev n + 4) (A.deeper (envOfC qual scope s.heap.objs.size ad cdv))
    exact hrd
  gd := fun z => by
    show A.guards = some []
    exact hg z
  lam := fun z => by
    obtain ⟨cc, P', q, l1, l2, l3, l4, l5⟩ := lm z
    refine ⟨cc, P', q, ?_, ?_, l3, l4, l5⟩
    · show cdv = _
      exact l1
    · exact l2
  po := passes_of rfl
  st := rfl
  fr := rfl
/-- the body's reading, from the promise -/
theorem sp_body {f : Nat} {F : Fe} {N : List Str} {vs : List V} {H : Hp} {Q : VK} {E : XK} {np : Nat} (hF : B.fns[f]? = some F) (hns : N.length = F.ns) (hle0 : F.np ≤ F.ns) (hsp : spC K ca T (callN B (n + 1) f) np vs H Q E) :
    rdSt K ca T (fun cls d _ H => E cls d H) (exSs (cfgOf B n) F.body) { nx := fun _ H' => Q .non H', rt := Q } (L2.start N vs) H := by
  obtain ⟨_, L0, ρ, hd, ds, rh, rs, fn⟩ := hsp
  unfold callN at fn
  simp only [hF] at fn
  by_cases hdl : ds.length = F.np
  · rw [if_pos hdl] at fn
    have hle : ds.length ≤ F.ns := by rw [hdl]; exact hle0
    by_cases hpu : F.pu = true
    · rw [if_pos hpu] at fn
      by_cases hpd : pureDs ds = true
      · rw [if_pos hpd] at fn
        have ra := rh.aside
        have hLv : ∀ a, Lv (Lv L0 ρ hd) [] [] a ↔ Lv L0 ρ hd a := fun a => ⟨fun z => z.elim id fun ⟨n, c, h1, _⟩ => by simp at h1, .inl⟩
        refine ⟨Lv L0 ρ hd, [], Ev.start F.ns ds, [], ra, start_rel (Reps.pur (fun a z y => z ((hLv a).mp y)) ds vs hpd rs) hns hle, out_fin (Wc := E) (fun _ _ _ _ z => z) ?_⟩
        show Fin K ca T E (Lv L0 ρ hd) [] [] H (outR (exSs (cfgOf B n) F.body (Ev.start F.ns ds) [])) _
        unfold Fin at fn ⊢
        cases eo : outR (exSs (cfgOf B n) F.body (Ev.start F.ns ds) []) with
        | none => simp only [eo] at fn
        | some q =>
          obtain ⟨q, he⟩ := q
          simp only [eo] at fn
          cases q with
          | ok d =>
            simp only at fn
            by_cases hpd2 : pureD d = true
            · simp only [if_pos hpd2] at fn
              intro ρe He pe v rv
              have pb := Post.back rh pe
              refine fn ρ He pb v (Rep.pur (fun a z y => z ?_) d v hpd2 rv)
              exact .inl y
            · simp only [if_neg hpd2] at fn
          | ex c pl =>
            simp only at fn
            by_cases hpd2 : plPure pl = true
            · simp only [if_pos hpd2] at fn
              intro ρe He dd pe ee
              have pb := Post.back rh pe
              refine fn ρ He dd pb ?_
              rcases ee with ee | ⟨a, vfs, e1, e2, e3, e4⟩
              · exact .inl ee
              · exact .inr ⟨a, vfs, e1, e2, RepF.pur (fun a z y => z (.inl y)) pl vfs hpd2 e3, e4⟩
            · simp only [if_neg hpd2] at fn
      · rw [if_neg hpd] at fn; exact False.elim fn
    · rw [if_neg hpu] at fn
      exact ⟨L0, ρ, Ev.start F.ns ds, hd, rh, start_rel rs hns hle, out_fin (Wc := E) (fun _ _ _ _ z => z) fn⟩
  · rw [if_neg hdl] at fn; exact False.elim fn
theorem def_ok {lam : Bool} {f : Nat} {fi : FI} {F : Fe} {N : List Str} {name qual : Str} {params : Arguments} {body : List Stmt} {scope : Scope} {dV kV doc pm cdv ct oc : Value} {an od : Option Addr} {osl : Array (Option Value)}
    (Fa : Fac P w K mg base ca ev fad ffd ti B) (co : CallOk P w K mg base ca T fad ffd ti B n) (hF : B.fns[f]? = some F) (D : DefOk K mg base T ti B lam (fad f) (ffd f) fi F N name qual params body scope dV kV doc pm cdv ct oc an od osl) :
    FnE P w K mg base (lev (n + 1)) (fad f) (ffd f) fi.ps (spC K ca T (callN B (n + 1) f) fi.ps.length) fi.gz := by
  refine ⟨fun vs H Q E h => h.1, fun A outer s H args us vs Q E hr hg e0 hb r hsp => ?_⟩
  have hl := hsp.1
  have S := D.sc
  have KX : K.In s.heap := e0.mod.kin.keeps fun b o e => (e0.bs b o e).1
  have lim : s.heap.NoLimit := e0.mod.nolimit.keeps fun b o e => (e0.bs b o e).1
  have hkind : ∀ y ∈ fi.ps.zip us, scope.names.lookup y.1 = some .local ∨ (scope.names.lookup y.1 = some .cell ∧ ((cellsFrom (s.heap.objs.size + 1) scope.names []).lookup y.1).isSome = true) := fun ⟨nn, v⟩ hy => by
    rcases S.par nn (List.of_mem_zip hy).1 with q | q
    · exact .inl q
    · exact .inr ⟨q, PySem.W.cellsFrom_some _ _ _ (.inl q)⟩
  have hlev : lev (n + 1) = (lev n + 4) + 1 := by unfold lev; omega
  rw [hlev] at hr
  rw [D.fd] at hb
  refine codeAny_call_function hr.depth (KX _ _ D.lk) rfl S.co S.gen rfl (PySem.W.codeRec_of KX D.cd) (hb _ _ _ _ ?_)
  refine wpAny_newFunctionEnv_cells S.kind hkind fun env he s1 x => ?_
  subst he
  refine ⟨lim.keeps x.toInCall.keep, codeAny_func ?_⟩
  have hrd := hr.deeper (envOfC qual scope s.heap.objs.size (fad f) cdv)
  have I : Inv (cxOf (L2.CX P w) P w K mg base N qual scope (fad f) cdv A outer s H E) [] (L2.start N vs) H s1 := inv_start S hr.hd e0 hl r x
  have g : Gs T n ⟨ti, N, scope, scope, fi.gz, lam⟩ (cxOf (L2.CX P w) P w K mg base N qual scope (fad f) cdv A outer s H E) (fun cls d _ H => E cls d H) := body_gs S.nd hrd hg D.lm
  have ht := sSs F.body (k := ⟨ti, N, scope, scope, fi.gz, lam⟩) (Z := cxOf (L2.CX P w) P w K mg base N qual scope (fad f) cdv A outer s H E) (B := B) (n := n) S.kind Fa co g D.ck
  have hq := sp_body (N := N) hF D.ns D.le hsp
  refine wpAny_mono (ht.run [] s1 (L2.start N vs) H _ I hq) (fun fl s' hs => ?_) fun e s' hs => hs
  have fin : ∀ {σ' : L2.St} {H' : Hp} {v : V} {u : Value}, Inv (cxOf (L2.CX P w) P w K mg base N qual scope (fad f) cdv A outer s H E) [] σ' H' s' → RelV v u → Q v H' → CE outer P w H s Q u s' :=
    fun {σ' H' v u} J rv q => ⟨v, H', J.os, J.bare, J.base, J.hok, rv, q⟩
  cases fl with
  | ret u =>
    obtain ⟨v, σ', H', J, rv, q⟩ := hs
    exact fin J rv q
  | next =>
    obtain ⟨σ', H', J, q⟩ := hs
    exact fin (v := V.non) (u := Value.none) J rfl q
  | brk =>
    obtain ⟨_, _, _, q⟩ := hs
    exact False.elim q
  | cont =>
    obtain ⟨_, _, _, q⟩ := hs
    exact False.elim q
/-- all defs -/
def DefsOk (K : PySem.W.Frag) (mg : Str → Option Value) (base : Heap) (T : List (Addr × Str)) (fad : Nat → Addr) (ffd : Nat → FuncData) (ti : Ti) (B : Tab) : Prop := ∀ (f : Nat) (fi : FI), ti.fs[f]? = some fi → ∃ (F : Fe) (lam : Bool) (N : List Str) (name qual : Str) (params : Arguments) (body : List Stmt) (scope : Scope) (dV kV doc pm cdv ct oc : Value) (an od : Option Addr) (osl : Array (Option Value)), B.fns[f]? = some F ∧
  DefOk K mg base T ti B lam (fad f) (ffd f) fi F N name qual params body scope dV kV doc pm cdv ct oc an od osl
theorem defs_ok (Fa : Fac P w K mg base ca ev fad ffd ti B) (D : DefsOk K mg base T fad ffd ti B) : ∀ n, CallOk P w K mg base ca T fad ffd ti B n
  | 0 => fun f fi hf => by
    obtain ⟨F, lam, N, name, qual, params, body, scope, dV, kV, doc, pm, cdv, ct, oc, an, od, osl, hF, DD⟩ := D f fi hf
    refine ⟨fun vs H Q E h => h.1, fun A outer s H args us vs Q E hr hg e0 hb r hsp => ?_⟩
    obtain ⟨_, L0, ρ, hd, ds, rh, rs, fn⟩ := hsp
    exact False.elim fn
  | n + 1 => fun f fi hf => by
    obtain ⟨F, lam, N, name, qual, params, body, scope, dV, kV, doc, pm, cdv, ct, oc, an, od, osl, hF, DD⟩ := D f fi hf
    exact def_ok Fa (defs_ok Fa D n) hF DD
end
end Ev

set_option Elab.async false
set_option linter.all false
set_option maxRecDepth 100000
set_option maxHeartbeats 4000000
/-! Ev8a: a law's end where the promise is only asked at the law's own call. -/
namespace Ev
open PySem L2 PyProof.Rows LamX
section
variable {P : Program} {w : World} {K : PySem.W.Frag} {mg mb : Str → Option Value} {a : Addr} {cs : List (Addr × Addr)} {s₁ : Shared} {vs : List Value} {ns : List Int} {H : Hp}
abbrev tabsOf (cs : List (Addr × Addr)) : List Addr := cs.map (·.2)
/-- the head's heap, as the walk begins -/
structure Begin (K : PySem.W.Frag) (mg mb : Str → Option Value) (a : Addr) (cs : List (Addr × Addr)) (s₁ : Shared) (vs : List Value) (ns : List Int) : Prop where
  KX : K.In s₁.heap
  hns : s₁.heap.Ns mainGlobals mg
  hb : s₁.heap.Ns builtinsNs mb
  hbb : ∀ x : Str, x ≠ "__name__" → mb x = bootBuiltins x
  hlim : s₁.heap.NoLimit
  hg : s₁.gens = #[]
  hT : ∀ p ∈ cs, s₁.heap.get? p.2 = some { cls := .none, data := .fields #[] }
  nT : ∀ p ∈ cs, K.lookup p.2 = none
  C : ∀ p ∈ cs, PySem.W.CodeHd s₁.heap p.1 p.2
  hbm : ∃ (bm : Addr) (ob : Obj), mg "__builtins__" = some (.ref bm) ∧ bm ≠ builtinsNs ∧ s₁.heap.get? bm = some ob ∧ ob.cls = .type "module" ∧ ob.dict = some builtinsNs ∧ ob.data = .plain
  ha : s₁.heap.get? a = some { cls := .type "list", data := .seq vs.toArray }
  hi : IntsAre vs ns
  hl : ns.length ≤ sizeLine
theorem Begin.tab (g : Begin K mg mb a cs s₁ vs ns) {b : Addr} (hb : b ∈ tabsOf cs) : s₁.heap.get? b = some { cls := .none, data := .fields #[] } := by
  obtain ⟨p, hp, e⟩ := List.mem_map.mp hb
  rw [← e]; exact g.hT p hp
theorem Begin.aT (g : Begin K mg mb a cs s₁ vs ns) : a ∉ tabsOf cs := fun z => by
  have q := g.tab z
  rw [g.ha] at q
  cases congrArg Obj.data (Option.some.inj q)
/-- what H may track: the script, the tables -/
structure Few (K : PySem.W.Frag) (a : Addr) (cs : List (Addr × Addr)) (H : Hp) : Prop where
  few : ∀ b, H b ≠ none → b = a ∨ b ∈ tabsOf cs
  tb : ∀ p ∈ cs, H p.2 = some (.tbl #[])
  kind : ∀ b, H b = none ∨ b ∈ tabsOf cs ∨ ∃ o xs, H b = some (.frz o (.lst xs))
  kn : H a ≠ none → K.lookup a = none
theorem Few.none_of (g : Begin K mg mb a cs s₁ vs ns) (f : Few K a cs H) {b : Addr} {o : Obj} (e : s₁.heap.get? b = some o) (h1 : ∀ vs n, o.data ≠ .seq vs n) (h2 : o.data ≠ .fields #[]) : H b = none := by
  by_cases hn : H b = none
  · exact hn
  · exfalso
    rcases f.few b hn with rfl | ht
    · rw [g.ha] at e; cases e; exact h1 _ _ rfl
    · rw [g.tab ht] at e; cases e; exact h2 rfl
theorem Few.nsp (g : Begin K mg mb a cs s₁ vs ns) (f : Few K a cs H) {b : Addr} {m : Str → Option Value} (h : s₁.heap.Ns b m) : (hidT s₁.heap H).Ns b m := by
  obtain ⟨o, es, ep, e, d, r⟩ := h
  exact ⟨o, es, ep, hidT_get e (f.none_of g e (fun _ _ z => by rw [d] at z; cases z) (fun z => by rw [d] at z; cases z)), d, r⟩
theorem Few.kin (g : Begin K mg mb a cs s₁ vs ns) (f : Few K a cs H) : K.In (hidT s₁.heap H) := fun b o e => by
  refine hidT_get (g.KX b o e) ?_
  by_cases hn : H b = none
  · exact hn
  · exfalso
    rcases f.few b hn with rfl | ht
    · rw [f.kn hn] at e; cases e
    · obtain ⟨p, hp, ep⟩ := List.mem_map.mp ht
      rw [← ep, g.nT p hp] at e; cases e
theorem Few.tabB (g : Begin K mg mb a cs s₁ vs ns) (f : Few K a cs H) : ∀ p ∈ cs, TabB (hidT s₁.heap H) mg p.1 p.2 := fun p hp => by
  have et := g.hT p hp
  obtain ⟨bm, ob, b1, b2, b3, b4, b5, b6⟩ := g.hbm
  obtain ⟨og, eg, pg, g1, g2, _⟩ := g.hns
  refine ⟨?_, ⟨bm, ob, b1, b2, fun q => ?_, fun q => ?_, hidT_get b3 (f.none_of g b3 (fun _ _ z => by rw [b6] at z; cases z) (fun z => by rw [b6] at z; cases z)), b4, b5, b6⟩, fun z => ?_⟩
  · obtain ⟨o, us, file, tf, flags, tg, inF, text, tt, e1, r1, r2, r3, r⟩ := g.C p hp
    refine ⟨o, us, file, tf, flags, tg, inF, text, tt, hidT_get e1 (f.none_of g e1 (fun _ _ z => by rw [r2] at z; cases z) (fun z => ?_)), r1, r2, r3, r⟩
    rw [r2] at z
    cases z
    simp at r3
  · rw [q, g1] at b3; cases b3; rw [g2] at b6; cases b6
  · rw [q, et] at b3; cases b3; cases b6
  · rw [z, et] at g1; cases g1; cases g2
theorem Few.env0 (g : Begin K mg mb a cs s₁ vs ns) (f : Few K a cs H) (hok : HOk P w H s₁.heap) : Env0 P w K mg (hidT s₁.heap H) callerA [] s₁ H :=
  ⟨rfl, ⟨f.kin g, f.nsp g g.hns, ⟨mb, f.nsp g g.hb, g.hbb⟩, let ⟨mc, h1, h2⟩ := g.hlim; ⟨mc, f.nsp g h1, h2⟩⟩, fun b o e => of_hidT e, Nat.le_of_eq (hidT_size _ _), trivial, fun b hb => absurd (show b ∈ ([] : List Addr) from hb) (by simp), hok, .of_eq g.hg⟩
/-- the call's end is the law's -/
theorem Few.fin (g : Begin K mg mb a cs s₁ vs ns) (f : Few K a cs H) (hok : HOk P w H s₁.heap) {CX : CXT} (hCX : ∀ e s', CX [] H s₁ (fun _ _ _ => False) e s' → False) {r : Result} {s' : Shared}
    (h : CR CX [] P w H s₁ (fun v _ => v = .bl true) (fun _ _ _ => False) r s') : r = .ok (.ret (.bool true)) ∧ OldK s₁.heap s'.heap ∧ s'.os = s₁.os ∧ AllBare s'.gens := by
  cases r with
  | error e => exact (hCX e s' h).elim
  | ok fl =>
    cases fl with
    | next => exact False.elim h
    | brk => exact False.elim h
    | cont => exact False.elim h
    | ret u =>
      obtain ⟨v, H', os, bare, un, hok', r', q⟩ := h
      have q' : v = .bl true := q
      subst q'
      obtain rfl : u = Value.bool true := r'
      have key : ∀ b o, b ∉ tabsOf cs → s₁.heap.get? b = some o → s'.heap.get? b = some o := fun b o nb e => by
        rcases f.kind b with z | z | ⟨ob, xs, z⟩
        · exact un.keep b o e z (fun y => absurd (show b ∈ ([] : List Addr) from y) (by simp)) (by simp)
        · exact absurd z nb
        · obtain ⟨e1, _⟩ := hok b _ z
          obtain ⟨e2, _⟩ := hok' b _ (un.frzs b ob _ z)
          rw [e] at e1; cases e1
          exact e2
      have grown : ∀ b, b ∈ tabsOf cs → ∃ p ∈ cs, b = p.2 ∧ ∃ more : Array Value, s'.heap.get? b = some { cls := .none, data := .fields more } := fun b hb => by
        obtain ⟨p, hp, ep⟩ := List.mem_map.mp hb
        obtain ⟨more, z⟩ := un.tbls p.2 #[] (f.tb p hp)
        exact ⟨p, hp, ep.symm, _, by rw [← ep]; exact hok' p.2 _ z⟩
      refine ⟨rfl, ⟨fun b o e => ?_, fun b o e => ?_⟩, os, bare⟩
      · by_cases hb : b ∈ tabsOf cs
        · obtain ⟨p, hp, rfl, more, hm⟩ := grown b hb
          rw [g.hT p hp] at e
          cases e
          exact .inr (.inl ⟨((g.C p hp).tab (g.hT p hp)).isCodeTable, rfl, #[], more, rfl, by rw [Array.empty_append]; exact hm⟩)
        · exact .inl (key b o hb e)
      · by_cases hb : b ∈ tabsOf cs
        · obtain ⟨p, hp, rfl, more, hm⟩ := grown b hb
          exact ⟨_, hm⟩
        · exact ⟨o, key b o hb e⟩
/-- a heap that tracks the script and the tables -/
theorem Begin.few (g : Begin K mg mb a cs s₁ vs ns) : ∃ H : Hp, Few K a cs H ∧ HOk P w H s₁.heap ∧ SqL K H a (ns.map V.int) := by
  have rv := vals_ints g.hi
  have lenV := g.hi.length
  have mem : ∀ p ∈ cs, p.2 ∈ tabsOf cs := fun p hp => List.mem_map.mpr ⟨p, hp, rfl⟩
  have ht : ∀ b, b ∈ tabsOf cs → (if b ∈ tabsOf cs then some (HO.tbl #[]) else none) = some (.tbl #[]) := fun b hb => if_pos hb
  cases hk : K.lookup a with
  | some o =>
    have e := g.KX a o hk
    rw [g.ha] at e
    cases e
    refine ⟨fun b => if b ∈ tabsOf cs then some (.tbl #[]) else none, ⟨fun b z => ?_, fun p hp => if_pos (mem p hp), fun b => ?_, fun z => absurd (if_neg g.aT) z⟩, fun b u z => ?_, .inr ⟨_, vs.toArray, _, hk, rfl, rfl, rfl, by rw [List.size_toArray, lenV]; exact g.hl, by simpa using rv⟩⟩
    · by_cases hb : b ∈ tabsOf cs
      · exact .inr hb
      · exact absurd (if_neg hb) z
    · by_cases hb : b ∈ tabsOf cs
      · exact .inr (.inl hb)
      · exact .inl (if_neg hb)
    · by_cases hb : b ∈ tabsOf cs
      · cases (if_pos hb).symm.trans z
        exact g.tab hb
      · cases (if_neg hb).symm.trans z
  | none =>
    refine ⟨fun b => if b = a then some (.frz { cls := .type "list", data := .seq vs.toArray } (.lst (ns.map V.int))) else if b ∈ tabsOf cs then some (.tbl #[]) else none, ⟨fun b z => ?_, fun p hp => ?_, fun b => ?_, fun _ => hk⟩, fun b u z => ?_, .inl (.inr ⟨_, if_pos rfl⟩)⟩
    · by_cases hb : b = a
      · exact .inl hb
      · by_cases hb2 : b ∈ tabsOf cs
        · exact .inr hb2
        · exact absurd ((if_neg hb).trans (if_neg hb2)) z
    · have hne : ¬ p.2 = a := fun z => g.aT (by rw [← z]; exact mem p hp)
      exact (if_neg hne).trans (if_pos (mem p hp))
    · by_cases hb : b = a
      · exact .inr (.inr ⟨_, _, if_pos hb⟩)
      · by_cases hb2 : b ∈ tabsOf cs
        · exact .inr (.inl hb2)
        · exact .inl ((if_neg hb).trans (if_neg hb2))
    · by_cases hb : b = a
      · cases (if_pos hb).symm.trans z
        rw [hb]
        exact ⟨g.ha, by rw [List.length_map]; exact g.hl, vs, _, rv, g.ha⟩
      · have z1 := (if_neg hb).symm.trans z
        by_cases hb2 : b ∈ tabsOf cs
        · cases (if_pos hb2).symm.trans z1
          exact g.tab hb2
        · cases (if_neg hb2).symm.trans z1
/-- the law's own call -/
theorem law_callE {k : Nat} {fa : Addr} {fd : FuncData} {x : Str} {sp : Sp} {gz : Bool} (g : Begin K mg mb a cs s₁ vs ns) (hr : Room k callerA)
    (F : ∀ base : Heap, K.In base → base.Ns mainGlobals mg → (∀ p ∈ cs, TabB base mg p.1 p.2) → FnE P w K mg base k fa fd [x] sp gz) (hbind : ∀ (s : Shared) (u : Value), BindsTo s fd ⟨[u], []⟩ [(x, u)])
    (hsp : ∀ H : Hp, (∀ p ∈ cs, H p.2 = some (.tbl #[])) → SqL K H a (ns.map V.int) → sp [.ref a] H (fun v _ => v = .bl true) fun _ _ _ => False) :
    codeAny (model P w) callerA (.call (.ref fa) ⟨[.ref a], []⟩) (fun r s' => r = .ok (.ret (.bool true)) ∧ OldK s₁.heap s'.heap ∧ s'.os = s₁.os ∧ AllBare s'.gens) s₁ := by
  obtain ⟨H, f, hok, hS⟩ := g.few (P := P) (w := w)
  have e0 := f.env0 (P := P) (w := w) g hok
  refine codeAny_mono ((F _ (f.kin g) (f.nsp g g.hns) (f.tabB g)).run callerA [] s₁ H ⟨[.ref a], []⟩ [.ref a] [.ref a] _ _ hr (fun _ => rfl) e0 (hbind s₁ (.ref a)) (.cons rfl .nil) (hsp H f.tb hS)) fun r s' h => ?_
  exact f.fin g hok (CX := L2.CX P w) (fun e s' ⟨_, _, _, _, _, _, _, _, _, _, _, _, z⟩ => z) h
end
end Ev

set_option Elab.async false
set_option linter.all false
set_option maxRecDepth 100000
set_option maxHeartbeats 4000000
/-! Ev8b: a law's end, from the plain law. -/
namespace Ev
open PySem L2 PyProof.Rows LamX
/-- the plain law -/
def PlainLaw (B : Tab) (N f n : Nat) : Prop := ∀ ns : List Int, ns.length ≤ n → (∀ z ∈ ns, Builtin.Int.intBits z ≤ 1048576) → ∃ h, callN B N f [.ro (ns.map .int)] [] = some (.ok (.bl true), h)
section
variable {K : PySem.W.Frag} {ca : Nat → Addr} {B : Tab} {N f n : Nat} {cs : List (Addr × Addr)} {qs : Addr → Str} {H : Hp} {a : Addr} {ns : List Int}
/-- the tables, with the names that they tell -/
def tabT (cs : List (Addr × Addr)) (qs : Addr → Str) : List (Addr × Str) := cs.map fun p => (p.2, qs p.2)
theorem plain_sp (pl : PlainLaw B N f n) (hl : ns.length ≤ n) (hb : ∀ z ∈ ns, Builtin.Int.intBits z ≤ 1048576) (ht : ∀ p ∈ cs, H p.2 = some (.tbl #[])) (hS : SqL K H a (ns.map V.int)) :
    spC K ca (tabT cs qs) (callN B N f) 1 [.ref a] H (fun v _ => v = .bl true) (fun _ _ _ => False) := by
  obtain ⟨h, e⟩ := pl ns hl hb
  have no : ∀ b, ¬ Own ([] : List Addr) ([] : Hd) b := fun b ⟨n, c, h1, _⟩ => by simp at h1
  refine ⟨rfl, fun _ => False, [], [], [.ro (ns.map .int)], ⟨rfl, fun i j a c d h1 => by simp at h1, fun n c a h1 => by simp at h1, fun a z => z.elim, fun p hp => ?_⟩, ?_, ?_⟩
  · obtain ⟨q, hq, e⟩ := List.mem_map.mp hp
    rw [← e]
    exact TabS.nil (ht q hq)
  · simp only [Reps]
    refine ⟨_, [], rfl, ?_, rfl⟩
    rw [Rep]
    refine ⟨a, ns.map V.int, rfl, ?_, ?_⟩
    · rcases hS with (hS | ⟨o, hS⟩) | hS
      · exact .inl ⟨hS, fun z => z.elim id (no a)⟩
      · exact .inr (.inl ⟨o, hS⟩)
      · exact .inr (.inr hS)
    · exact Reps.of_ints _ ns
  · rw [e]
    intro ρ' H' p v rv
    rw [Rep] at rv
    exact rv
end
/-- what is known of the law's def at the head's heap h -/
def LawE (l : PySem.W.OpenLaw) (w : World) (K : PySem.W.Frag) (k n : Nat) (x : Str) (mg : Str → Option Value) (fa : Addr) (h : Heap) : Prop :=
  ∃ (fd : FuncData) (cs : List (Addr × Addr)) (qs : Addr → Str) (ca : Nat → Addr) (B : Tab) (N f : Nat) (gz : Bool), (∀ p ∈ cs, h.get? p.2 = some { cls := .none, data := .fields #[] }) ∧ (∀ p ∈ cs, K.lookup p.2 = none) ∧ (∀ p ∈ cs, PySem.W.CodeHd h p.1 p.2) ∧ (∀ (s : Shared) (u : Value), BindsTo s fd ⟨[u], []⟩ [(x, u)]) ∧
    PlainLaw B N f n ∧
    ∀ base : Heap, K.In base → base.Ns mainGlobals mg → (∀ p ∈ cs, TabB base mg p.1 p.2) → FnE l.prog w K mg base k fa fd [x] (spC K ca (tabT cs qs) (callN B N f) 1) gz
theorem walkE {l : PySem.W.OpenLaw} {n k : Nat} {q : Program} {loose : List Str} {XP : (Str → Option Value) → Heap → Prop} {YP : World → Heap → Prop} {d : DefRec} {K : Params → PySem.W.Frag} {x : Str}
    (hn : l.most = some n) (hn2 : n ≤ sizeLine) (hdf : d.params.defaults = []) (hr : Room k callerA) (hY : ∀ (w : World) (h : Heap), YP w h → (K w.params).In h)
    (F : ∀ (w : World) (mg : Str → Option Value) (fa : Addr) (h : Heap), YP w h → (K w.params).In h → h.Ns mainGlobals mg → mg d.name = some (.ref fa) → LawE l w (K w.params) k n x mg fa h) :
    PySem.W.WalkO q loose XP YP l.row.toRowW d [] (fun f vs => PySem.call f vs) := by
  refine Att.attach_callB hn hdf fun w s₀ s₁ mg mb fa o pm cd doc a vs ns G Y ho hd hcd hmg hobj hints hlen hbits hg => ?_
  have KX := hY w _ Y
  obtain ⟨fd, cs, qs, ca, B, N, f, gz, hT, nT, C, hb, pl, hF⟩ := F w mg fa _ Y KX G.T.g hmg
  exact law_callE ⟨KX, G.T.g, G.T.b, G.T.builtins, G.T.nolimit, hg, hT, nT, C, G.T.bmain, hobj, hints, Nat.le_trans hlen hn2⟩ hr hF hb fun H ht hS => plain_sp pl hlen hbits ht hS
end Ev

set_option Elab.async false
set_option linter.all false
set_option maxRecDepth 100000
set_option maxHeartbeats 4000000
/-! Ev9a: facts of the written part, as Bools. -/
namespace Ev
open PySem L2 PyProof.Rows
open He (ba eqO eqO_ok)
/-- an own error class whose instances are made by its own __init__ -/
def oexClsB (K : PySem.W.Frag) (C : Addr) : Bool := match K.lookup C with
  | some ⟨.type c, _, .cls cd, sl⟩ => (match cd.mro, sl.toList with
    | .ref C' :: bm, [_, _, _, _, some (.builtin n), _] => decide (c = "type") && (C' == C) && (n == "ValueError.__new__") && !cd.hasDel && cd.hasDict && PySem.HandSPX.refsVE bm
    | _, _ => false)
  | _ => false
def oexB (K : PySem.W.Frag) (C : Addr) : Bool := oexClsB K C && (eqO (PySem.W.findIn K (.ref C) "__setattr__") (some (some (.builtin "object.__setattr__"))) && (decide (PySem.W.subIn K (.ref C) (.type "BaseException") = some true) && (decide (PySem.W.typeIn K (.ref C) = some (.type "type")) && PySem.W.keepIn K (.ref C))))
theorem oexB_ok {K : PySem.W.Frag} {C : Addr} (h : oexB K C = true) : OexC K C := by
  obtain ⟨h1, h⟩ := ba h
  obtain ⟨h2, h⟩ := ba h
  obtain ⟨h3, h⟩ := ba h
  obtain ⟨h4, h5⟩ := ba h
  refine ⟨?_, eqO_ok h2, of_dec h3, of_dec h4, h5⟩
  unfold oexClsB at h1
  split at h1
  · rename_i c dd cd sl ho
    split at h1
    · rename_i C' bm k0 k1 k2 k3 n k5 hm hs
      simp only [Bool.and_eq_true, beq_iff_eq, Bool.not_eq_true', decide_eq_true_eq] at h1
      obtain ⟨⟨⟨⟨⟨rfl, rfl⟩, rfl⟩, hdel⟩, hdct⟩, hr⟩ := h1
      obtain ⟨nm, bs, mro, ns, qn, hd, sn, sub, ab, col, del⟩ := cd
      dsimp only at hm hdel hdct
      subst hm hdel hdct
      have hsl : sl = #[k0, k1, k2, k3, some (.builtin "ValueError.__new__"), k5] := by
        obtain ⟨l⟩ := sl
        simp only at hs
        rw [hs]
      subst hsl
      exact ⟨nm, qn, ns, bs, bm, sn, sub, ab, col, dd, k0, k1, k2, k3, k5, ho, hr⟩
    · cases h1
  · cases h1
/-- what isinstance asks -/
def clsIsB (K : PySem.W.Frag) (C : Addr) : Bool := eqO (PySem.W.findIn K (.ref C) "__class__") (some (some (.builtin "object.__class__"))) && (eqO (PySem.W.specialIn K (.builtin "object.__class__") "__get__") (some (some (.builtin "getset_descriptor.__get__"))) &&
  (decide (PySem.W.takesIn K (.builtin "object.__class__") = some true) && (decide (PySem.W.mroIn K C (.type "object") = some true) && [Ty.non, .bl, .int, .str, .tup, .lst].all fun t => decide (PySem.W.kitOne K (.type (tyStr t)) (.ref C) = some false))))
theorem clsIsB_ok {K : PySem.W.Frag} {C : Addr} (c : Cls K C) (h : clsIsB K C = true) : ClsIs K C := by
  obtain ⟨h1, h⟩ := ba h
  obtain ⟨h2, h⟩ := ba h
  obtain ⟨h3, h⟩ := ba h
  obtain ⟨h4, h5⟩ := ba h
  exact ⟨c, eqO_ok h1, eqO_ok h2, of_dec h3, of_dec h4, fun t ht => of_dec (List.all_eq_true.mp h5 t ht)⟩
/-- a class with an own __eq__ and no __ne__ -/
def eqClsB (K : PySem.W.Frag) (C f : Addr) : Bool := match K.lookup C with
  | some ⟨.type c, _, .cls cd, sl⟩ => (match cd.mro, sl.toList with
    | [.ref C', .type o], [_, _, _, _, some (.builtin n), _] => decide (c = "type") && (C' == C) && decide (o = "object") && !cd.hasDel && PySem.W.nsOkIn K cd.ns && eqO (PySem.W.nsIn K cd.ns "__eq__") (some (some (.ref f))) && eqO (PySem.W.nsIn K cd.ns "__ne__") (some none)
    | _, _ => false)
  | _ => false
def fnObB (K : PySem.W.Frag) (f : Addr) : Bool := match K.lookup f with
  | some o => decide (o.cls = .type "function")
  | none => false
def eqcB (K : PySem.W.Frag) (C f : Addr) : Bool := eqO (PySem.W.findIn K (.ref C) "__eq__") (some (some (.ref f))) && (PySem.W.isFn K (.ref f) && (([Ty.non, .bl, .int, .str, .tup, .lst].all fun t => PySem.W.notFirst K C (.type (tyStr t))) && (eqClsB K C f && fnObB K f)))
theorem eqcB_ok {K : PySem.W.Frag} {C f : Addr} (h : eqcB K C f = true) : EqC K C f := by
  obtain ⟨h1, h⟩ := ba h
  obtain ⟨h2, h⟩ := ba h
  obtain ⟨h3, h⟩ := ba h
  obtain ⟨h4, h5⟩ := ba h
  refine ⟨eqO_ok h1, h2, fun t ht => List.all_eq_true.mp h3 t ht, ?_, ?_⟩
  · unfold eqClsB at h4
    split at h4
    · rename_i c dd cd sl ho
      split at h4
      · rename_i C' o k0 k1 k2 k3 n k5 hm hs
        simp only [Bool.and_eq_true, beq_iff_eq, Bool.not_eq_true', decide_eq_true_eq] at h4
        obtain ⟨⟨⟨⟨⟨⟨rfl, rfl⟩, rfl⟩, hdel⟩, hn⟩, he⟩, hne⟩ := h4
        obtain ⟨nm, bs, mro, ns, qn, hd, sn, sub, ab, col, del⟩ := cd
        dsimp only at hm hdel hn he hne
        subst hm hdel
        have hsl : sl = #[k0, k1, k2, k3, some (.builtin n), k5] := by
          obtain ⟨l⟩ := sl
          simp only at hs
          rw [hs]
        subst hsl
        exact ⟨nm, qn, ns, bs, hd, sn, sub, ab, col, dd, k0, k1, k2, k3, k5, n, ho, hn, eqO_ok he, eqO_ok hne⟩
      · cases h4
    · cases h4
  · unfold fnObB at h5
    split at h5
    · rename_i o ho
      exact ⟨o, ho, of_dec h5⟩
    · cases h5
/-- what isinstance asks of a caught error -/
def excCB (K : PySem.W.Frag) (D : Addr) : Bool := eqO (PySem.W.findIn K (.ref D) "__getattribute__") (some (some (.builtin "BaseException.__getattribute__"))) && (eqO (PySem.W.findIn K (.ref D) "__getattr__") (some none) && (decide (PySem.W.subIn K (.ref D) (.type "BaseException") = some true) &&
  (PySem.W.hasDictIn K D && (eqO (PySem.W.findIn K (.ref D) "__class__") (some (some (.builtin "object.__class__"))) && (eqO (PySem.W.specialIn K (.builtin "object.__class__") "__get__") (some (some (.builtin "getset_descriptor.__get__"))) &&
  (decide (PySem.W.takesIn K (.builtin "object.__class__") = some true) && decide (PySem.W.mroIn K D (.type "object") = some true)))))))
theorem excCB_ok {K : PySem.W.Frag} {D : Addr} (h : excCB K D = true) : ExcC K D := by
  obtain ⟨h1, h⟩ := ba h
  obtain ⟨h2, h⟩ := ba h
  obtain ⟨h3, h⟩ := ba h
  obtain ⟨h4, h⟩ := ba h
  obtain ⟨h5, h⟩ := ba h
  obtain ⟨h6, h⟩ := ba h
  obtain ⟨h7, h8⟩ := ba h
  exact ⟨eqO_ok h1, eqO_ok h2, of_dec h3, h4, eqO_ok h5, eqO_ok h6, of_dec h7, of_dec h8⟩
theorem lk_mem {α β : Type} [BEq α] [LawfulBEq α] : ∀ {l : List (α × β)} {a : α} {b : β}, l.lookup a = some b → (a, b) ∈ l
  | [], a, b, h => by simp at h
  | (c, d) :: l, a, b, h => by
    rw [List.lookup_cons] at h
    by_cases e : (a == c) = true
    · simp only [e] at h
      cases h
      rw [eq_of_beq e]
      exact List.mem_cons_self
    · simp only [e] at h
      exact List.mem_cons_of_mem _ (lk_mem h)
/-- a written dict: keys told or denied -/
def dctB (K : PySem.W.Frag) (d : Addr) (t : List (Nm × Option D)) : Bool := t.all fun p => match p.2 with
  | none => eqO (PySem.W.nsIn K d (St p.1)) (some none)
  | some (.int i) => (match PySem.W.nsIn K d (St p.1) with
    | some (some (.int j _)) => decide (i = j)
    | _ => false)
  | some (.str s) => (match PySem.W.nsIn K d (St p.1) with
    | some (some (.str z _)) => decide (St s = z)
    | _ => false)
  | _ => false
theorem dctB_ok {K : PySem.W.Frag} {w : World} {d : Addr} {t : List (Nm × Option D)} (hd : ∃ es n, KDict K w d es n) (h : dctB K d t = true) : DctOk K w d (dctF t) := by
  refine ⟨hd, fun s r e => ?_⟩
  have hm : (s, r) ∈ t := lk_mem (show t.lookup s = some r from e)
  have h1 := List.all_eq_true.mp h (s, r) hm
  dsimp only at h1
  cases r with
  | none => exact eqO_ok h1
  | some v =>
    cases v <;> first | (cases h1; done) | skip
    · rename_i i
      have h2 : (match PySem.W.nsIn K d (St s) with | some (some (.int j _)) => decide (i = j) | _ => false) = true := h1
      split at h2
      · rename_i j k hq
        have := of_dec h2
        subst this
        exact ⟨_, .int i, hq, ⟨k, rfl⟩, fun _ _ _ => by rw [Rep]⟩
      · cases h2
    · rename_i z
      have h2 : (match PySem.W.nsIn K d (St s) with | some (some (.str y _)) => decide (St z = y) | _ => false) = true := h1
      split at h2
      · rename_i y k hq
        have := of_dec h2
        subst this
        exact ⟨_, .str (St z), hq, ⟨k, rfl⟩, fun _ _ _ => by rw [Rep]⟩
      · cases h2
end Ev

set_option Elab.async false
set_option linter.all false
set_option maxRecDepth 100000
set_option maxHeartbeats 4000000
/-! Ev9b: own errors' __init__; defs from their facts. -/
namespace Ev
open PySem L2 PyProof.Rows
section
variable {P : Program} {w : World} {K : PySem.W.Frag} {mg : Str → Option Value} {base : Heap}
/-- def __init__(self, g): self.f = g -/
theorem oex_init {C fI : Addr} {fd : FuncData} {x qual self g f : Str} {params : Arguments} {scope : Scope} {p1 p2 p3 p4 : Pos} (T : OexC K C) (hno : PySem.W.findIn K (.ref C) f = some none)
    (F : FunD K x qual params [.Assign [.Attribute (.Name self p1) f p2] (.Name g p3) p4] scope [] [] fI fd) (S : FnScope [self, g] [self, g] scope) (n1 : nmOk self = true) (n2 : nmOk g = true) :
    FnOk P w K mg base (L2.CX P w) 1 fI fd [self, g] (spX C f) := by
  obtain ⟨a1, a2, _⟩ := nmOk_ok n1
  obtain ⟨b1, b2, _⟩ := nmOk_ok n2
  have par : ∀ y ∈ [self, g], Vis scope y := fun y hy => (S.par y hy).elim .inl fun z => .inr (.inl z)
  refine F.ok S (fun vs H Q E h => ?_) (fun cdv A outer s H vs Q E hr h => ⟨_, pss_one (ps_ost (pe_var (i := 0) rfl (par self (by simp)) a1 a2) (pe_var (i := 1) rfl (par g (by simp)) b1 b2) rfl), ?_⟩)
  · obtain ⟨a, y, rfl, _⟩ := h
    rfl
  · obtain ⟨a, y, rfl, ha, hq⟩ := h
    exact ⟨y, rfl, .ref a, rfl, a, C, rfl, T, hno, .inl ⟨ha, fun dx h1 h2 => hq dx h1 h2⟩⟩
/-- a def, from what the head tells -/
theorem defOk_of {T : List (Addr × Str)} {ti : Ti} {B : Tab} {lam : Bool} {ad : Addr} {fd : FuncData} {fi : FI} {F : Fe} {N : List Str} {name qual : Str} {params : Arguments} {body : List Stmt} {scope : Scope} {dvs : List V} {kws : List (Str × V)}
    (D : FunD K name qual params body scope dvs kws ad fd) (S : FnScope N fi.ps scope) (ck : mSs B ⟨ti, N, scope, scope, fi.gz, lam⟩ F.body body = true) (ns : N.length = F.ns) (np : fi.ps.length = F.np) (le : F.np ≤ F.ns)
    (lm : lam = true → ∀ cdv : Value, (∃ (oc : Value) (od : Option Addr) (dV kV doc pm : Value) (an : Option Addr) (ct : Value) (osl : Array (Option Value)), K.lookup ad = some ⟨oc, od, .func (PySem.W.fnOf name qual params body scope dV kV doc pm an cdv ct), osl⟩) →
      ∃ cc P q, cdv = .ref cc ∧ qual ++ ".<locals>." ++ "<lambda>" = q ∧ LamX.TabB base mg cc P ∧ (P, q) ∈ T ∧ ∀ p ∈ T, p.1 = P → p.2 = q) :
    ∃ (dV kV doc pm cdv ct oc : Value) (an od : Option Addr) (osl : Array (Option Value)), DefOk K mg base T ti B lam ad fd fi F N name qual params body scope dV kV doc pm cdv ct oc an od osl := by
  obtain ⟨oc, od, dV, kV, doc, pm, an, cdv, ct, osl, e1, lk, hcd, _, _⟩ := D.ex
  refine ⟨dV, kV, doc, pm, cdv, ct, oc, an, od, osl, by rw [lk, e1], e1, hcd, S, ck, ns, np, le, fun z => ?_⟩
  exact lm z cdv ⟨oc, od, dV, kV, doc, pm, an, ct, osl, by rw [lk, e1]⟩
end
end Ev

set_option Elab.async false
set_option linter.all false
set_option maxRecDepth 100000
set_option maxHeartbeats 4000000
/-! Ev9c: a law's facts, from the head's words. -/
namespace Ev
open PySem L2 PyProof.Rows
open He (ba eqO eqO_ok)
/-- a law's data -/
structure LD where
  ti : Ti
  B : Tab
  cn : List Str
  ds : List He.DefD
  xd : List (Str × Nat × He.DefD)     -- own errors with a field: class, index, __init__
  td : List (Str × Nat × He.DefD)     -- defs that try what they get
  sb : List (List (Option Bool))
  fl : List (List Nm)
  xf : List (List Nm)
  dt : List (List (Nm × Option D))
  dn : List Str                        -- names of dicts
def LD.ca (L : LD) (K : PySem.W.Frag) (c : Nat) : Addr := He.ga K (L.cn.getD c "")
def LD.ev (L : LD) (K : PySem.W.Frag) (c : Nat) : Value := if c < L.cn.length then .ref (L.ca K c) else .type "ValueError"
def LD.fad (L : LD) (K : PySem.W.Frag) (f : Nat) : Addr := match L.ds[f]? with
  | some d => He.fAd K d.at_
  | none => 0
def fdAt (K : PySem.W.Frag) (a : Addr) : FuncData := match K.lookup a with
  | some ⟨_, _, .func fd, _⟩ => fd
  | _ => default
def LD.ffd (L : LD) (K : PySem.W.Frag) (f : Nat) : FuncData := fdAt K (L.fad K f)
def LD.fn (L : LD) : List He.DefD := L.ds ++ L.xd.map (·.2.2) ++ L.td.map (·.2.2)
/-! ### what is asked of K -/
def gK (L : LD) (K : PySem.W.Frag) (p : Str × GV) : Bool := match p.2 with
  | .fn f => (He.Fa.glo p.1).ok K
  | .cls c f => (He.Fa.glo p.1).ok K && ((He.Fa.mkr p.1).ok K && (He.Fa.cls p.1).ok K)
  | .exc c => (He.Fa.glo p.1).ok K && (match L.xf.getD c [] with
    | [f] => oexB K (He.ga K p.1) && (eqO (PySem.W.findIn K (.ref (He.ga K p.1)) "__init__") (some (some (.ref (He.fAd K (p.1, some ("__init__" : Str)))))) && (decide (PySem.W.typeIn K (.ref (He.fAd K (p.1, some ("__init__" : Str)))) = some (.type "function")) &&
      (xfB K (He.ga K p.1) && eqO (PySem.W.findIn K (.ref (He.ga K p.1)) (St f)) (some none))))
    | [] => (He.Fa.exc p.1).ok K
    | _ => false)
  | .cst k => (match L.B.glb[k]? with
    | some (.int i) => (He.Fa.int p.1 i).ok K
    | some (.str s) => (He.Fa.str p.1 (St s)).ok K
    | _ => false)
  | .dct k => (He.Fa.glo p.1).ok K && dctB K (He.ga K p.1) (L.dt.getD k [])
  | .told f => (He.Fa.glo p.1).ok K
def exK (L : LD) (K : PySem.W.Frag) : Bool := L.ti.G.all (gK L K) && (L.ti.bl.all (fun x => (He.Fa.free x).ok K) && (L.ti.ms.all (fun p => (He.Fa.meth (L.cn.getD p.1 "") (St p.2.1)).ok K && (He.Fa.cls (L.cn.getD p.1 "")).ok K) &&
  ((List.range L.cn.length).all (fun c => (L.fl.getD c []).isEmpty || ((He.Fa.cls (L.cn.getD c "")).ok K && (L.fl.getD c []).all fun f => eqO (PySem.W.findIn K (.ref (L.ca K c)) (St f)) (some none))) &&
  (L.ti.ci.all (fun c => (He.Fa.cls (L.cn.getD c "")).ok K && clsIsB K (L.ca K c)) && (L.ti.eqc.all (fun p => eqcB K (L.ca K p.1) (L.fad K p.2)) && (L.ti.rti.all (fun p => (List.range L.cn.length).all fun e => decide ((L.sb.getD e []).getD p.1 none ≠ some true) || (excCB K (L.ca K e) && decide (PySem.W.kitOne K (.ref (L.ca K e)) (.type "ValueError") = some p.2))) &&
  (List.range L.cn.length).all (fun e => (List.range L.cn.length).all fun c => match (L.sb.getD e []).getD c none with
    | some b => (He.Fa.exm (L.cn.getD e "") (L.cn.getD c "") b).ok K
    | none => true)))))))
/-! ### what is asked of the data -/
def gS (L : LD) (p : Str × GV) : Bool := match p.2 with
  | .fn f => (match L.ti.fs[f]?, L.ds[f]? with
    | some _, some d => decide (d.at_ = (p.1, none))
    | _, _ => false)
  | .cls c f => decide (L.cn[c]? = some p.1) && (match L.ti.fs[f]?, L.ds[f]? with
    | some fi, some d => !fi.gz && decide (d.at_ = (p.1, some ("__init__" : Str)))
    | _, _ => false)
  | .exc c => decide (L.cn[c]? = some p.1) && (match L.xf.getD c [] with
    | [f] => L.xd.any fun q => decide (q.1 = p.1) && decide (q.2.1 = c)
    | _ => true)
  | .cst k => true
  | .dct k => decide (L.dn[k]? = some p.1)
  | .told f => L.td.any fun q => decide (q.1 = p.1) && decide (q.2.1 = f)
def dataB (L : LD) : Bool := L.ti.G.all (gS L) && (L.ti.ms.all (fun p => match L.ti.fs[p.2.2]?, L.ds[p.2.2]? with
    | some _, some d => decide (d.at_ = (L.cn.getD p.1 "", some (St p.2.1)))
    | _, _ => false) && (decide (L.fl.length ≤ L.cn.length) && (decide (L.sb.length ≤ L.cn.length) && (L.sb.all (fun r => decide (r.length ≤ L.cn.length)) && (decide (L.xf.length ≤ L.cn.length) &&
  ((List.range L.cn.length).all (fun c => (L.xf.getD c []).isEmpty || (L.cn[c]?.any fun x => decide (L.ti.G.lookup x = some (.exc c)))) && (L.ti.hn.all (fun p => !(p.1 == ("__debug__" : Str)) && (decide (L.cn[p.2]? = some p.1) && decide (L.ti.G.lookup p.1 = some (.exc p.2)))) &&
  (L.ti.tf.all (fun p => (List.range L.cn.length).all fun e => decide ((L.sb.getD e []).getD p.1 none ≠ some true) || (L.xf.getD e []).contains p.2) && (L.ti.ci.all (fun c => decide (c < L.cn.length)) && L.ti.eqc.all (fun p => match L.ti.fs[p.2]? with
    | some fi => !fi.gz && decide (fi.ps.length = 2)
    | none => false))))))))))
/-- one def -/
structure DOk (B : Tab) (ti : Ti) (tf : List He.Defn) (lq : Str) (d : He.DefD) (fi : FI) (F : Fe) : Prop where
  bi : ∀ (kV doc pm : Value) (an : Option Addr) (cdv ct : Value) (us : List Value), us.length = fi.ps.length → bindArgs (PySem.W.fnOf d.name d.qual d.params d.body d.scope .none kV doc pm an cdv ct) ⟨us, []⟩ = pure (fi.ps.zip us)
  nd : d.dfl = [] ∧ d.kwd = []
  go : ∃ (N : List Str) (lam : Bool), FnScope N fi.ps d.scope ∧ mSs B ⟨ti, N, d.scope, d.scope, fi.gz, lam⟩ F.body d.body = true ∧ N.length = F.ns ∧ (lam = true → tf = [d.at_] ∧ d.qual ++ ".<locals>." ++ "<lambda>" = lq)
  np : fi.ps.length = F.np
  le : F.np ≤ F.ns
/-- all defs, side by side -/
inductive All3 (B : Tab) (ti : Ti) (tf : List He.Defn) (lq : Str) : List He.DefD → List FI → List Fe → Prop where
  | nil : All3 B ti tf lq [] [] []
  | cons {d : He.DefD} {fi : FI} {F : Fe} {ds : List He.DefD} {fis : List FI} {Fs : List Fe} (h : DOk B ti tf lq d fi F) (r : All3 B ti tf lq ds fis Fs) : All3 B ti tf lq (d :: ds) (fi :: fis) (F :: Fs)
theorem All3.at {B : Tab} {ti : Ti} {tf : List He.Defn} {lq : Str} : ∀ {ds : List He.DefD} {fis : List FI} {Fs : List Fe}, All3 B ti tf lq ds fis Fs → ∀ (f : Nat) (d : He.DefD) (fi : FI) (F : Fe), ds[f]? = some d → fis[f]? = some fi → Fs[f]? = some F → DOk B ti tf lq d fi F
  | _, _, _, .nil, f, d, fi, F, h1, _, _ => by simp at h1
  | _, _, _, .cons h r, 0, d, fi, F, h1, h2, h3 => by
    simp at h1 h2 h3
    subst h1 h2 h3
    exact h
  | _, _, _, .cons h r, f + 1, d, fi, F, h1, h2, h3 => r.at f d fi F (by simpa using h1) (by simpa using h2) (by simpa using h3)
/-- an own error's __init__ -/
structure XOk (d : He.DefD) (x : Str) (f : Nm) : Prop where
  at_ : d.at_ = (x, some ("__init__" : Str))
  nd : d.dfl = [] ∧ d.kwd = []
  go : ∃ (self g : Str) (p1 p2 p3 p4 : Pos), d.body = [.Assign [.Attribute (.Name self p1) (St f) p2] (.Name g p3) p4] ∧ FnScope [self, g] [self, g] d.scope ∧ nmOk self = true ∧ nmOk g = true ∧
    ∀ (kV doc pm : Value) (an : Option Addr) (cdv ct : Value) (us : List Value), us.length = 2 → bindArgs (PySem.W.fnOf d.name d.qual d.params d.body d.scope .none kV doc pm an cdv ct) ⟨us, []⟩ = pure ([self, g].zip us)
/-- a def that tries what it gets -/
structure TOk (L : LD) (d : He.DefD) (x : Str) (k : Nat) : Prop where
  at_ : d.at_ = (x, none)
  nm : d.name = x ∧ d.qual = x
  nd : d.dfl = [] ∧ d.kwd = []
  xx : (x == ("__debug__" : Str)) = false
  go : ∃ (cn : Nat) (f ret : Nm) (a e n : Str) (j : Nat) (p1 p2 p3 p4 p5 p6 p7 p8 p9 p10 p11 : Pos), L.B.told k = some (cn, f, .str ret) ∧
    d.body = [.Try [.Expr (.Call (.Name a p1) [] [] p2) p3] [.ExceptHandler (some (.Name e p4)) (some n) [.Return (some (.Attribute (.Name n p5) (St f) p6)) p7] p8] [] [] p9, .Return (some (.Constant (.str (St ret)) j p10)) p11] ∧
    (List.range L.cn.length).all (fun e => decide ((L.sb.getD e []).getD cn none ≠ some true) || (L.xf.getD e []).contains f) = true ∧ L.cn[cn]? = some e ∧ L.ti.G.lookup e = some (.exc cn) ∧
    FnScope [a, n] [a] d.scope ∧ d.scope.names.lookup e = some .globalImplicit ∧ (e == ("__debug__" : Str)) = false ∧ d.scope.names.lookup n = some .local ∧ (n == ("__debug__" : Str)) = false ∧ (n == ("__classdict__" : Str)) = false ∧ a ≠ n ∧
    (a == ("__debug__" : Str)) = false ∧ (a == ("__classdict__" : Str)) = false ∧ Vis d.scope a ∧ (∀ (X : Cx), attributeBase (.Name n p5) (St f) X.env (eval (.Name n p5) X.env) = eval (.Name n p5) X.env) ∧
    ∀ (kV doc pm : Value) (an : Option Addr) (cdv ct : Value) (us : List Value), us.length = 1 → bindArgs (PySem.W.fnOf d.name d.qual d.params d.body d.scope .none kV doc pm an cdv ct) ⟨us, []⟩ = pure ([a].zip us)
/-- a law's data, with all that is shown of it -/
structure LOk (L : LD) (tf : List He.Defn) (lq : Str) : Prop where
  sb : L.B.sub = fun a b => (L.sb.getD a []).getD b none
  fl : L.B.flds = fun c => L.fl.getD c []
  xf : L.B.exf = fun c => L.xf.getD c []
  dc : L.B.dct = fun k => dctF (L.dt.getD k [])
  data : dataB L = true
  len : L.ds.length = L.ti.fs.length ∧ L.ds.length = L.B.fns.length
  defs : ∀ (f : Nat) (d : He.DefD) (fi : FI) (F : Fe), L.ds[f]? = some d → L.ti.fs[f]? = some fi → L.B.fns[f]? = some F → DOk L.B L.ti tf lq d fi F
  xs : ∀ q ∈ L.xd, ∀ f : Nm, L.xf.getD q.2.1 [] = [f] → XOk q.2.2 q.1 f
  ts : ∀ q ∈ L.td, TOk L q.2.2 q.1 q.2.1
  kw : ∀ f p ks pm, (f, p, ks, pm) ∈ L.ti.kw → ∃ (d : He.DefD) (fi : FI), L.ds[f]? = some d ∧ L.ti.fs[f]? = some fi ∧ ∀ (kV doc pv : Value) (an : Option Addr) (cdv ct : Value) (us ws us' : List Value), us.length = p → ws.length = ks.length → permD pm (us ++ ws) = some us' →
    bindArgs (PySem.W.fnOf d.name d.qual d.params d.body d.scope .none kV doc pv an cdv ct) ⟨us, ks.zip ws⟩ = pure (fi.ps.zip us')
  km : ∀ f ks pm, (f, ks, pm) ∈ L.ti.km → ∃ (d : He.DefD) (fi : FI), L.ds[f]? = some d ∧ L.ti.fs[f]? = some fi ∧ ∀ (kV doc pv : Value) (an : Option Addr) (cdv ct y : Value) (ws us' : List Value), ws.length = ks.length → permD pm ws = some us' →
    bindArgs (PySem.W.fnOf d.name d.qual d.params d.body d.scope .none kV doc pv an cdv ct) ⟨[y], ks.zip ws⟩ = pure (fi.ps.zip (y :: us'))
end Ev

set_option Elab.async false
set_option linter.all false
set_option maxRecDepth 100000
set_option maxHeartbeats 4000000
/-! Ev9d: the facts, shown. -/
namespace Ev
open PySem L2 PyProof.Rows
open He (ba eqO eqO_ok)
section
variable {P : Program} {w : World} {K : PySem.W.Frag} {mg : Str → Option Value} {base h : Heap} {L : LD} {lq : Str} {ts : List He.Tab} {tf : List He.Defn}
theorem funD_eq {x qual : Str} {params : Arguments} {body : List Stmt} {scope : Scope} {dvs : List V} {kws : List (Str × V)} {f : Addr} {fd : FuncData} (F : FunD K x qual params body scope dvs kws f fd) : fdAt K f = fd := by
  obtain ⟨oc, od, dV, kV, doc, pm, an, cdv, ct, osl, e1, lk, _⟩ := F.ex
  unfold fdAt
  rw [lk]
theorem dfl_nil {d : He.DefD} (h : d.dfl = [] ∧ d.kwd = []) : d.dvs K = [] ∧ d.kws K = [] := by
  unfold He.DefD.dvs He.DefD.kws
  rw [h.1, h.2]
  exact ⟨rfl, rfl⟩
/-- the def at f -/
theorem def_at (o : LOk L tf lq) (c : He.SaysX [] L.fn ts tf (exK L) w h K) {f : Nat} {d : He.DefD} {fi : FI} (hd : L.ds[f]? = some d) (hf : L.ti.fs[f]? = some fi) :
    ∃ F, L.B.fns[f]? = some F ∧ DOk L.B L.ti tf lq d fi F ∧ FunD K d.name d.qual d.params d.body d.scope [] [] (L.fad K f) (L.ffd K f) := by
  have hlt : f < L.ds.length := by
    cases Nat.lt_or_ge f L.ds.length with
    | inl z => exact z
    | inr z => rw [List.getElem?_eq_none z] at hd; cases hd
  have hF : ∃ F, L.B.fns[f]? = some F := ⟨_, List.getElem?_eq_getElem (by rw [← o.len.2]; exact hlt)⟩
  obtain ⟨F, hF⟩ := hF
  have D := o.defs f d fi F hd hf hF
  obtain ⟨fd, FD⟩ := c.t.d.defs (d := d) (by
    unfold LD.fn
    exact List.mem_append_left _ (List.mem_append_left _ (List.mem_of_getElem? hd)))
  rw [(dfl_nil D.nd).1, (dfl_nil D.nd).2] at FD
  have e1 : L.fad K f = He.fAd K d.at_ := by unfold LD.fad; rw [hd]
  refine ⟨F, hF, D, ?_⟩
  have e2 : L.ffd K f = fd := by unfold LD.ffd; rw [e1]; exact funD_eq FD
  rw [e1, e2]
  exact FD
theorem ds_of (o : LOk L tf lq) {f : Nat} {fi : FI} (hf : L.ti.fs[f]? = some fi) : ∃ d, L.ds[f]? = some d := by
  have hlt : f < L.ti.fs.length := by
    cases Nat.lt_or_ge f L.ti.fs.length with
    | inl z => exact z
    | inr z => rw [List.getElem?_eq_none z] at hf; cases hf
  exact ⟨_, List.getElem?_eq_getElem (by rw [o.len.1]; exact hlt)⟩
theorem fad_at {f : Nat} {d : He.DefD} {p : He.Defn} (hd : L.ds[f]? = some d) (h : d.at_ = p) : L.fad K f = He.fAd K p := by
  unfold LD.fad; rw [hd, ← h]
theorem ca_at {c : Nat} {x : Str} (h : L.cn[c]? = some x) : L.ca K c = He.ga K x := by
  unfold LD.ca
  rw [List.getD_eq_getElem?_getD, h]; rfl
theorem ev_at {c : Nat} {x : Str} (h : L.cn[c]? = some x) : L.ev K c = .ref (He.ga K x) := by
  unfold LD.ev
  have : c < L.cn.length := by
    cases Nat.lt_or_ge c L.cn.length with
    | inl z => exact z
    | inr z => rw [List.getElem?_eq_none z] at h; cases h
  rw [if_pos this, ca_at h]
theorem getD_out {α : Type} {l : List α} {d : α} {n : Nat} (h : l.length ≤ n) : l.getD n d = d := by
  rw [List.getD_eq_getElem?_getD, List.getElem?_eq_none h]; rfl
theorem fac_of (o : LOk L tf lq) (X : K.In h) (G : h.Ns mainGlobals mg) (c : He.SaysX [] L.fn ts tf (exK L) w h K) (hts : ∀ (k : Nat) (x : Str), L.dn[k]? = some x → ∃ es n, KDict K w (He.ga K x) es n)
    (X' : K.In base) (G' : base.Ns mainGlobals mg) : Fac P w K mg base (L.ca K) (L.ev K) (L.fad K) (L.ffd K) L.ti L.B := by
  obtain ⟨k1, kk⟩ := ba c.more
  obtain ⟨k2, kk⟩ := ba kk
  obtain ⟨k3, kk⟩ := ba kk
  obtain ⟨k4, kk⟩ := ba kk
  obtain ⟨k5, kk⟩ := ba kk
  obtain ⟨k7, kk⟩ := ba kk
  obtain ⟨k8, k6⟩ := ba kk
  obtain ⟨s1, ss⟩ := ba o.data
  obtain ⟨s2, ss⟩ := ba ss
  obtain ⟨s3, ss⟩ := ba ss
  obtain ⟨s4, ss⟩ := ba ss
  obtain ⟨s5, ss⟩ := ba ss
  obtain ⟨s6, ss⟩ := ba ss
  obtain ⟨s7, ss⟩ := ba ss
  obtain ⟨s8, ss⟩ := ba ss
  obtain ⟨s9, ss⟩ := ba ss
  obtain ⟨s10, s11⟩ := ba ss
  have gk : ∀ {x g}, L.ti.G.lookup x = some g → gK L K (x, g) = true ∧ gS L (x, g) = true := fun e => ⟨List.all_eq_true.mp k1 _ (lk_mem e), List.all_eq_true.mp s1 _ (lk_mem e)⟩
  have hglo : ∀ {x : Str}, (He.Fa.glo x).ok K = true → mg x = some (.ref (He.ga K x)) := fun e => He.glo_ok X G e
  have kn : ∀ (cc : Nat) (f : Nm), (L.B.exf cc).contains f = true → ∃ x, L.cn[cc]? = some x ∧ L.ti.G.lookup x = some (.exc cc) := fun cc f e => by
    rw [o.xf] at e
    have hlt : cc < L.cn.length := by
      cases Nat.lt_or_ge cc L.cn.length with
      | inl z => exact z
      | inr z => rw [show (fun c => L.xf.getD c []) cc = [] from getD_out (Nat.le_trans (of_dec s6) z)] at e; simp at e
    have h1 := List.all_eq_true.mp s7 cc (List.mem_range.mpr hlt)
    try dsimp only at h1
    cases hx : L.xf.getD cc [] with
    | nil => rw [show (fun c => L.xf.getD c []) cc = [] from hx] at e; simp at e
    | cons a r =>
      rw [hx] at h1
      have hx2 : L.cn[cc]? = some (L.cn[cc]'hlt) := List.getElem?_eq_getElem hlt
      rw [hx2] at h1
      refine ⟨_, hx2, ?_⟩
      simpa using h1
  have sbl : ∀ e cc b, L.B.sub e cc = some b → e < L.cn.length ∧ cc < L.cn.length := fun e cc b h1 => by
    rw [o.sb] at h1
    have he : e < L.sb.length := by
      cases Nat.lt_or_ge e L.sb.length with
      | inl z => exact z
      | inr z =>
        have : (L.sb.getD e []).getD cc none = some b := h1
        rw [getD_out z] at this
        simp at this
    refine ⟨Nat.lt_of_lt_of_le he (of_dec s4), ?_⟩
    have hr : L.sb.getD e [] ∈ L.sb := by
      rw [List.getD_eq_getElem?_getD, List.getElem?_eq_getElem he]
      exact List.getElem_mem he
    have h2 := of_dec (List.all_eq_true.mp s5 _ hr)
    cases Nat.lt_or_ge cc (L.sb.getD e []).length with
    | inl z => exact Nat.lt_of_lt_of_le z h2
    | inr z =>
      have : (L.sb.getD e []).getD cc none = some b := h1
      rw [getD_out z] at this
      cases this
  have htf : ∀ (cn : Nat) (f : Nm), ((List.range L.cn.length).all fun e => decide ((L.sb.getD e []).getD cn none ≠ some true) || (L.xf.getD e []).contains f) = true → ∀ e, L.B.sub e cn = some true → (L.B.exf e).contains f = true := fun cn f ha e hs => by
    have hlt := (sbl e cn true hs).1
    have h1 := List.all_eq_true.mp ha e (List.mem_range.mpr hlt)
    try dsimp only at h1
    rw [o.sb] at hs
    have hs' : (L.sb.getD e []).getD cn none = some true := hs
    rw [hs'] at h1
    rw [o.xf]
    simpa using h1
  refine { fn := ?_, bi := ?_, np := ?_, cls := ?_, cst := ?_, dct := ?_, bl := ?_, ms := ?_, kw := ?_, km := ?_, flds := ?_, isc := ?_, exc := ?_, ex := ?_, hn := ?_, tf := ?_, told := ?_, eqc := ?_, rti := ?_ }
  · intro x f e
    obtain ⟨h1, h2⟩ := gk e
    unfold gS at h2
    dsimp only at h2
    cases hf : L.ti.fs[f]? with
    | none => rw [hf] at h2; cases h2
    | some fi =>
      obtain ⟨d, hd⟩ := ds_of o hf
      rw [hf, hd] at h2
      have e1 : L.fad K f = He.ga K x := fad_at hd (of_dec h2)
      obtain ⟨F, _, _, FD⟩ := def_at o c hd hf
      refine ⟨fi, rfl, ?_, FD.kp⟩
      rw [e1]
      exact hglo h1
  · intro f fi hf
    obtain ⟨d, hd⟩ := ds_of o hf
    obtain ⟨F, _, D, FD⟩ := def_at o c hd hf
    exact FD.bindsN fun kV doc pm an cdv ct us hl => D.bi kV doc pm an cdv ct us hl
  · intro f fi F hf hF
    obtain ⟨d, hd⟩ := ds_of o hf
    exact (o.defs f d fi F hd hf hF).np.symm
  · intro x cc f e
    obtain ⟨h1, h2⟩ := gk e
    obtain ⟨g1, g2⟩ := ba h1
    obtain ⟨g2, g3⟩ := ba g2
    obtain ⟨t1, t2⟩ := ba h2
    have e1 : L.ca K cc = He.ga K x := ca_at (of_dec t1)
    cases hf : L.ti.fs[f]? with
    | none => rw [hf] at t2; cases t2
    | some fi =>
      obtain ⟨d, hd⟩ := ds_of o hf
      rw [hf, hd] at t2
      obtain ⟨t3, t4⟩ := ba t2
      have e2 : L.fad K f = He.ma K (He.ga K x) "__init__" := fad_at hd (of_dec t4)
      have M := He.mkr_ok g2
      rw [e1, e2]
      exact ⟨hglo g1, M.kp, fi, rfl, by simpa using t3, M⟩
  · intro x k e
    obtain ⟨h1, _⟩ := gk e
    unfold gK at h1
    try dsimp only at h1
    cases hb : L.B.glb[k]? with
    | none => rw [hb] at h1; cases h1
    | some d =>
      rw [hb] at h1
      cases d <;> first | (cases h1; done) | skip
      · obtain ⟨t, e1⟩ := He.int_ok X G h1
        exact ⟨_, .int _, _, e1, ⟨t, rfl⟩, rfl, fun _ _ _ => by rw [Rep]⟩
      · obtain ⟨t, e1⟩ := He.str_ok X G h1
        exact ⟨_, .str _, _, e1, ⟨t, rfl⟩, rfl, fun _ _ _ => by rw [Rep]⟩
  · intro x k e
    obtain ⟨h1, h2⟩ := gk e
    obtain ⟨g1, g2⟩ := ba h1
    refine ⟨_, hglo g1, ?_⟩
    rw [o.dc]
    exact dctB_ok (hts k x (of_dec h2)) g2
  · intro x hx
    exact He.free_ok X G (List.all_eq_true.mp k2 x hx)
  · intro cc m f hm
    have h1 := List.all_eq_true.mp k3 _ hm
    have h2 := List.all_eq_true.mp s2 _ hm
    dsimp only at h1 h2
    obtain ⟨g1, g2⟩ := ba h1
    cases hf : L.ti.fs[f]? with
    | none => rw [hf] at h2; cases h2
    | some fi =>
      obtain ⟨d, hd⟩ := ds_of o hf
      rw [hf, hd] at h2
      have e2 : L.fad K f = He.ma K (L.ca K cc) (St m) := fad_at hd (of_dec h2)
      rw [e2]
      exact ⟨He.cls_ok g2, fi, rfl, He.meth_ok g1⟩
  · intro f p ks pm hm
    obtain ⟨d, fi, hd, hf, hb⟩ := o.kw f p ks pm hm
    obtain ⟨F, _, D, FD⟩ := def_at o c hd hf
    refine ⟨fi, hf, fun s us ws us' _ h1 h2 h3 => ?_⟩
    obtain ⟨oc, od, dV, kV, doc, pv, an, cdv, ct, osl, e1, lk, hcd, hD, hK⟩ := FD.ex
    rcases hD with ⟨_, rfl⟩ | ⟨e, _⟩
    · rw [e1]
      exact .of_eq (hb kV doc pv an cdv ct us ws us' h1 h2 h3)
    · exact absurd rfl e
  · intro f ks pm hm
    obtain ⟨d, fi, hd, hf, hb⟩ := o.km f ks pm hm
    obtain ⟨F, _, D, FD⟩ := def_at o c hd hf
    refine ⟨fi, hf, fun s y ws us' _ h2 h3 => ?_⟩
    obtain ⟨oc, od, dV, kV, doc, pv, an, cdv, ct, osl, e1, lk, hcd, hD, hK⟩ := FD.ex
    rcases hD with ⟨_, rfl⟩ | ⟨e, _⟩
    · rw [e1]
      exact .of_eq (hb kV doc pv an cdv ct y ws us' h2 h3)
    · exact absurd rfl e
  · refine ⟨fun cc f e => ?_⟩
    rw [o.fl] at e
    have e' : (L.fl.getD cc []).contains f = true := e
    have hlt : cc < L.cn.length := by
      cases Nat.lt_or_ge cc L.cn.length with
      | inl z => exact z
      | inr z => rw [getD_out (Nat.le_trans (of_dec s3) z)] at e'; simp at e'
    have h1 := List.all_eq_true.mp k4 cc (List.mem_range.mpr hlt)
    try dsimp only at h1
    cases hx : L.fl.getD cc [] with
    | nil => rw [hx] at e'; simp at e'
    | cons a r =>
      rw [hx] at h1
      have h2 : ((He.Fa.cls (L.cn.getD cc "")).ok K && ((a :: r).all fun f => eqO (PySem.W.findIn K (.ref (L.ca K cc)) (St f)) (some none))) = true := h1
      obtain ⟨g1, g2⟩ := ba h2
      rw [hx] at e'
      exact ⟨He.cls_ok g1, eqO_ok (List.all_eq_true.mp g2 f (by simpa using e'))⟩
  · intro cc hc
    obtain ⟨g1, g2⟩ := ba (List.all_eq_true.mp k5 cc hc)
    exact clsIsB_ok (He.cls_ok g1) g2
  · intro x cc e
    obtain ⟨h1, h2⟩ := gk e
    obtain ⟨g1, g2⟩ := ba h1
    obtain ⟨t1, t2⟩ := ba h2
    have e1 : L.ca K cc = He.ga K x := ca_at (of_dec t1)
    rw [e1]
    refine ⟨hglo g1, ?_⟩
    have ex : L.B.exf cc = L.xf.getD cc [] := by rw [o.xf]
    cases hx : L.xf.getD cc [] with
    | nil =>
      rw [hx] at g2
      obtain ⟨q1, q2, q3, q4⟩ := He.exc_ok g2
      exact ⟨q2, .inr ⟨by rw [ex, hx], ⟨_, _, _, _, PySem.F.excBase_ValueError, q1⟩, q3, q4⟩⟩
    | cons f r =>
      cases r with
      | cons _ _ => rw [hx] at g2; cases g2
      | nil =>
        rw [hx] at g2 t2
        obtain ⟨q1, g2⟩ := ba g2
        obtain ⟨q2, g2⟩ := ba g2
        obtain ⟨q3, g2⟩ := ba g2
        obtain ⟨q4, q5⟩ := ba g2
        have T := oexB_ok q1
        obtain ⟨q, hq, r1⟩ := List.any_eq_true.mp t2
        obtain ⟨r1, r2⟩ := ba r1
        have r1 := of_dec r1
        have r2 := of_dec r2
        have XO := o.xs q hq f (by rw [r2]; exact hx)
        obtain ⟨fd, FD⟩ := c.t.d.defs (d := q.2.2) (by
          unfold LD.fn
          exact List.mem_append_left _ (List.mem_append_right _ (List.mem_map.mpr ⟨q, hq, rfl⟩)))
        rw [(dfl_nil XO.nd).1, (dfl_nil XO.nd).2, XO.at_, r1] at FD
        obtain ⟨self, g, p1, p2, p3, p4, hb, S, n1, n2, hbi⟩ := XO.go
        have B2 : Binds K fd [self, g] [] := FD.bindsN fun kV doc pm an cdv ct us hl => hbi kV doc pm an cdv ct us hl
        rw [hb] at FD
        refine ⟨T.kC, .inl ⟨f, by rw [ex, hx], T, _, fd, [self, g], eqO_ok q2, of_dec q3, oex_init T (eqO_ok q5) FD S n1 n2, B2⟩⟩
  · refine ⟨fun e cc b hs => ?_, fun e f hf => ?_⟩
    · obtain ⟨l1, l2⟩ := sbl e cc b hs
      have h1 := List.all_eq_true.mp (List.all_eq_true.mp k6 e (List.mem_range.mpr l1)) cc (List.mem_range.mpr l2)
      rw [o.sb] at hs
      have hs' : (L.sb.getD e []).getD cc none = some b := hs
      try dsimp only at h1
      rw [hs'] at h1
      have h2 := He.exm_ok h1
      have e2 : L.ev K cc = .ref (L.ca K cc) := by unfold LD.ev; rw [if_pos l2]
      rw [e2]
      exact h2
    · obtain ⟨x, hx, hg⟩ := kn e f hf
      obtain ⟨h1, h2⟩ := gk hg
      obtain ⟨g1, g2⟩ := ba h1
      rw [ca_at hx]
      rw [o.xf] at hf
      have hf' : (L.xf.getD e []).contains f = true := hf
      cases hxf : L.xf.getD e [] with
      | nil => rw [hxf] at hf'; simp at hf'
      | cons a r =>
        cases r with
        | cons _ _ => rw [hxf] at g2; cases g2
        | nil =>
          rw [hxf] at g2 hf'
          obtain ⟨q1, g2⟩ := ba g2
          obtain ⟨q2, g2⟩ := ba g2
          obtain ⟨q3, g2⟩ := ba g2
          obtain ⟨q4, q5⟩ := ba g2
          have : f = a := by simpa using hf'
          subst this
          exact ⟨xfB_ok q4, eqO_ok q5⟩
  · intro x cc hm
    have h1 := List.all_eq_true.mp s8 _ hm
    try dsimp only at h1
    obtain ⟨g1, g2⟩ := ba h1
    obtain ⟨g2, g3⟩ := ba g2
    obtain ⟨h3, _⟩ := gk (of_dec g3)
    obtain ⟨h4, _⟩ := ba h3
    refine ⟨by simpa using g1, .inl ?_⟩
    rw [ev_at (of_dec g2)]
    exact hglo h4
  · intro cn b hm e hs
    have hlt := (sbl e cn true hs).1
    have h1 := List.all_eq_true.mp (List.all_eq_true.mp k8 _ hm) e (List.mem_range.mpr hlt)
    try dsimp only at h1
    rw [o.sb] at hs
    have hs' : (L.sb.getD e []).getD cn none = some true := hs
    rw [hs'] at h1
    have h2 : (excCB K (L.ca K e) && decide (PySem.W.kitOne K (.ref (L.ca K e)) (.type "ValueError") = some b)) = true := by simpa using h1
    obtain ⟨q1, q2⟩ := ba h2
    exact ⟨excCB_ok q1, of_dec q2⟩
  · intro cc f hm
    have h1 := List.all_eq_true.mp k7 _ hm
    have h2 := List.all_eq_true.mp s11 _ hm
    try dsimp only at h1 h2
    refine ⟨eqcB_ok h1, ?_⟩
    cases hf : L.ti.fs[f]? with
    | none => rw [hf] at h2; cases h2
    | some fi =>
      rw [hf] at h2
      obtain ⟨q1, q2⟩ := ba h2
      exact ⟨fi, rfl, by simpa using q1, of_dec q2⟩
  · intro cn f hm e pl v _ hs
    exact htf cn f (List.all_eq_true.mp s9 _ hm) e hs
  · intro x f e
    obtain ⟨h1, h2⟩ := gk e
    unfold gS at h2
    dsimp only at h2
    obtain ⟨q, hq, r1⟩ := List.any_eq_true.mp h2
    obtain ⟨r1, r2⟩ := ba r1
    have r1 := of_dec r1
    have r2 := of_dec r2
    have TO := o.ts q hq
    rw [r1, r2] at TO
    obtain ⟨fd, FD⟩ := c.t.d.defs (d := q.2.2) (by
      unfold LD.fn
      exact List.mem_append_right _ (List.mem_map.mpr ⟨q, hq, rfl⟩))
    rw [(dfl_nil TO.nd).1, (dfl_nil TO.nd).2, TO.at_] at FD
    obtain ⟨cn, fl, ret, a, ec, n, j, p1, p2, p3, p4, p5, p6, p7, p8, p9, p10, p11, e1, hb, hall, hcn, hec, S, y1, y2, y3, y4, y5, y6, y7, y8, y9, y10, hbi⟩ := TO.go
    have B1 : Binds K fd [a] [] := FD.bindsN fun kV doc pm an cdv ct us hl => hbi kV doc pm an cdv ct us hl
    obtain ⟨oc, od, dV, kV, doc, pv, an, cdv, ct, osl, e2, lk, hcd, hD, hK⟩ := FD.ex
    rw [TO.nm.1, TO.nm.2] at e2
    rw [TO.nm.2] at hcd
    rw [e2] at lk B1
    obtain ⟨h5, _⟩ := gk hec
    obtain ⟨h6, _⟩ := ba h5
    have hme : mg ec = some (L.ev K cn) := by rw [ev_at hcn]; exact hglo h6
    refine ⟨cn, fl, ret, e1, fun e' pl v _ hs => htf cn fl hall e' hs, a, He.ga K x, _, _, _, dV, kV, doc, pv, cdv, ct, oc, an, od, osl, [a, n], hglo h1, FD.kp, lk, hcd, B1, S, rfl, y9, TO.xx, y7, y8, fun X' q' hX1 hX2 => ?_⟩
    rw [hb]
    exact told_f y1 (by rw [hX1]; exact hme) y2 y3 y4 y5 y6 y10
end
end Ev

set_option Elab.async false
set_option linter.all false
set_option maxRecDepth 100000
set_option maxHeartbeats 4000000
/-! Ev9e: a law's end, from its data. -/
namespace Ev
open PySem L2 PyProof.Rows LamX
open He (ba eqO eqO_ok)
section
variable {P : Program} {w : World} {K : PySem.W.Frag} {mg : Str → Option Value} {base h : Heap} {L : LD} {lq : Str} {ts : List He.Tab} {tf : List He.Defn}
theorem defsOk_of (o : LOk L tf lq) (c : He.SaysX [] L.fn ts tf (exK L) w h K) (hT : ∀ p ∈ tf.map (He.cT K), TabB base mg p.1 p.2) :
    DefsOk K mg base (tabT (tf.map (He.cT K)) fun _ => lq) (L.fad K) (L.ffd K) L.ti L.B := by
  intro f fi hf
  obtain ⟨d, hd⟩ := ds_of o hf
  obtain ⟨F, hF, D, FD⟩ := def_at o c hd hf
  obtain ⟨N, lam, S, ck, hN, hlam⟩ := D.go
  obtain ⟨dV, kV, doc, pm, cdv, ct, oc, an, od, osl, DD⟩ := defOk_of (T := tabT (tf.map (He.cT K)) fun _ => lq) (base := base) (mg := mg) FD S ck hN D.np D.le fun hl cdv ⟨oc, od, dV, kV, doc, pm, an, ct, osl, lk⟩ => by
    obtain ⟨e1, e2⟩ := hlam hl
    have ef : L.fad K f = He.fAd K d.at_ := fad_at hd rfl
    have hcd : PySem.W.codeIn K cdv d.qual = true := by
      obtain ⟨oc', od', dV', kV', doc', pm', an', cdv', ct', osl', e1', lk', hcd', _, _⟩ := FD.ex
      rw [lk', e1'] at lk
      have : cdv' = cdv := by
        injection lk with lk
        injection lk with _ _ lk _
        injection lk with lk
        injection lk
      rw [← this]; exact hcd'
    obtain ⟨cc, rfl⟩ := He.codeIn_ref hcd
    have ec : He.codeOf K d.at_ = cc := by
      rw [ef] at lk
      exact He.codeOf_eq lk rfl
    have hm : He.cT K d.at_ = (cc, He.tabOf K cc) := by unfold He.cT; rw [ec]
    refine ⟨cc, He.tabOf K cc, lq, rfl, e2, ?_, ?_, ?_⟩
    · have := hT (He.cT K d.at_) (by rw [e1]; simp)
      rw [hm] at this
      exact this
    · rw [e1]
      simp [tabT, hm]
    · intro p hp hp1
      rw [e1] at hp
      simp [tabT, hm] at hp
      rw [hp]
  exact ⟨F, lam, N, d.name, d.qual, d.params, d.body, d.scope, dV, kV, doc, pm, cdv, ct, oc, an, od, osl, hF, DD⟩
theorem lawE_of {l : PySem.W.OpenLaw} {fa : Addr} {x : Str} {N f n : Nat} {gz : Bool} (hP : l.prog = P) (o : LOk L tf lq) (X : K.In h) (G : h.Ns mainGlobals mg) (c : He.SaysX [] L.fn ts tf (exK L) w h K) (hts : ∀ (k : Nat) (x : Str), L.dn[k]? = some x → ∃ es n, KDict K w (He.ga K x) es n)
    (hf : L.ti.fs[f]? = some ⟨[x], gz⟩) (hg : L.ti.G.lookup ("law" : Str) = some (.fn f)) (hmg : mg ("law" : Str) = some (.ref fa)) (pl : PlainLaw L.B N f n) : LawE l w K (lev N) n x mg fa h := by
  subst hP
  obtain ⟨d, hd⟩ := ds_of o hf
  obtain ⟨F, hF, D, FD⟩ := def_at o c hd hf
  have Fh := fac_of (base := h) (P := l.prog) o X G c hts X G
  obtain ⟨fi, q1, q2, _⟩ := Fh.fn _ _ hg
  have efa : fa = L.fad K f := by
    rw [q2] at hmg
    injection hmg with hmg
    injection hmg with hmg
    exact hmg.symm
  have hbd : ∀ (s : Shared) (u : Value), BindsTo s (L.ffd K f) ⟨[u], []⟩ [(x, u)] := fun s u =>
    FD.bindsA (ps := [x]) (fun kV doc pm an cdv ct us hl => D.bi kV doc pm an cdv ct us hl) s [u] rfl
  refine ⟨L.ffd K f, tf.map (He.cT K), fun _ => lq, L.ca K, L.B, N, f, gz, ?_, ?_, ?_, hbd, pl, ?_⟩
  · intro p hp
    obtain ⟨q, hq, rfl⟩ := List.mem_map.mp hp
    exact c.empty q hq
  · intro p hp
    obtain ⟨q, hq, rfl⟩ := List.mem_map.mp hp
    exact c.out q hq
  · intro p hp
    obtain ⟨q, hq, rfl⟩ := List.mem_map.mp hp
    exact PySem.W.codeHd_of_K X (c.hd q hq)
  · intro base X' G' hT
    have Fb := fac_of (P := l.prog) o X G c hts X' G'
    rw [efa]
    exact defs_ok Fb (defsOk_of o c hT) N f _ hf
end
theorem walkE' {l : PySem.W.OpenLaw} {n k : Nat} {q : Program} {loose : List Str} {XP : (Str → Option Value) → Heap → Prop} {YP : World → Heap → Prop} {d : DefRec} {x : Str}
    (hn : l.most = some n) (hn2 : n ≤ sizeLine) (hdf : d.params.defaults = []) (hr : Room k callerA)
    (F : ∀ (w : World) (mg : Str → Option Value) (fa : Addr) (h : Heap), YP w h → h.Ns mainGlobals mg → mg d.name = some (.ref fa) → ∃ K : PySem.W.Frag, K.In h ∧ LawE l w K k n x mg fa h) :
    PySem.W.WalkO q loose XP YP l.row.toRowW d [] (fun f vs => PySem.call f vs) := by
  refine Att.attach_callB hn hdf fun w s₀ s₁ mg mb fa o pm cd doc a vs ns G Y ho hd hcd hmg hobj hints hlen hbits hg => ?_
  obtain ⟨K, KX, fd, cs, qs, ca, B, N, f, gz, hT, nT, C, hb, pl, hF⟩ := F w mg fa _ Y G.T.g hmg
  exact law_callE ⟨KX, G.T.g, G.T.b, G.T.builtins, G.T.nolimit, hg, hT, nT, C, G.T.bmain, hobj, hints, Nat.le_trans hlen hn2⟩ hr hF hb fun H ht hS => plain_sp pl hlen hbits ht hS
end Ev

set_option linter.all false
set_option maxRecDepth 100000
/-! Ev9f: what the head's run left, looked at: the reached addresses by the bits of a number (a list without doubles is dear to the kernel). -/
noncomputable section
namespace Ev
open PySem
def newA : List Addr → Nat → List Addr
  | [], _ => []
  | a :: r, m => match Nat.beq (Nat.mod (Nat.shiftRight m a) 2) 1 with
    | true => newA r m
    | false => a :: newA r (Nat.lor m (Nat.shiftLeft 1 a))
def bitsA : List Addr → Nat → Nat
  | [], m => m
  | a :: r, m => bitsA r (Nat.lor m (Nat.shiftLeft 1 a))
def goA (g : Addr → Option Obj) : Nat → List Addr → Nat → List Addr
  | 0, fr, _ => fr
  | n + 1, fr, m => fr ++ goA g n (newA (fr.flatMap fun a => match g a with
    | some o => He.refsD o
    | none => []) m) (bitsA (newA (fr.flatMap fun a => match g a with
    | some o => He.refsD o
    | none => []) m) m)
def asM (g : Addr → Option Obj) (n : Nat) : List Addr := goA g n [mainGlobals] (Nat.shiftLeft 1 mainGlobals)
abbrev frM (n : Nat) (g : Addr → Option Obj) : PySem.W.Frag := He.frT g (asM g n)
def obsM (n : Nat) (fn : List He.DefD) (ts : List He.Tab) (tf : List He.Defn) (ex : PySem.W.Frag → Bool) (g : Addr → Option Obj) : He.AlX := (He.obsT [] fn ts (frM n g), ex (frM n g) && He.tabsB g tf (frM n g))
theorem saysM {n : Nat} {fn : List He.DefD} {ts : List He.Tab} {tf : List He.Defn} {ex : PySem.W.Frag → Bool} {w : World} {h : Heap} (e : obsM n fn ts tf ex h.get? = He.valX fn ts w) : He.SaysX [] fn ts tf ex w h (frM n h.get?) := by
  obtain ⟨e1, e2⟩ := Prod.mk.inj e
  rw [Bool.and_eq_true] at e2
  obtain ⟨h1, h2⟩ := e2
  have one : ∀ p ∈ tf, PySem.W.codeHdIn (frM n h.get?) (He.cT (frM n h.get?) p).1 (He.cT (frM n h.get?) p).2 = true ∧ ∃ o, h.get? (He.cT (frM n h.get?) p).2 = some o ∧ He.emptyTab o = true := fun p hp => by
    have z := List.all_eq_true.mp h2 p hp
    rw [Bool.and_eq_true] at z
    obtain ⟨z1, z2⟩ := z
    refine ⟨z1, ?_⟩
    cases q : h.get? (He.cT (frM n h.get?) p).2 with
    | none => rw [q] at z2; cases z2
    | some o => rw [q] at z2; exact ⟨o, rfl, z2⟩
  refine ⟨e1, h1, fun p hp => (one p hp).1, fun p hp => ?_, fun p hp => ?_⟩
  · obtain ⟨_, o, q, z⟩ := one p hp
    exact He.frT_none q z
  · obtain ⟨_, o, q, z⟩ := one p hp
    rw [q, He.emptyTab_eq z]
def hookM (n : Nat) (fn : List He.DefD) (ts : List He.Tab) (tf : List He.Defn) (ex : PySem.W.Frag → Bool) : PySem.W.Hook where
  α := He.AlX
  obs := fun s => obsM n fn ts tf ex s.heap.get?
  val := fun w => He.valX fn ts w
  says := fun w h => ∃ K : PySem.W.Frag, K.In h ∧ He.SaysX [] fn ts tf ex w h K
  of := fun _ _ e => ⟨_, He.frT_in, saysM e⟩
  keeps := fun _ _ _ z k => by
    obtain ⟨K, hK, c⟩ := z
    exact ⟨K, hK.keeps k, c.t, c.more, c.hd, c.out, fun p hp => k _ _ (c.empty p hp)⟩
theorem obsM_eq {n : Nat} {fn : List He.DefD} {ts : List He.Tab} {tf : List He.Defn} {ex : PySem.W.Frag → Bool} {g : Addr → Option Obj} {s : Shared} (h : ∀ a, g a = s.heap.get? a) : obsM n fn ts tf ex g = (hookM n fn ts tf ex).obs s := by
  rw [show g = s.heap.get? from funext h]; rfl
/-- a run's looks, reckoned apart -/
theorem looks2 {S α β γ : Type} {E : Option S} {a : S → α} {b : S → β} {c : S → γ} {x : α} {y : β} {z : γ} (h1 : E.map (fun s => (a s, b s)) = some (x, y)) (h2 : E.map (fun s => c s) = some z) : E.map (fun s => (a s, b s, c s)) = some (x, y, z) := by
  cases E with
  | none => cases h1
  | some s =>
    have e1 := Option.some.inj h1
    have e2 := Option.some.inj h2
    obtain ⟨e1, e4⟩ := Prod.mk.inj e1
    show some (a s, b s, c s) = _
    rw [e1, e4, show c s = z from e2]
end Ev

set_option linter.all false
set_option maxRecDepth 100000
namespace Ev
/-! ### more fuel, the same answer -/
def Le {α : Type} (m m' : M α) : Prop := ∀ h r, m h = some r → m' h = some r
theorem Le.refl {α : Type} (m : M α) : Le m m := fun _ _ e => e
theorem Le.bnd {α β : Type} {m m' : M α} {f f' : α → M β} (a : Le m m') (b : ∀ x, Le (f x) (f' x)) : Le (Ev.bnd m f) (Ev.bnd m' f') := fun h r e => by
  unfold Ev.bnd at e ⊢
  cases e1 : m h with
  | none => rw [e1] at e; cases e
  | some q =>
    rw [e1] at e
    rw [a h q e1]
    obtain ⟨q, h1⟩ := q
    cases q with
    | ok x => exact b x h1 r e
    | ex c pl => exact e
/-- functions of a heap that tell more -/
def LeO {α : Type} (a b : Option α) : Prop := ∀ r, a = some r → b = some r
theorem LeO.refl {α : Type} (a : Option α) : LeO a a := fun _ e => e
theorem LeO.ite {α : Type} {c : Prop} [Decidable c] {a a' b b' : Option α} (h1 : LeO a a') (h2 : LeO b b') : LeO (if c then a else b) (if c then a' else b') := by
  by_cases hc : c
  · rw [if_pos hc, if_pos hc]; exact h1
  · rw [if_neg hc, if_neg hc]; exact h2
theorem Le.ite {α : Type} {c : Prop} [Decidable c] {a a' b b' : M α} (h1 : Le a a') (h2 : Le b b') : Le (if c then a else b) (if c then a' else b') := by
  by_cases hc : c
  · rw [if_pos hc, if_pos hc]; exact h1
  · rw [if_neg hc, if_neg hc]; exact h2
structure Cle (C C' : Cfg) : Prop where
  call : ∀ f vs, Le (C.call f vs) (C'.call f vs)
  glb : C.glb = C'.glb
  sub : C.sub = C'.sub
  flds : C.flds = C'.flds
  exf : C.exf = C'.exf
  told : C.told = C'.told
  dct : C.dct = C'.dct
  wl : C.wl = C'.wl
theorem compL_le {f f' : D → Hd → Option (Option D × Hd)} (hf : ∀ x h, LeO (f x h) (f' x h)) : ∀ xs h, LeO (compL f xs h) (compL f' xs h)
  | [], h => LeO.refl _
  | x :: xs, h => fun r e => by
    unfold compL at e ⊢
    cases e1 : f x h with
    | none => rw [e1] at e; cases e
    | some q =>
      rw [e1] at e
      rw [hf x h q e1]
      obtain ⟨y, h1⟩ := q
      simp only at e ⊢
      cases e2 : compL f xs h1 with
      | none => rw [e2] at e; cases e
      | some q2 =>
        rw [e2] at e
        rw [compL_le hf xs h1 q2 e2]
        exact e
theorem loopH_le {f f' : D → Hd → Option Hd} (hf : ∀ x h, LeO (f x h) (f' x h)) : ∀ xs h, LeO (loopH f xs h) (loopH f' xs h)
  | [], h => LeO.refl _
  | x :: xs, h => fun r e => by
    unfold loopH at e ⊢
    cases e1 : f x h with
    | none => rw [e1] at e; cases e
    | some q =>
      rw [e1] at e
      rw [hf x h q e1]
      exact loopH_le hf xs q r e
theorem turnI_le {mg mg' : D → Sl → M Sl} {mt1 mt' : Sl → M Bool} {me me' : Sl → M D} {vs : List Nat} {n : Nat} {σ : Sl} (h1 : ∀ x σ, Le (mg x σ) (mg' x σ)) (h2 : ∀ σ, Le (mt1 σ) (mt' σ)) (h3 : ∀ σ, Le (me σ) (me' σ)) (x : D) (h : Hd) : LeO (turnI mg mt1 me vs n σ x h) (turnI mg' mt' me' vs n σ x h) := fun r e => by
  unfold turnI at e ⊢
  cases e1 : mg x (wipe σ vs) h with
  | none => rw [e1] at e; cases e
  | some q =>
    rw [e1] at e
    rw [h1 _ _ _ _ e1]
    obtain ⟨q, g1⟩ := q
    cases q with
    | ex _ _ => cases e
    | ok σ2 =>
      simp only at e ⊢
      cases e2 : mt1 σ2 g1 with
      | none => rw [e2] at e; cases e
      | some q =>
        rw [e2] at e
        rw [h2 _ _ _ e2]
        obtain ⟨q, g2⟩ := q
        cases q with
        | ex _ _ => cases e
        | ok b =>
          cases b with
          | false => exact e
          | true =>
            simp only at e ⊢
            cases e3 : me σ2 g2 with
            | none => rw [e3] at e; cases e
            | some q =>
              rw [e3] at e
              rw [h3 _ _ _ e3]
              exact e
theorem turnO_le {mg mg' : D → Sl → M Sl} {mt1 mt' : Sl → M Bool} {mi mi' : Sl → M (List D)} {f f' : Sl → D → Hd → Option Hd} {vs : List Nat} {σ : Sl} (h1 : ∀ x σ, Le (mg x σ) (mg' x σ)) (h2 : ∀ σ, Le (mt1 σ) (mt' σ)) (h3 : ∀ σ, Le (mi σ) (mi' σ)) (h4 : ∀ σ x h, LeO (f σ x h) (f' σ x h)) (x : D) (h : Hd) : LeO (turnO mg mt1 mi f vs σ x h) (turnO mg' mt' mi' f' vs σ x h) := fun r e => by
  unfold turnO at e ⊢
  cases e1 : mg x (wipe σ vs) h with
  | none => rw [e1] at e; cases e
  | some q =>
    rw [e1] at e
    rw [h1 _ _ _ _ e1]
    obtain ⟨q, g1⟩ := q
    cases q with
    | ex _ _ => cases e
    | ok σ2 =>
      simp only at e ⊢
      cases e2 : mt1 σ2 g1 with
      | none => rw [e2] at e; cases e
      | some q =>
        rw [e2] at e
        rw [h2 _ _ _ e2]
        obtain ⟨q, g2⟩ := q
        cases q with
        | ex _ _ => cases e
        | ok b =>
          cases b with
          | false => exact e
          | true =>
            simp only at e ⊢
            cases e3 : mi σ2 g2 with
            | none => rw [e3] at e; cases e
            | some q =>
              rw [e3] at e
              rw [h3 _ _ _ e3]
              obtain ⟨q, g3⟩ := q
              cases q with
              | ex _ _ => cases e
              | ok its => exact loopH_le (h4 σ2) its g3 r e
theorem turnF_le {mg mg' : D → Sl → M Sl} {mt1 mt' : Sl → M Bool} {me me' : Sl → M D} {vs : List Nat} {σ : Sl} (h1 : ∀ x σ, Le (mg x σ) (mg' x σ)) (h2 : ∀ σ, Le (mt1 σ) (mt' σ)) (h3 : ∀ σ, Le (me σ) (me' σ)) (x : D) (h : Hd) : LeO (turnF mg mt1 me vs σ x h) (turnF mg' mt' me' vs σ x h) := fun r e => by
  unfold turnF at e ⊢
  cases e1 : mg x (wipe σ vs) h with
  | none => rw [e1] at e; cases e
  | some q =>
    rw [e1] at e
    rw [h1 _ _ _ _ e1]
    obtain ⟨q, g1⟩ := q
    cases q with
    | ex c pl => cases e
    | ok σ2 =>
      simp only at e ⊢
      cases e2 : mt1 σ2 g1 with
      | none => rw [e2] at e; cases e
      | some q =>
        rw [e2] at e
        rw [h2 _ _ _ e2]
        obtain ⟨q, g2⟩ := q
        cases q with
        | ex c pl => cases e
        | ok b =>
          cases b with
          | false => exact e
          | true =>
            simp only at e ⊢
            cases e3 : me σ2 g2 with
            | none => rw [e3] at e; cases e
            | some q =>
              rw [e3] at e
              rw [h3 _ _ _ e3]
              exact e
section
variable {C C' : Cfg}
mutual
theorem leX (c : Cle C C') : ∀ (x : X) (σ : Sl), Le (evX C x σ) (evX C' x σ)
  | .var i, σ => by rw [evX, evX]; exact Le.refl _
  | .cst d, σ => by rw [evX, evX]; exact Le.refl _
  | .glb k, σ => by rw [evX, evX, c.glb]; exact Le.refl _
  | .bin o a b, σ => by rw [evX, evX]; exact (leX c a σ).bnd fun x => (leX c b σ).bnd fun y => Le.refl _
  | .neg a, σ => by rw [evX, evX]; exact (leX c a σ).bnd fun x => Le.refl _
  | .cmp o a b, σ => by rw [evX, evX]; exact (leX c a σ).bnd fun x => (leX c b σ).bnd fun y => Le.refl _
  | .chn o p a b e, σ => by
    rw [evX, evX]
    refine (leX c a σ).bnd fun x => (leX c b σ).bnd fun y => fun h => ?_
    show LeO _ _
    cases cmpD o h x y with
    | none => exact LeO.refl _
    | some r =>
      cases r with
      | false => exact LeO.refl _
      | true => exact fun r => ((leX c e σ).bnd fun z => Le.refl _) h r
  | .nt a, σ => by rw [evX, evX]; exact (leX c a σ).bnd fun x => Le.refl _
  | .and xs, σ => by rw [evX, evX]; exact leAnd c xs σ
  | .or xs, σ => by rw [evX, evX]; exact leOr c xs σ
  | .ite t a b, σ => by rw [evX, evX]; exact (leT c t σ).bnd fun k => Le.ite (leX c a σ) (leX c b σ)
  | .tup xs, σ => by rw [evX, evX]; exact (leXs c xs σ).bnd fun vs => Le.refl _
  | .lst xs, σ => by rw [evX, evX]; exact (leXs c xs σ).bnd fun vs => Le.refl _
  | .nlst xs, σ => by rw [evX, evX]; exact (leXs c xs σ).bnd fun vs => Le.refl _
  | .sub a b, σ => by rw [evX, evX]; exact (leX c a σ).bnd fun x => (leX c b σ).bnd fun y => Le.refl _
  | .slc a lo hi, σ => by rw [evX, evX]; exact (leX c a σ).bnd fun x => (leO c lo σ).bnd fun l => (leO c hi σ).bnd fun u => Le.refl _
  | .call f xs, σ => by rw [evX, evX]; exact (leXs c xs σ).bnd fun vs => c.call f vs
  | .callk f pm xs, σ => by
    rw [evX, evX]
    refine (leXs c xs σ).bnd fun vs => ?_
    cases permD pm vs with
    | none => exact Le.refl _
    | some us => exact c.call f us
  | .cb b xs, σ => by rw [evX, evX]; exact (leXs c xs σ).bnd fun vs => Le.refl _
  | .mb m o xs, σ => by rw [evX, evX]; exact (leX c o σ).bnd fun x => fun h => LeO.ite (fun r => ((leXs c xs σ).bnd fun vs => Le.refl _) h r) (LeO.refl _)
  | .fld o f, σ => by
    rw [evX, evX]
    refine (leX c o σ).bnd fun x => ?_
    have : ∀ h, fldD C h x f = fldD C' h x f := fun h => by unfold fldD; rw [c.flds]
    simp only [this]
    exact Le.refl _
  | .me k f m o xs, σ => by rw [evX, evX]; exact (leX c o σ).bnd fun x => fun h => LeO.ite (fun r => ((leXs c xs σ).bnd fun vs => c.call f (x :: vs)) h r) (LeO.refl _)
  | .mek k f m pm o xs, σ => by
    rw [evX, evX]
    refine (leX c o σ).bnd fun x => fun h => LeO.ite (fun r => ((leXs c xs σ).bnd fun vs => ?_) h r) (LeO.refl _)
    cases permD pm (x :: vs) with
    | none => exact Le.refl _
    | some us => exact c.call f us
  | .mk k f xs, σ => by rw [evX, evX]; exact (leXs c xs σ).bnd fun vs => leMk c k f vs
  | .mkk k f pm xs, σ => by
    rw [evX, evX]
    refine (leXs c xs σ).bnd fun vs => ?_
    cases permD pm vs with
    | none => exact Le.refl _
    | some us => exact leMk c k f us
  | .isi a k, σ => by rw [evX, evX]; exact (leX c a σ).bnd fun x => Le.refl _
  | .lc vs g it t e, σ => by
    rw [evX, evX]
    refine (leIt c it σ).bnd fun its => fun h r e1 => ?_
    cases e2 : compL (turnF (evTg C g) (evT C t) (evX C e) vs σ) its h with
    | none => simp only [e2] at e1; cases e1
    | some q =>
      simp only [e2] at e1
      simp only [compL_le (turnF_le (fun x σ => leTg c g x σ) (fun σ => leT c t σ) (fun σ => leX c e σ)) its h q e2]
      exact e1
  | .lc2 vs vs1 g it t g1 it1 t1 e, σ => by
    rw [evX, evX]
    refine (leIt c it σ).bnd fun its => fun h r e1 => ?_
    cases e2 : loopH (turnO (evTg C g) (evT C t) (evIt C it1) (turnI (evTg C g1) (evT C t1) (evX C e) vs1 h.length) vs σ) its (h ++ [.lst []]) with
    | none => simp only [e2] at e1; cases e1
    | some q =>
      simp only [e2] at e1
      simp only [loopH_le (turnO_le (fun x σ => leTg c g x σ) (fun σ => leT c t σ) (fun σ => leIt c it1 σ) (fun σ2 => turnI_le (fun x σ => leTg c g1 x σ) (fun σ => leT c t1 σ) (fun σ => leX c e σ))) its _ q e2]
      exact e1
  | .tryl f a, σ => by
    rw [evX, evX, c.told]
    intro h
    show LeO _ _
    cases C'.told f with
    | none => exact LeO.refl _
    | some q =>
      obtain ⟨k, fl, d⟩ := q
      intro r e
      simp only at e ⊢
      cases e1 : evX C a σ h with
      | none => rw [e1] at e; cases e
      | some q =>
        rw [e1] at e
        rw [leX c a σ h q e1, ← c.sub]
        exact e
  | .olist a, σ => by rw [evX, evX]; exact (leX c a σ).bnd fun x => Le.refl _
  | .lrng a, σ => by rw [evX, evX]; exact (leX c a σ).bnd fun x => Le.refl _
  | .olr a, σ => by rw [evX, evX]; exact (leX c a σ).bnd fun x => Le.refl _
  | .lset a, σ => by rw [evX, evX]; exact (leX c a σ).bnd fun x => Le.refl _
  | .oeq neg k f a b, σ => by
    rw [evX, evX]
    refine (leX c a σ).bnd fun x => (leX c b σ).bnd fun y => fun h r e => ?_
    unfold oeqM at e ⊢
    split at e
    · rename_i hc
      rw [if_pos hc]
      cases e1 : C.call f [x, y] h with
      | none => rw [e1] at e; cases e
      | some q => rw [e1] at e; rw [c.call _ _ _ _ e1]; exact e
    · cases e
  | .rev a, σ => by rw [evX, evX]; exact (leX c a σ).bnd fun x => Le.refl _
  | .srtR a, σ => by rw [evX, evX]; exact (leX c a σ).bnd fun x => Le.refl _
  | .din k a, σ => by rw [evX, evX, c.dct]; exact (leX c a σ).bnd fun x => Le.refl _
  | .dget k a, σ => by rw [evX, evX, c.dct]; exact (leX c a σ).bnd fun x => Le.refl _
theorem leMk (c : Cle C C') (k f : Nat) (vs : List D) : Le (mkD C k f vs) (mkD C' k f vs) := fun h r e => by
  unfold mkD at e ⊢
  cases e1 : C.call f (.loc h.length :: vs) (h ++ [.ins k []]) with
  | none => rw [e1] at e; cases e
  | some q =>
    rw [e1] at e
    rw [c.call _ _ _ _ e1]
    exact e
theorem leXs (c : Cle C C') : ∀ (x : Xs) (σ : Sl), Le (evXs C x σ) (evXs C' x σ)
  | .nil, σ => by rw [evXs, evXs]; exact Le.refl _
  | .cons a r, σ => by rw [evXs, evXs]; exact (leX c a σ).bnd fun x => (leXs c r σ).bnd fun xs => Le.refl _
  | .star a r, σ => by
    rw [evXs, evXs]
    refine (leX c a σ).bnd fun x => fun h => ?_
    show LeO _ _
    cases seqD h x with
    | none => exact LeO.refl _
    | some ys => exact fun r' => ((leXs c r σ).bnd fun xs => Le.refl _) h r'
theorem leO (c : Cle C C') : ∀ (x : O) (σ : Sl), Le (evO C x σ) (evO C' x σ)
  | .no, σ => by rw [evO, evO]; exact Le.refl _
  | .yes a, σ => by rw [evO, evO]; exact (leX c a σ).bnd fun x => Le.refl _
theorem leAnd (c : Cle C C') : ∀ (x : Xs) (σ : Sl), Le (evAnd C x σ) (evAnd C' x σ)
  | .nil, σ => by rw [evAnd, evAnd]; exact Le.refl _
  | .cons a .nil, σ => by rw [evAnd, evAnd]; exact leX c a σ
  | .cons a (.cons b r), σ => by
    have e1 : ∀ C : Cfg, evAnd C (.cons a (.cons b r)) σ = bnd (evX C a σ) (fun x => match x with
      | .bl true => evAnd C (.cons b r) σ
      | .bl false => ret (.bl false)
      | _ => stuck) := fun C => by rw [evAnd] <;> first | rfl | (intro z; cases z)
    rw [e1, e1]
    refine (leX c a σ).bnd fun x => ?_
    split
    · exact leAnd c (.cons b r) σ
    · exact Le.refl _
    · exact Le.refl _
  | .cons a (.star b r), σ => by
    have e1 : ∀ C : Cfg, evAnd C (.cons a (.star b r)) σ = bnd (evX C a σ) (fun x => match x with
      | .bl true => evAnd C (.star b r) σ
      | .bl false => ret (.bl false)
      | _ => stuck) := fun C => by rw [evAnd] <;> first | rfl | (intro z; cases z)
    rw [e1, e1]
    refine (leX c a σ).bnd fun x => ?_
    split
    · exact leAnd c (.star b r) σ
    · exact Le.refl _
    · exact Le.refl _
  | .star _ _, σ => by rw [evAnd, evAnd]; exact Le.refl _
theorem leOr (c : Cle C C') : ∀ (x : Xs) (σ : Sl), Le (evOr C x σ) (evOr C' x σ)
  | .nil, σ => by rw [evOr, evOr]; exact Le.refl _
  | .cons a .nil, σ => by rw [evOr, evOr]; exact leX c a σ
  | .cons a (.cons b r), σ => by
    have e1 : ∀ C : Cfg, evOr C (.cons a (.cons b r)) σ = bnd (evX C a σ) (fun x => match x with
      | .bl true => ret (.bl true)
      | .bl false => evOr C (.cons b r) σ
      | _ => stuck) := fun C => by rw [evOr] <;> first | rfl | (intro z; cases z)
    rw [e1, e1]
    refine (leX c a σ).bnd fun x => ?_
    split
    · exact Le.refl _
    · exact leOr c (.cons b r) σ
    · exact Le.refl _
  | .cons a (.star b r), σ => by
    have e1 : ∀ C : Cfg, evOr C (.cons a (.star b r)) σ = bnd (evX C a σ) (fun x => match x with
      | .bl true => ret (.bl true)
      | .bl false => evOr C (.star b r) σ
      | _ => stuck) := fun C => by rw [evOr] <;> first | rfl | (intro z; cases z)
    rw [e1, e1]
    refine (leX c a σ).bnd fun x => ?_
    split
    · exact Le.refl _
    · exact leOr c (.star b r) σ
    · exact Le.refl _
  | .star _ _, σ => by rw [evOr, evOr]; exact Le.refl _
theorem leT (c : Cle C C') : ∀ (x : T) (σ : Sl), Le (evT C x σ) (evT C' x σ)
  | .tt, σ => by rw [evT, evT]; exact Le.refl _
  | .val a, σ => by rw [evT, evT]; exact (leX c a σ).bnd fun x => Le.refl _
  | .nt t, σ => by rw [evT, evT]; exact (leT c t σ).bnd fun x => Le.refl _
  | .and ts, σ => by rw [evT, evT]; exact leTA c ts σ
  | .or ts, σ => by rw [evT, evT]; exact leTO c ts σ
theorem leTA (c : Cle C C') : ∀ (x : Ts) (σ : Sl), Le (evTA C x σ) (evTA C' x σ)
  | .nil, σ => by rw [evTA, evTA]; exact Le.refl _
  | .cons t r, σ => by rw [evTA, evTA]; exact (leT c t σ).bnd fun k => Le.ite (leTA c r σ) (Le.refl _)
theorem leTO (c : Cle C C') : ∀ (x : Ts) (σ : Sl), Le (evTO C x σ) (evTO C' x σ)
  | .nil, σ => by rw [evTO, evTO]; exact Le.refl _
  | .cons t r, σ => by rw [evTO, evTO]; exact (leT c t σ).bnd fun k => Le.ite (Le.refl _) (leTO c r σ)
theorem leIt (c : Cle C C') : ∀ (x : It) (σ : Sl), Le (evIt C x σ) (evIt C' x σ)
  | .seq a, σ => by rw [evIt, evIt]; exact (leX c a σ).bnd fun x => Le.refl _
  | .rng xs, σ => by rw [evIt, evIt]; exact (leXs c xs σ).bnd fun x => Le.refl _
  | .enm a, σ => by rw [evIt, evIt]; exact (leX c a σ).bnd fun x => Le.refl _
  | .zip a b, σ => by rw [evIt, evIt]; exact (leX c a σ).bnd fun x => (leX c b σ).bnd fun y => Le.refl _
theorem leTg (c : Cle C C') : ∀ (x : Tg) (d : D) (σ : Sl), Le (evTg C x d σ) (evTg C' x d σ)
  | .nm i, d, σ => by rw [evTg, evTg]; exact Le.refl _
  | .tp ts, d, σ => by
    rw [evTg, evTg]
    have key : ∀ xs, Le (if xs.length = tgsLen ts then evTgs C ts xs σ else stuck) (if xs.length = tgsLen ts then evTgs C' ts xs σ else stuck) := fun xs => Le.ite (leTgs c ts xs σ) (Le.refl _)
    intro h r e
    cases d with
    | tup xs =>
      simp only at e ⊢
      split at e
      · rename_i a h1 e1
        rw [key xs h _ e1]; exact e
      · cases e
    | wtp xs =>
      simp only at e ⊢
      split at e
      · rename_i a h1 e1
        rw [key xs h _ e1]; exact e
      · cases e
    | _ => exact e
  | .sb o i, d, σ => by rw [evTg, evTg]; exact (leX c o σ).bnd fun x => (leX c i σ).bnd fun k => Le.refl _
  | .fd o f, d, σ => by
    rw [evTg, evTg]
    have : ∀ x, setFD C x f d = setFD C' x f d := fun x => by funext h; unfold setFD; rw [c.flds]
    simp only [this]
    exact (leX c o σ).bnd fun x => Le.refl _
theorem leTgs (c : Cle C C') : ∀ (x : Tgs) (ds : List D) (σ : Sl), Le (evTgs C x ds σ) (evTgs C' x ds σ)
  | .nil, [], σ => by rw [evTgs, evTgs]; exact Le.refl _
  | .cons g r, d :: ds, σ => by rw [evTgs, evTgs]; exact (leTg c g d σ).bnd fun σ1 => leTgs c r ds σ1
  | .nil, _ :: _, σ => by rw [evTgs, evTgs] <;> first | exact Le.refl _ | (intros; simp_all)
  | .cons _ _, [], σ => by rw [evTgs, evTgs] <;> first | exact Le.refl _ | (intros; simp_all)
end
theorem thenS_le {α : Type} {m m' : Option (Rr α × Hd)} {σ : Sl} {k k' : α → Hd → Option Out} (h : LeO m m') (hk : ∀ a h, LeO (k a h) (k' a h)) : LeO (thenS m σ k) (thenS m' σ k') := fun r e => by
  unfold thenS at e ⊢
  cases e1 : m with
  | none => rw [e1] at e; cases e
  | some q =>
    rw [e1] at e
    rw [h q e1]
    obtain ⟨q, h1⟩ := q
    cases q with
    | ok x => exact hk x h1 r e
    | ex c pl => exact e
theorem forL_le {f f' : D → Sl → Hd → Option Out} (hf : ∀ x σ h, LeO (f x σ h) (f' x σ h)) : ∀ xs σ h, LeO (forL f xs σ h) (forL f' xs σ h)
  | [], σ, h => LeO.refl _
  | x :: xs, σ, h => fun r e => by
    unfold forL at e ⊢
    cases e1 : f x σ h with
    | none => rw [e1] at e; cases e
    | some o =>
      rw [e1] at e
      rw [hf x σ h o e1]
      cases o with
      | nx σ1 h1 => exact forL_le hf xs σ1 h1 r e
      | ct σ1 h1 => exact forL_le hf xs σ1 h1 r e
      | _ => exact e
theorem whlL_le {t t' : Sl → M Bool} {f f' : Sl → Hd → Option Out} (ht : ∀ σ, Le (t σ) (t' σ)) (hf : ∀ σ h, LeO (f σ h) (f' σ h)) : ∀ n σ h, LeO (whlL t f n σ h) (whlL t' f' n σ h)
  | 0, σ, h => LeO.refl _
  | n + 1, σ, h => fun r e => by
    unfold whlL at e ⊢
    cases e1 : t σ h with
    | none => rw [e1] at e; cases e
    | some q =>
      rw [e1] at e
      rw [ht σ h q e1]
      obtain ⟨q, h0⟩ := q
      cases q with
      | ex c pl => exact e
      | ok b =>
        cases b with
        | false => exact e
        | true =>
          simp only at e ⊢
          cases e2 : f σ h0 with
          | none => rw [e2] at e; cases e
          | some o =>
            rw [e2] at e
            rw [hf σ h0 o e2]
            cases o with
            | nx σ1 h1 => exact whlL_le ht hf n σ1 h1 r e
            | ct σ1 h1 => exact whlL_le ht hf n σ1 h1 r e
            | _ => exact e
mutual
theorem leS (c : Cle C C') : ∀ (s : S) (σ : Sl) (h : Hd), LeO (exS C s σ h) (exS C' s σ h)
  | .asg g x, σ, h => by rw [exS, exS]; exact thenS_le (leX c x σ h) fun d h1 => thenS_le (leTg c g d σ h1) fun _ _ => LeO.refl _
  | .par is xs, σ, h => by rw [exS, exS]; exact thenS_le (leXs c xs σ h) fun _ _ => LeO.refl _
  | .expr x, σ, h => by rw [exS, exS]; exact thenS_le (leX c x σ h) fun _ _ => LeO.refl _
  | .ret x, σ, h => by rw [exS, exS]; exact thenS_le (leX c x σ h) fun _ _ => LeO.refl _
  | .retN, σ, h => by rw [exS, exS]; exact LeO.refl _
  | .ifs t a b, σ, h => by rw [exS, exS]; exact thenS_le (leT c t σ h) fun k h1 => LeO.ite (leSs c a σ h1) (leSs c b σ h1)
  | .for_ g it b, σ, h => by rw [exS, exS]; exact thenS_le (leIt c it σ h) fun its h1 => forL_le (fun x σ h => thenS_le (leTg c g x σ h) fun σ1 h2 => leSs c b σ1 h2) its σ h1
  | .whl t b, σ, h => by rw [exS, exS, c.wl]; exact whlL_le (fun σ => leT c t σ) (fun σ h => leSs c b σ h) _ σ h
  | .raise k xs, σ, h => by rw [exS, exS, c.exf]; exact thenS_le (leXs c xs σ h) fun _ _ => LeO.refl _
  | .try_ b k hk, σ, h => by
    rw [exS, exS]
    intro r e
    cases e1 : exSs C b σ h with
    | none => rw [e1] at e; cases e
    | some o =>
      rw [e1] at e
      rw [leSs c b σ h o e1, ← c.sub, ← c.glb]
      exact e
  | .try2 b k g k2 i f, σ, h => by
    rw [exS, exS]
    intro r e
    cases e1 : exSs C b σ h with
    | none => rw [e1] at e; cases e
    | some o =>
      rw [e1] at e
      rw [leSs c b σ h o e1, ← c.sub, ← c.glb]
      exact e
  | .pass, σ, h => by rw [exS, exS]; exact LeO.refl _
  | .brk, σ, h => by rw [exS, exS]; exact LeO.refl _
  | .cont, σ, h => by rw [exS, exS]; exact LeO.refl _
  | .frz i, σ, h => by rw [exS, exS]; exact LeO.refl _
theorem leSs (c : Cle C C') : ∀ (s : Ss) (σ : Sl) (h : Hd), LeO (exSs C s σ h) (exSs C' s σ h)
  | .nil, σ, h => by rw [exSs, exSs]; exact LeO.refl _
  | .cons s r, σ, h => by
    rw [exSs, exSs]
    intro q e
    cases e1 : exS C s σ h with
    | none => rw [e1] at e; cases e
    | some o =>
      rw [e1] at e
      rw [leS c s σ h o e1]
      cases o with
      | nx σ1 h1 => exact leSs c r σ1 h1 q e
      | _ => exact e
end
end
theorem leN (B : Tab) : ∀ (n f : Nat) (vs : List D), Le (callN B n f vs) (callN B (n + 1) f vs)
  | 0, f, vs => fun h r e => by cases e
  | n + 1, f, vs => fun h r e => by
    have c : Cle ⟨callN B n, fun k => B.glb[k]?, B.sub, B.flds, B.exf, B.told, B.dct, B.wl⟩ ⟨callN B (n + 1), fun k => B.glb[k]?, B.sub, B.flds, B.exf, B.told, B.dct, B.wl⟩ := ⟨leN B n, rfl, rfl, rfl, rfl, rfl, rfl, rfl⟩
    unfold callN at e ⊢
    cases hF : B.fns[f]? with
    | none => rw [hF] at e; cases e
    | some F =>
      simp only [hF] at e ⊢
      by_cases hl : vs.length = F.np
      · rw [if_pos hl] at e ⊢
        cases hpu : F.pu with
        | false =>
          simp only [hpu] at e ⊢
          simp only [Bool.false_eq_true, if_false] at e ⊢
          cases e1 : exSs ⟨callN B n, fun k => B.glb[k]?, B.sub, B.flds, B.exf, B.told, B.dct, B.wl⟩ F.body (start F.ns vs) h with
          | none => rw [e1] at e; cases e
          | some o => rw [e1] at e; rw [leSs c _ _ _ o e1]; exact e
        | true =>
          simp only [hpu, if_true] at e ⊢
          by_cases hp : pureDs vs = true
          · rw [if_pos hp] at e ⊢
            cases e1 : exSs ⟨callN B n, fun k => B.glb[k]?, B.sub, B.flds, B.exf, B.told, B.dct, B.wl⟩ F.body (start F.ns vs) [] with
            | none => rw [e1] at e; cases e
            | some o => rw [e1] at e; rw [leSs c _ _ _ o e1]; exact e
          · rw [if_neg hp] at e; cases e
      · rw [if_neg hl] at e; cases e
theorem callN_le {B : Tab} {n f : Nat} {vs : List D} {h : Hd} {r : Rr D × Hd} (e : callN B n f vs h = some r) : ∀ m, callN B (m + n) f vs h = some r
  | 0 => by rw [Nat.zero_add]; exact e
  | m + 1 => by rw [Nat.add_right_comm]; exact leN B _ f vs h r (callN_le e m)
end Ev

set_option linter.all false
set_option maxRecDepth 100000
namespace Ev.Pl
/-! ### the evaluator's equations, at a heap; each choice by a named function, its first argument looked at first -/
theorem nr {α : Sort _} {a b : α} (h : a = b) : a = b := h
/-- holds an argument fast: simp does not look into it -/
structure Tag {α : Type} (a : α) : Type where
def eO {α β : Type} (o : Option α) (n : β) (s : α → β) (_t : Tag (n, s) := ⟨⟩) : β := match o with
  | none => n
  | some a => s a
@[simp] theorem eO_none {α β : Type} {n : β} {s : α → β} : eO none n s = n := nr rfl
@[simp] theorem eO_some {α β : Type} {a : α} {n : β} {s : α → β} : eO (some a) n s = s a := nr rfl
/-- behind an expression -/
def eR {α β : Type} (r : Option (Rr α × Hd)) (k : α → Hd → Option β) (e : Nat → Pl → Hd → Option β) (_t : Tag (k, e) := ⟨⟩) : Option β := match r with
  | none => none
  | some (.ok a, h) => k a h
  | some (.ex c pl, h) => e c pl h
section
variable {α β : Type} {k : α → Hd → Option β} {e : Nat → Pl → Hd → Option β}
@[simp] theorem eR_none : eR none k e = none := nr rfl
@[simp] theorem eR_ok {a : α} {h : Hd} : eR (some (.ok a, h)) k e = k a h := nr rfl
@[simp] theorem eR_ex {c : Nat} {pl : Pl} {h : Hd} : eR (some (.ex c pl, h)) k e = e c pl h := nr rfl
end
/-- behind a statement -/
def eS (o : Option Out) (k : Sl → Hd → Option Out) (_t : Tag k := ⟨⟩) : Option Out := match o with
  | some (.nx σ h) => k σ h
  | o => o
section
variable {k : Sl → Hd → Option Out} {σ : Sl} {h : Hd} {d : D} {c : Nat} {pl : Pl}
@[simp] theorem eS_none : eS none k = none := nr rfl
@[simp] theorem eS_nx : eS (some (.nx σ h)) k = k σ h := nr rfl
@[simp] theorem eS_rt : eS (some (.rt d h)) k = some (.rt d h) := nr rfl
@[simp] theorem eS_bk : eS (some (.bk σ h)) k = some (.bk σ h) := nr rfl
@[simp] theorem eS_ct : eS (some (.ct σ h)) k = some (.ct σ h) := nr rfl
@[simp] theorem eS_ex : eS (some (.ex c pl σ h)) k = some (.ex c pl σ h) := nr rfl
end
/-- choices by a value -/
def negK : D → M D
  | .int i => ret (.int (-i))
  | _ => stuck
def ntK : D → M D
  | .bl b => ret (.bl (!b))
  | _ => stuck
def andK (m : M D) : D → M D
  | .bl true => m
  | .bl false => ret (.bl false)
  | _ => stuck
def orK (m : M D) : D → M D
  | .bl true => ret (.bl true)
  | .bl false => m
  | _ => stuck
def oK : D → M (Option Int)
  | .int i => ret (some i)
  | _ => stuck
def lsetK : D → M D
  | .tup xs => match allI xs with
    | some ns => if ns.length < 4000 then ret (.int (nodupI ns)) else stuck
    | none => stuck
  | .lst xs => match allI xs with
    | some ns => if ns.Nodup ∧ ns.length < 4000 then ret (.int ns.length) else stuck
    | none => stuck
  | _ => stuck
def dinK (C : Cfg) (k : Nat) : D → M D
  | .str s => match C.dct k s with
    | some r => ret (.bl r.isSome)
    | none => stuck
  | _ => stuck
def dgetK (C : Cfg) (k : Nat) : D → M D
  | .str s => match C.dct k s with
    | some (some d) => ret d
    | _ => stuck
  | _ => stuck
def enmK : D → M (List D)
  | .lst xs => ret (enmD 0 xs)
  | _ => stuck
def zipK : D → D → M (List D)
  | .lst xs, .lst ys => ret (zipD xs ys)
  | .tup xs, .tup ys => ret (zipD xs ys)
  | .tup xs, .lst ys => ret (zipD xs ys)
  | _, _ => stuck
def tpK (C : Cfg) (gs : Tgs) (σ : Sl) : D → M Sl
  | .tup xs => if xs.length = tgsLen gs then evTgs C gs xs σ else stuck
  | .wtp xs => if xs.length = tgsLen gs then evTgs C gs xs σ else stuck
  | _ => stuck
def raiK (c : Nat) (σ : Sl) (h : Hd) : List D → List Nm → Option Out
  | [d], [f] => some (.ex c [(f, d)] σ h)
  | [], [] => some (.ex c [] σ h)
  | _, _ => none
def frzK (σ : Sl) (h : Hd) (i : Nat) : Option (Option D) → Option Out
  | some (some (.loc n)) => match h[n]? with
    | some (.lst xs) => some (.nx (σ.set i (some (.lst xs))) (h.set n .dead))
    | _ => none
  | some (some (.lst xs)) => some (.nx σ h)
  | some (some (.tup xs)) => some (.nx σ h)
  | _ => none
def tryK (C : Cfg) (c : Nat) (k : Hk) (o : Option Out) : Option Out := match o with
  | some (.ex e pl σ1 h1) => match C.sub e c with
    | some true => (match k with
      | .rtc d => some (.rt d h1)
      | .rtg k => match C.glb k with
        | some d => some (.rt d h1)
        | none => none
      | .rti i b => if pl.isEmpty && decide (i < σ1.length) then some (.rt (.bl b) h1) else none
      | .rtf i f => match lkF f pl with
        | some v => if i < σ1.length then some (.rt v h1) else none
        | none => none)
    | some false => some (.ex e pl σ1 h1)
    | none => none
  | o => o
def try2K (C : Cfg) (c k c2 i : Nat) (f : Nm) (o : Option Out) : Option Out := match o with
  | some (.ex e pl σ1 h1) => match C.sub e c with
    | some true => (match C.glb k with
      | some d => some (.rt d h1)
      | none => none)
    | some false => (match C.sub e c2 with
      | some true => (match lkF f pl with
        | some v => if i < σ1.length then some (.rt v h1) else none
        | none => none)
      | some false => some (.ex e pl σ1 h1)
      | none => none)
    | none => none
  | o => o
/-- a comprehension with two fors, from its heap on -/
def comp2 (C : Cfg) (vs vs1 : List Nat) (g : Tg) (t : T) (g1 : Tg) (it1 : It) (t1 : T) (e : X) (σ : Sl) (n : Nat) (its : List D) (h : Hd) : Option Hd := loopH (turnO (evTg C g) (evT C t) (evIt C it1) (turnI (evTg C g1) (evT C t1) (evX C e) vs1 n) vs σ) its h
section
variable {C : Cfg} {σ : Sl} {h : Hd} {a b c o : X} {xs r : Xs} {t : T} {ts : Ts}
def cf (B : Tab) (n : Nat) : Cfg := ⟨callN B n, fun k => B.glb[k]?, B.sub, B.flds, B.exf, B.told, B.dct, B.wl⟩
@[simp] theorem cf_call {B : Tab} {n : Nat} : (cf B n).call = callN B n := nr rfl
@[simp] theorem cf_glb {B : Tab} {n k : Nat} : (cf B n).glb k = B.glb[k]? := nr rfl
@[simp] theorem cf_sub {B : Tab} {n : Nat} : (cf B n).sub = B.sub := nr rfl
@[simp] theorem cf_flds {B : Tab} {n : Nat} : (cf B n).flds = B.flds := nr rfl
@[simp] theorem cf_exf {B : Tab} {n : Nat} : (cf B n).exf = B.exf := nr rfl
@[simp] theorem cf_told {B : Tab} {n : Nat} : (cf B n).told = B.told := nr rfl
@[simp] theorem cf_dct {B : Tab} {n : Nat} : (cf B n).dct = B.dct := nr rfl
@[simp] theorem cf_wl {B : Tab} {n : Nat} : (cf B n).wl = B.wl := nr rfl
@[simp ↓] theorem bnd_at {α β : Type} {m : M α} {f : α → M β} : bnd m f h = eR (m h) (fun a h1 => f a h1) (fun c pl h1 => some (.ex c pl, h1)) := by
  unfold bnd eR
  cases m h with
  | none => rfl
  | some q => obtain ⟨q, h1⟩ := q; cases q <;> rfl
@[simp] theorem ret_at {α : Type} {a : α} : ret a h = some (.ok a, h) := nr rfl
@[simp] theorem stuck_at {α : Type} : (stuck : M α) h = none := nr rfl
@[simp] theorem opt_at {α : Type} {o : Option α} : opt o h = eO o none fun a => some (.ok a, h) := by cases o <;> rfl
@[simp] theorem negK_int {i : Int} : negK (.int i) h = some (.ok (.int (-i)), h) := nr rfl
@[simp] theorem ntK_bl {b : Bool} : ntK (.bl b) h = some (.ok (.bl (!b)), h) := nr rfl
@[simp] theorem andK_t {m : M D} : andK m (.bl true) h = m h := nr rfl
@[simp] theorem andK_f {m : M D} : andK m (.bl false) h = some (.ok (.bl false), h) := nr rfl
theorem andK_bl {m : M D} {b : Bool} : andK m (.bl b) h = if b then m h else some (.ok (.bl false), h) := by cases b <;> rfl
@[simp] theorem orK_t {m : M D} : orK m (.bl true) h = some (.ok (.bl true), h) := nr rfl
@[simp] theorem orK_f {m : M D} : orK m (.bl false) h = m h := nr rfl
theorem orK_bl {m : M D} {b : Bool} : orK m (.bl b) h = if b then some (.ok (.bl true), h) else m h := by cases b <;> rfl
@[simp] theorem oK_int {i : Int} : oK (.int i) h = some (.ok (some i), h) := nr rfl
@[simp] theorem lsetK_tup {xs : List D} : lsetK (.tup xs) h = eO (allI xs) none fun ns => if ns.length < 4000 then some (.ok (.int (nodupI ns)), h) else none := by
  show (match allI xs with
    | some ns => if ns.length < 4000 then ret (D.int (nodupI ns)) else stuck
    | none => stuck) h = _
  cases allI xs with
  | none => rfl
  | some ns =>
    show (if ns.length < 4000 then ret (D.int (nodupI ns)) else stuck) h = if ns.length < 4000 then some (Rr.ok (D.int (nodupI ns)), h) else none
    split <;> rfl
@[simp] theorem dinK_str {k : Nat} {s : Nm} : dinK C k (.str s) h = eO (C.dct k s) none fun r => some (.ok (.bl r.isSome), h) := by
  show (match C.dct k s with
    | some r => ret (D.bl r.isSome)
    | none => stuck) h = _
  cases C.dct k s <;> rfl
@[simp] theorem dgetK_str {k : Nat} {s : Nm} : dgetK C k (.str s) h = eO (C.dct k s) none fun r => eO r none fun d => some (.ok d, h) := by
  show (match C.dct k s with
    | some (some d) => ret d
    | _ => stuck) h = _
  cases C.dct k s with
  | none => rfl
  | some r => cases r <;> rfl
@[simp] theorem enmK_lst {xs : List D} : enmK (.lst xs) h = some (.ok (enmD 0 xs), h) := nr rfl
@[simp] theorem zipK_lst {xs ys : List D} : zipK (.lst xs) (.lst ys) h = some (.ok (zipD xs ys), h) := nr rfl
@[simp] theorem zipK_tl {xs ys : List D} : zipK (.tup xs) (.lst ys) h = some (.ok (zipD xs ys), h) := nr rfl
@[simp] theorem zipK_tup {xs ys : List D} : zipK (.tup xs) (.tup ys) h = some (.ok (zipD xs ys), h) := nr rfl
@[simp] theorem tpK_tup {gs : Tgs} {xs : List D} : tpK C gs σ (.tup xs) h = if xs.length = tgsLen gs then evTgs C gs xs σ h else none := by
  unfold tpK; simp only; split <;> rfl
@[simp] theorem tpK_wtp {gs : Tgs} {xs : List D} : tpK C gs σ (.wtp xs) h = if xs.length = tgsLen gs then evTgs C gs xs σ h else none := by
  unfold tpK; simp only; split <;> rfl
@[simp] theorem raiK_1 {c : Nat} {d : D} {f : Nm} : raiK c σ h [d] [f] = some (.ex c [(f, d)] σ h) := nr rfl
@[simp] theorem raiK_0 {c : Nat} : raiK c σ h [] [] = some (.ex c [] σ h) := nr rfl
@[simp] theorem frzK_lst {i : Nat} {xs : List D} : frzK σ h i (some (some (.lst xs))) = some (.nx σ h) := nr rfl
@[simp] theorem frzK_tup {i : Nat} {xs : List D} : frzK σ h i (some (some (.tup xs))) = some (.nx σ h) := nr rfl
theorem frzK_loc {i n : Nat} {xs : List D} (e : h[n]? = some (.lst xs)) : frzK σ h i (some (some (.loc n))) = some (.nx (σ.set i (some (.lst xs))) (h.set n .dead)) := by
  unfold frzK; simp only [e]
@[simp] theorem tryK_nx {c : Nat} {k : Hk} : tryK C c k (some (.nx σ h)) = some (.nx σ h) := nr rfl
@[simp] theorem tryK_rt {c : Nat} {k : Hk} {d : D} : tryK C c k (some (.rt d h)) = some (.rt d h) := nr rfl
@[simp] theorem tryK_exc {c e : Nat} {d : D} {pl : Pl} : tryK C c (.rtc d) (some (.ex e pl σ h)) = eO (C.sub e c) none fun b => if b then some (.rt d h) else some (.ex e pl σ h) := by
  unfold tryK; simp only
  cases C.sub e c with
  | none => rfl
  | some b => cases b <;> rfl
@[simp] theorem tryK_exf {c e i : Nat} {f : Nm} {pl : Pl} : tryK C c (.rtf i f) (some (.ex e pl σ h)) = eO (C.sub e c) none fun b => if b then eO (lkF f pl) none (fun v => if i < σ.length then some (.rt v h) else none) else some (.ex e pl σ h) := by
  unfold tryK; simp only
  cases C.sub e c with
  | none => rfl
  | some b =>
    cases b with
    | false => rfl
    | true => cases lkF f pl <;> rfl
@[simp] theorem tryK_exi {c e i : Nat} {b : Bool} {pl : Pl} : tryK C c (.rti i b) (some (.ex e pl σ h)) = eO (C.sub e c) none fun k => if k then (if pl.isEmpty && decide (i < σ.length) then some (.rt (.bl b) h) else none) else some (.ex e pl σ h) := by
  unfold tryK; simp only
  cases C.sub e c with
  | none => rfl
  | some b => cases b <;> rfl
@[simp] theorem tryK_exg {c e j : Nat} {pl : Pl} : tryK C c (.rtg j) (some (.ex e pl σ h)) = eO (C.sub e c) none fun k => if k then eO (C.glb j) none (fun d => some (.rt d h)) else some (.ex e pl σ h) := by
  unfold tryK; simp only
  cases C.sub e c with
  | none => rfl
  | some b =>
    cases b with
    | false => rfl
    | true => simp; cases C.glb j <;> rfl
@[simp] theorem try2K_nx {c k c2 i : Nat} {f : Nm} : try2K C c k c2 i f (some (.nx σ h)) = some (.nx σ h) := nr rfl
@[simp] theorem try2K_rt {c k c2 i : Nat} {f : Nm} {d : D} : try2K C c k c2 i f (some (.rt d h)) = some (.rt d h) := nr rfl
@[simp] theorem try2K_ex {c j c2 e i : Nat} {f : Nm} {pl : Pl} : try2K C c j c2 i f (some (.ex e pl σ h)) = eO (C.sub e c) none fun k => if k then eO (C.glb j) none (fun d => some (.rt d h)) else eO (C.sub e c2) none fun k => if k then eO (lkF f pl) none (fun v => if i < σ.length then some (.rt v h) else none) else some (.ex e pl σ h) := by
  unfold try2K; simp only
  cases C.sub e c with
  | none => rfl
  | some b =>
    cases b with
    | true => simp; cases C.glb j <;> rfl
    | false =>
      simp
      cases C.sub e c2 with
      | none => rfl
      | some b =>
        cases b with
        | false => rfl
        | true => simp; cases lkF f pl <;> rfl
@[simp] theorem x_var {i : Nat} : evX C (.var i) σ h = eO σ[i]? none fun o => eO o none fun d => some (.ok d, h) := by
  rw [evX]
  cases σ[i]? with
  | none => rfl
  | some o => cases o <;> rfl
@[simp] theorem x_cst {d : D} : evX C (.cst d) σ h = some (.ok d, h) := by rw [evX]; rfl
@[simp] theorem x_glb {k : Nat} : evX C (.glb k) σ h = opt (C.glb k) h := by rw [evX]
@[simp] theorem x_bin {op : Bop} : evX C (.bin op a b) σ h = bnd (evX C a σ) (fun x => bnd (evX C b σ) fun y => fun h => opt (binD op (see h x) (see h y)) h) h := by rw [evX]
@[simp] theorem x_neg : evX C (.neg a) σ h = bnd (evX C a σ) negK h := by
  rw [evX]
  congr 1 <;> (funext x; cases x <;> rfl)
@[simp] theorem x_cmp {op : Cop} : evX C (.cmp op a b) σ h = bnd (evX C a σ) (fun x => bnd (evX C b σ) fun y => fun h => eO (cmpD op h x y) none fun r => some (.ok (.bl r), h)) h := by
  rw [evX]
  congr 1 <;> (funext x; congr 1; funext y h)
  cases cmpD op h x y <;> rfl
@[simp] theorem x_chn {o p : Cop} : evX C (.chn o p a b c) σ h = bnd (evX C a σ) (fun x => bnd (evX C b σ) fun y => fun h => eO (cmpD o h x y) none fun r => if r then bnd (evX C c σ) (fun z => fun h2 => eO (cmpD p h2 y z) none fun r => some (.ok (.bl r), h2)) h else some (.ok (.bl false), h)) h := by
  rw [evX]
  congr 1 <;> (funext x; congr 1; funext y h)
  cases cmpD o h x y with
  | none => rfl
  | some r =>
    cases r with
    | false => rfl
    | true =>
      show bnd _ _ h = bnd _ _ h
      congr 1 <;> (funext z h2)
      cases cmpD p h2 y z <;> rfl
@[simp] theorem x_nt : evX C (.nt a) σ h = bnd (evX C a σ) ntK h := by
  rw [evX]
  congr 1 <;> (funext x; cases x <;> rfl)
@[simp] theorem x_and : evX C (.and xs) σ h = evAnd C xs σ h := by rw [evX]
@[simp] theorem x_or : evX C (.or xs) σ h = evOr C xs σ h := by rw [evX]
@[simp] theorem x_ite : evX C (.ite t a b) σ h = bnd (evT C t σ) (fun k h => if k then evX C a σ h else evX C b σ h) h := by
  rw [evX]
  congr 1 <;> (funext k h; cases k <;> rfl)
@[simp] theorem x_tup : evX C (.tup xs) σ h = bnd (evXs C xs σ) (fun vs h => if vs.length ≤ szL then some (.ok (.tup vs), h) else none) h := by
  rw [evX]
  congr 1 <;> (funext vs h; split <;> rfl)
@[simp] theorem x_lst : evX C (.lst xs) σ h = bnd (evXs C xs σ) (fun vs h => if vs.length ≤ szL then some (.ok (.lst vs), h) else none) h := by
  rw [evX]
  congr 1 <;> (funext vs h; split <;> rfl)
@[simp] theorem x_nlst : evX C (.nlst xs) σ h = bnd (evXs C xs σ) (fun vs => fun h => if vs.length ≤ szL then some (.ok (.loc h.length), h ++ [.lst vs]) else none) h := by rw [evX]
@[simp] theorem x_sub : evX C (.sub a b) σ h = bnd (evX C a σ) (fun x => bnd (evX C b σ) fun y => fun h => opt (subD h x y) h) h := by rw [evX]
@[simp] theorem x_slc {lo hi : O} : evX C (.slc a lo hi) σ h = bnd (evX C a σ) (fun x => bnd (evO C lo σ) fun l => bnd (evO C hi σ) fun u => fun h => opt (slcD h x l u) h) h := by rw [evX]
@[simp] theorem x_call {f : Nat} : evX C (.call f xs) σ h = bnd (evXs C xs σ) (fun vs => C.call f vs) h := by rw [evX]
@[simp] theorem x_callk {f : Nat} {pm : List Nat} : evX C (.callk f pm xs) σ h = bnd (evXs C xs σ) (fun vs h => eO (permD pm vs) none fun us => C.call f us h) h := by
  rw [evX]
  congr 1 <;> (funext vs h; cases permD pm vs <;> rfl)
@[simp] theorem x_cb {b : Bi} : evX C (.cb b xs) σ h = bnd (evXs C xs σ) (fun vs => fun h => opt (biD b h vs) h) h := by rw [evX]
@[simp] theorem x_mb {m : Mi} : evX C (.mb m o xs) σ h = bnd (evX C o σ) (fun x => fun h => if tyMb m h x then bnd (evXs C xs σ) (fun vs => mbD m x vs) h else none) h := by rw [evX]
@[simp] theorem x_fld {f : Nm} : evX C (.fld o f) σ h = bnd (evX C o σ) (fun x => fun h => opt (fldD C h x f) h) h := by rw [evX]
@[simp] theorem x_me {c f : Nat} {m : Nm} : evX C (.me c f m o xs) σ h = bnd (evX C o σ) (fun x => fun h => if isIns h x c m then bnd (evXs C xs σ) (fun vs => C.call f (x :: vs)) h else none) h := by rw [evX]
@[simp] theorem x_mek {c f : Nat} {m : Nm} {pm : List Nat} : evX C (.mek c f m pm o xs) σ h = bnd (evX C o σ) (fun x => fun h => if isIns h x c m then bnd (evXs C xs σ) (fun vs h => eO (permD pm (x :: vs)) none fun us => C.call f us h) h else none) h := by
  rw [evX]
  congr 1 <;> (funext x h)
  split
  · congr 1; funext vs h; cases permD pm (x :: vs) <;> rfl
  · rfl
@[simp] theorem x_mk {c f : Nat} : evX C (.mk c f xs) σ h = bnd (evXs C xs σ) (fun vs => mkD C c f vs) h := by rw [evX]
@[simp] theorem x_mkk {c f : Nat} {pm : List Nat} : evX C (.mkk c f pm xs) σ h = bnd (evXs C xs σ) (fun vs h => eO (permD pm vs) none fun us => mkD C c f us h) h := by
  rw [evX]
  congr 1 <;> (funext vs h; cases permD pm vs <;> rfl)
@[simp] theorem x_isi {k : Isi} : evX C (.isi a k) σ h = bnd (evX C a σ) (fun x => fun h => eO (isiD k h x) none fun r => some (.ok (.bl r), h)) h := by
  rw [evX]
  congr 1 <;> (funext x h; cases isiD k h x <;> rfl)
/-- a comprehension's turns, a loop's, by name -/
def compB (C : Cfg) (vs : List Nat) (g : Tg) (t : T) (e : X) (σ : Sl) (its : List D) (h : Hd) : Option (List D × Hd) := compL (turnF (evTg C g) (evT C t) (evX C e) vs σ) its h
def forB (C : Cfg) (g : Tg) (b : Ss) (its : List D) (σ : Sl) (h : Hd) : Option Out := forL (fun x σ h => thenS (evTg C g x σ h) σ fun σ1 h2 => exSs C b σ1 h2) its σ h
def whlB (C : Cfg) (t : T) (b : Ss) (n : Nat) (σ : Sl) (h : Hd) : Option Out := whlL (fun σ => evT C t σ) (fun σ h => exSs C b σ h) n σ h
@[simp] theorem x_lc {vs : List Nat} {g : Tg} {it : It} {e : X} : evX C (.lc vs g it t e) σ h = bnd (evIt C it σ) (fun its => fun h => eO (compB C vs g t e σ its h) none fun q => if q.1.length ≤ szL then some (.ok (.lst q.1), q.2) else none) h := by
  rw [evX]
  congr 1 <;> (funext its h)
  show (match compB C vs g t e σ its h with
    | some (ys, h1) => if ys.length ≤ szL then some (Rr.ok (D.lst ys), h1) else none
    | none => none) = _
  cases compB C vs g t e σ its h with
  | none => rfl
  | some q => rfl
@[simp] theorem x_tryl {f : Nat} : evX C (.tryl f a) σ h = eO (C.told f) none fun q => eR (evX C a σ h) (fun _ h1 => some (.ok q.2.2, h1)) fun e pl h1 => eO (C.sub e q.1) none fun b => if b then eO (lkF q.2.1 pl) none (fun v => some (.ok v, h1)) else none := by
  rw [evX]
  cases C.told f with
  | none => rfl
  | some q =>
    obtain ⟨c, fl, d⟩ := q
    simp only [eO_some]
    cases evX C a σ h with
    | none => rfl
    | some q =>
      obtain ⟨q, h1⟩ := q
      cases q with
      | ok x => rfl
      | ex e pl =>
        simp only [eR_ex]
        cases C.sub e c with
        | none => rfl
        | some b =>
          cases b with
          | false => rfl
          | true => simp only [eO_some, if_true]; cases lkF fl pl <;> rfl
@[simp] theorem x_olist : evX C (.olist a) σ h = bnd (evX C a σ) (fun x => fun h => eO (seqD h x) none fun xs => some (.ok (.loc h.length), h ++ [.lst xs])) h := by
  rw [evX]
  congr 1 <;> (funext x h; cases seqD h x <;> rfl)
@[simp] theorem x_lrng : evX C (.lrng a) σ h = bnd (evX C a σ) (fun x h => eO (rngL [x]) none fun ds => some (.ok (.lst ds), h)) h := by
  rw [evX]
  congr 1 <;> (funext x h; cases rngL [x] <;> rfl)
@[simp] theorem x_olr : evX C (.olr a) σ h = bnd (evX C a σ) (fun x h => eO (rngL [x]) none fun ds => some (.ok (.loc h.length), h ++ [.lst ds])) h := by
  rw [evX]
  congr 1 <;> (funext x h; cases rngL [x] <;> rfl)
@[simp] theorem x_lset : evX C (.lset a) σ h = bnd (evX C a σ) lsetK h := by
  rw [evX]
  congr 1 <;> (funext x; cases x <;> rfl)
@[simp] theorem x_oeq {neg : Bool} {c f : Nat} : evX C (.oeq neg c f a b) σ h = bnd (evX C a σ) (fun x => bnd (evX C b σ) fun y => oeqM (C.call f) neg c x y) h := by rw [evX]
theorem oeqM_at {F : List D → M D} {neg r : Bool} {c : Nat} {x y : D} {h h1 : Hd} (i1 : insOf h x c = true) (i2 : eqOk neg h c y = true) (e : F [x, y] h = some (.ok (.bl r), h1)) : oeqM F neg c x y h = some (.ok (.bl (if neg then !r else r)), h1) := by
  unfold oeqM; simp only [i1, i2, e, Bool.and_self, if_true]
def revK : D → Option D
  | .lst xs => some (.lst xs.reverse)
  | _ => none
@[simp] theorem revK_lst {xs : List D} : revK (.lst xs) = some (.lst xs.reverse) := nr rfl
@[simp] theorem x_rev : evX C (.rev a) σ h = bnd (evX C a σ) (fun x => fun h => opt (revK (see h x)) h) h := by
  rw [evX]
  congr 1 <;> (funext x h; generalize see h x = y; cases y <;> rfl)
@[simp] theorem x_srtR : evX C (.srtR a) σ h = bnd (evX C a σ) (fun x => fun h => opt (biD .sortedR h [x]) h) h := by rw [evX]
@[simp] theorem x_din {k : Nat} : evX C (.din k a) σ h = bnd (evX C a σ) (dinK C k) h := by
  rw [evX]
  congr 1 <;> (funext x; cases x <;> rfl)
@[simp] theorem x_dget {k : Nat} : evX C (.dget k a) σ h = bnd (evX C a σ) (dgetK C k) h := by
  rw [evX]
  congr 1 <;> (funext x; cases x <;> rfl)
@[simp] theorem xs_nil : evXs C .nil σ h = some (.ok [], h) := by rw [evXs]; rfl
@[simp] theorem xs_cons : evXs C (.cons a r) σ h = bnd (evX C a σ) (fun x => bnd (evXs C r σ) fun xs => ret (x :: xs)) h := by rw [evXs]
@[simp] theorem xs_star : evXs C (.star a r) σ h = bnd (evX C a σ) (fun x => fun h => eO (seqD h x) none fun ys => bnd (evXs C r σ) (fun xs => ret (ys ++ xs)) h) h := by
  rw [evXs]
  congr 1 <;> (funext x h; cases seqD h x <;> rfl)
@[simp] theorem o_no : evO C .no σ h = some (.ok none, h) := by rw [evO]; rfl
@[simp] theorem o_yes : evO C (.yes a) σ h = bnd (evX C a σ) oK h := by
  rw [evO]
  congr 1 <;> (funext x; cases x <;> rfl)
@[simp] theorem and_one : evAnd C (.cons a .nil) σ h = evX C a σ h := by rw [evAnd]
@[simp] theorem and_two : evAnd C (.cons a (.cons b r)) σ h = bnd (evX C a σ) (andK (evAnd C (.cons b r) σ)) h := by
  rw [evAnd]
  · congr 1 <;> (funext x; cases x <;> first | rfl | (rename_i b; cases b <;> rfl))
  · intro z; cases z
@[simp] theorem or_one : evOr C (.cons a .nil) σ h = evX C a σ h := by rw [evOr]
@[simp] theorem or_two : evOr C (.cons a (.cons b r)) σ h = bnd (evX C a σ) (orK (evOr C (.cons b r) σ)) h := by
  rw [evOr]
  · congr 1 <;> (funext x; cases x <;> first | rfl | (rename_i b; cases b <;> rfl))
  · intro z; cases z
@[simp] theorem t_tt : evT C .tt σ h = some (.ok true, h) := by rw [evT]; rfl
@[simp] theorem t_val : evT C (.val a) σ h = bnd (evX C a σ) (fun x => fun h => opt (truD h x) h) h := by rw [evT]
@[simp] theorem t_nt : evT C (.nt t) σ h = bnd (evT C t σ) (fun k => ret (!k)) h := by rw [evT]
@[simp] theorem t_and : evT C (.and ts) σ h = evTA C ts σ h := by rw [evT]
@[simp] theorem t_or : evT C (.or ts) σ h = evTO C ts σ h := by rw [evT]
@[simp] theorem ta_nil : evTA C .nil σ h = some (.ok true, h) := by rw [evTA]; rfl
@[simp] theorem ta_cons : evTA C (.cons t ts) σ h = bnd (evT C t σ) (fun k h => if k then evTA C ts σ h else some (.ok false, h)) h := by
  rw [evTA]
  congr 1 <;> (funext k h; cases k <;> rfl)
@[simp] theorem to_nil : evTO C .nil σ h = some (.ok false, h) := by rw [evTO]; rfl
@[simp] theorem to_cons : evTO C (.cons t ts) σ h = bnd (evT C t σ) (fun k h => if k then some (.ok true, h) else evTO C ts σ h) h := by
  rw [evTO]
  congr 1 <;> (funext k h; cases k <;> rfl)
@[simp] theorem i_seq : evIt C (.seq a) σ h = bnd (evX C a σ) (fun x => fun h => opt (itD h x) h) h := by rw [evIt]
@[simp] theorem i_rng : evIt C (.rng xs) σ h = bnd (evXs C xs σ) (fun vs => opt (rngD vs)) h := by rw [evIt]
@[simp] theorem i_enm : evIt C (.enm a) σ h = bnd (evX C a σ) enmK h := by
  rw [evIt]
  congr 1 <;> (funext x; cases x <;> rfl)
@[simp] theorem i_zip : evIt C (.zip a b) σ h = bnd (evX C a σ) (fun x => bnd (evX C b σ) fun y => zipK x y) h := by
  rw [evIt]
  congr 1 <;> (funext x; congr 1; funext y; cases x <;> first | rfl | (cases y <;> rfl))
@[simp] theorem g_nm {i : Nat} {d : D} : evTg C (.nm i) d σ h = some (.ok (σ.set i (some d)), h) := by rw [evTg]; rfl
@[simp] theorem g_tp {gs : Tgs} {d : D} : evTg C (.tp gs) d σ h = eR (tpK C gs σ d h) (fun a h1 => some (.ok a, h1)) fun _ _ _ => none := by
  rw [evTg]
  cases d with
  | tup xs =>
    show (match (if xs.length = tgsLen gs then evTgs C gs xs σ else stuck) h with
      | some (.ok a, h1) => some (Rr.ok a, h1)
      | _ => none) = eR ((if xs.length = tgsLen gs then evTgs C gs xs σ else stuck) h) _ _
    cases (if xs.length = tgsLen gs then evTgs C gs xs σ else stuck) h with
    | none => rfl
    | some q => obtain ⟨q, h1⟩ := q; cases q <;> rfl
  | wtp xs =>
    show (match (if xs.length = tgsLen gs then evTgs C gs xs σ else stuck) h with
      | some (.ok a, h1) => some (Rr.ok a, h1)
      | _ => none) = eR ((if xs.length = tgsLen gs then evTgs C gs xs σ else stuck) h) _ _
    cases (if xs.length = tgsLen gs then evTgs C gs xs σ else stuck) h with
    | none => rfl
    | some q => obtain ⟨q, h1⟩ := q; cases q <;> rfl
  | _ => rfl
@[simp] theorem g_sb {i : X} {d : D} : evTg C (.sb o i) d σ h = bnd (evX C o σ) (fun x => bnd (evX C i σ) fun k => bnd (setSD x k d) fun _ => ret σ) h := by rw [evTg]
@[simp] theorem g_fd {f : Nm} {d : D} : evTg C (.fd o f) d σ h = bnd (evX C o σ) (fun x => bnd (setFD C x f d) fun _ => ret σ) h := by rw [evTg]
@[simp] theorem gs_nil : evTgs C .nil [] σ h = some (.ok σ, h) := by rw [evTgs]; rfl
@[simp] theorem gs_cons {g : Tg} {gs : Tgs} {d : D} {ds : List D} : evTgs C (.cons g gs) (d :: ds) σ h = bnd (evTg C g d σ) (fun σ1 => evTgs C gs ds σ1) h := by rw [evTgs]
@[simp ↓] theorem thenS_at {α : Type} {m : Option (Rr α × Hd)} {k : α → Hd → Option Out} : thenS m σ k = eR m k fun c pl h => some (.ex c pl σ h) := by
  unfold thenS
  cases m with
  | none => rfl
  | some q => obtain ⟨q, h1⟩ := q; cases q <;> rfl
@[simp] theorem s_asg' {g : Tg} {x : X} : exS C (.asg g x) σ h = thenS (evX C x σ h) σ fun d h1 => thenS (evTg C g d σ h1) σ fun σ1 h2 => some (.nx σ1 h2) := by rw [exS]
@[simp] theorem s_par' {is : List Nat} : exS C (.par is xs) σ h = thenS (evXs C xs σ h) σ fun ds h1 => eO (setAll is ds σ) none fun σ1 => some (.nx σ1 h1) := by
  rw [exS]
  congr 1 <;> (funext ds h1; cases setAll is ds σ <;> rfl)
@[simp] theorem s_expr' {x : X} : exS C (.expr x) σ h = thenS (evX C x σ h) σ fun _ h1 => some (.nx σ h1) := by rw [exS]
@[simp] theorem s_ret' {x : X} : exS C (.ret x) σ h = thenS (evX C x σ h) σ fun d h1 => some (.rt d h1) := by rw [exS]
@[simp] theorem s_retN' : exS C .retN σ h = some (.rt .non h) := by rw [exS]
@[simp] theorem s_ifs' {a b : Ss} : exS C (.ifs t a b) σ h = thenS (evT C t σ h) σ fun k h1 => if k then exSs C a σ h1 else exSs C b σ h1 := by rw [exS]
@[simp] theorem s_for' {g : Tg} {it : It} {b : Ss} : exS C (.for_ g it b) σ h = thenS (evIt C it σ h) σ fun its h1 => forB C g b its σ h1 := by rw [exS] <;> rfl
@[simp] theorem s_whl' {b : Ss} : exS C (.whl t b) σ h = whlB C t b C.wl σ h := by rw [exS] <;> rfl
@[simp] theorem s_raise' {c : Nat} : exS C (.raise c xs) σ h = thenS (evXs C xs σ h) σ fun ds h1 => raiK c σ h1 ds (C.exf c) := by
  rw [exS]
  congr 1
@[simp] theorem s_try2 {b : Ss} {c j c2 i : Nat} {f : Nm} : exS C (.try2 b c j c2 i f) σ h = try2K C c j c2 i f (exSs C b σ h) := by
  rw [exS] <;> rfl
@[simp] theorem x_lc2 {vs vs1 : List Nat} {g g1 : Tg} {it it1 : It} {t1 : T} : evX C (.lc2 vs vs1 g it t g1 it1 t1 a) σ h = bnd (evIt C it σ) (fun its => fun h => eO (comp2 C vs vs1 g t g1 it1 t1 a σ h.length its (h ++ [.lst []])) none fun h1 => some (.ok (.loc h.length), h1)) h := by
  rw [evX]
  congr 1 <;> (funext its h; show (match comp2 C vs vs1 g t g1 it1 t1 a σ h.length its (h ++ [.lst []]) with | some h1 => some (Rr.ok (D.loc h.length), h1) | none => none) = _; cases comp2 C vs vs1 g t g1 it1 t1 a σ h.length its (h ++ [.lst []]) <;> rfl)
@[simp] theorem s_try' {b : Ss} {c : Nat} {k : Hk} : exS C (.try_ b c k) σ h = tryK C c k (exSs C b σ h) := by
  rw [exS]
  cases exSs C b σ h with
  | none => rfl
  | some o => cases o <;> rfl
@[simp] theorem s_pass' : exS C .pass σ h = some (.nx σ h) := by rw [exS]
@[simp] theorem s_brk' : exS C .brk σ h = some (.bk σ h) := by rw [exS]
@[simp] theorem s_cont' : exS C .cont σ h = some (.ct σ h) := by rw [exS]
@[simp] theorem s_frz' {i : Nat} : exS C (.frz i) σ h = frzK σ h i σ[i]? := by
  rw [exS]
  cases σ[i]? with
  | none => rfl
  | some o =>
    cases o with
    | none => rfl
    | some d => cases d <;> rfl
@[simp] theorem ss_nil : exSs C .nil σ h = some (.nx σ h) := by rw [exSs]
@[simp] theorem ss_cons {s : S} {r : Ss} : exSs C (.cons s r) σ h = eS (exS C s σ h) fun σ1 h1 => exSs C r σ1 h1 := by
  rw [exSs]
  cases exS C s σ h with
  | none => rfl
  | some o => cases o <;> rfl
@[simp ↓] theorem turnF_at {mg : D → Sl → M Sl} {mt : Sl → M Bool} {me : Sl → M D} {vs : List Nat} {x : D} : turnF mg mt me vs σ x h = eR (mg x (wipe σ vs) h) (fun σ2 h2 => eR (mt σ2 h2) (fun b h3 => if b then eR (me σ2 h3) (fun y h4 => some (some y, h4)) (fun _ _ _ => none) else some (none, h3)) fun _ _ _ => none) fun _ _ _ => none := by
  unfold turnF
  cases mg x (wipe σ vs) h with
  | none => rfl
  | some q =>
    obtain ⟨q, h2⟩ := q
    cases q with
    | ex c pl => rfl
    | ok σ2 =>
      simp only [eR_ok]
      cases mt σ2 h2 with
      | none => rfl
      | some q =>
        obtain ⟨q, h3⟩ := q
        cases q with
        | ex c pl => rfl
        | ok b =>
          cases b with
          | false => rfl
          | true =>
            simp only [eR_ok, if_true]
            cases me σ2 h3 with
            | none => rfl
            | some q => obtain ⟨q, h4⟩ := q; cases q <;> rfl
@[simp] theorem outR_nx {σ : Sl} : outR (some (.nx σ h)) = some (.ok .non, h) := nr rfl
@[simp] theorem outR_rt {d : D} : outR (some (.rt d h)) = some (.ok d, h) := nr rfl
@[simp] theorem outR_ex {c : Nat} {pl : Pl} {σ : Sl} : outR (some (.ex c pl σ h)) = some (.ex c pl, h) := nr rfl
@[simp] theorem wipe_nil : wipe σ [] = σ := nr rfl
@[simp] theorem wipe_cons {v : Nat} {vs : List Nat} : wipe σ (v :: vs) = (wipe σ vs).set v none := nr rfl
theorem mk_at {k f : Nat} {vs : List D} : mkD C k f vs h = eR (C.call f (.loc h.length :: vs) (h ++ [.ins k []])) (fun d h1 => if isNon d then some (.ok (.loc h.length), h1) else none) fun e pl h1 => some (.ex e pl, h1) := by
  unfold mkD
  cases C.call f (.loc h.length :: vs) (h ++ [.ins k []]) with
  | none => rfl
  | some q =>
    obtain ⟨q, h1⟩ := q
    cases q with
    | ok d => cases d <;> rfl
    | ex c pl => rfl
end
@[simp] theorem start_at {n : Nat} {vs : List D} : start n vs = vs.map some ++ List.replicate (n - vs.length) none := nr rfl
theorem callN_pu {B : Tab} {n f np ns : Nat} {body : Ss} {vs : List D} {h h' : Hd} {d : D} (hF : B.fns[f]? = some ⟨np, ns, true, body⟩) (hl : vs.length = np) (hp : pureDs vs = true)
    (he : outR (exSs (cf B n) body (start ns vs) []) = some (.ok d, h')) (hd : pureD d = true) : callN B (n + 1) f vs h = some (.ok d, h) := by
  unfold cf at he
  unfold callN
  simp only [hF, hl, if_true, hp, he, hd]
theorem callN_puX {B : Tab} {n f np ns : Nat} {body : Ss} {vs : List D} {h h' : Hd} {c : Nat} {pl : Pl} (hF : B.fns[f]? = some ⟨np, ns, true, body⟩) (hl : vs.length = np) (hp : pureDs vs = true)
    (he : outR (exSs (cf B n) body (start ns vs) []) = some (.ex c pl, h')) (hd : plPure pl = true) : callN B (n + 1) f vs h = some (.ex c pl, h) := by
  unfold cf at he
  unfold callN
  simp only [hF, hl, if_true, hp, he, hd]
theorem callN_im {B : Tab} {n f np ns : Nat} {body : Ss} {vs : List D} {h : Hd} {r : Option (Rr D × Hd)} (hF : B.fns[f]? = some ⟨np, ns, false, body⟩) (hl : vs.length = np)
    (he : outR (exSs (cf B n) body (start ns vs) h) = r) : callN B (n + 1) f vs h = r := by
  unfold cf at he
  unfold callN
  simp only [hF, hl, if_true, he]
  rfl
theorem compL_mapI {α : Type} {f : D → Hd → Option (Option D × Hd)} {i : α → D} {g : α → D} {h : Hd} : ∀ {xs : List α}, (∀ x ∈ xs, f (i x) h = some (some (g x), h)) → compL f (xs.map i) h = some (xs.map g, h)
  | [], _ => rfl
  | x :: xs, e => by
    rw [List.map_cons, compL, e x (List.mem_cons_self ..)]
    simp only
    rw [compL_mapI fun y hy => e y (List.mem_cons_of_mem _ hy)]
    rfl
/-- a loop, by an invariant -/
theorem forL_inv {f : D → Sl → Hd → Option Out} (I : Nat → Sl → Hd → Prop) : ∀ {xs : List D} {k : Nat} {σ : Sl} {h : Hd}, I k σ h → (∀ (j : Nat) (x : D) (σ : Sl) (h : Hd), xs[j]? = some x → I (k + j) σ h → ∃ σ' h', f x σ h = some (.nx σ' h') ∧ I (k + j + 1) σ' h') →
    ∃ σ' h', forL f xs σ h = some (.nx σ' h') ∧ I (k + xs.length) σ' h'
  | [], k, σ, h, i, _ => ⟨σ, h, rfl, i⟩
  | x :: xs, k, σ, h, i, st => by
    obtain ⟨σ1, h1, e1, i1⟩ := st 0 x σ h rfl i
    obtain ⟨σ2, h2, e2, i2⟩ := forL_inv I (xs := xs) (k := k + 1) i1 fun j y σ h e ij => by
      have := st (j + 1) y σ h e (by rw [← Nat.add_assoc, Nat.add_right_comm]; exact ij)
      rw [← Nat.add_assoc, Nat.add_right_comm k j 1] at this
      exact this
    refine ⟨σ2, h2, ?_, ?_⟩
    · simp only [forL, e1, e2]
    · rw [List.length_cons, ← Nat.add_assoc, Nat.add_right_comm]; exact i2
theorem forB_inv {C : Cfg} {g : Tg} {b : Ss} (I : Nat → Sl → Hd → Prop) {xs : List D} {σ : Sl} {h : Hd} (i : I 0 σ h) (st : ∀ (j : Nat) (x : D) (σ : Sl) (h : Hd), xs[j]? = some x → I j σ h → ∃ σ' h', thenS (evTg C g x σ h) σ (fun σ1 h2 => exSs C b σ1 h2) = some (.nx σ' h') ∧ I (j + 1) σ' h') :
    ∃ σ' h', forB C g b xs σ h = some (.nx σ' h') ∧ I xs.length σ' h' := by
  have := forL_inv (f := fun x σ h => thenS (evTg C g x σ h) σ fun σ1 h2 => exSs C b σ1 h2) I (xs := xs) (k := 0) i fun j x σ h e ij => by
    rw [Nat.zero_add] at ij ⊢
    exact st j x σ h e ij
  rw [Nat.zero_add] at this
  exact this
@[simp] theorem forB_nil {C : Cfg} {g : Tg} {b : Ss} {σ : Sl} {h : Hd} : forB C g b [] σ h = some (.nx σ h) := nr rfl
theorem forB_cons {C : Cfg} {g : Tg} {b : Ss} {x : D} {xs : List D} {σ σ1 : Sl} {h h1 : Hd} (e : thenS (evTg C g x σ h) σ (fun σ1 h2 => exSs C b σ1 h2) = some (.nx σ1 h1)) : forB C g b (x :: xs) σ h = forB C g b xs σ1 h1 := by
  unfold forB
  simp only [forL, e]
theorem forB_ret {C : Cfg} {g : Tg} {b : Ss} {x d : D} {xs : List D} {σ : Sl} {h h1 : Hd} (e : thenS (evTg C g x σ h) σ (fun σ1 h2 => exSs C b σ1 h2) = some (.rt d h1)) : forB C g b (x :: xs) σ h = some (.rt d h1) := by
  unfold forB
  simp only [forL, e]
theorem compB_map {α : Type} {C : Cfg} {vs : List Nat} {g : Tg} {t : T} {e : X} {σ : Sl} {i k : α → D} {h : Hd} {xs : List α} (st : ∀ x ∈ xs, turnF (evTg C g) (evT C t) (evX C e) vs σ (i x) h = some (some (k x), h)) : compB C vs g t e σ (xs.map i) h = some (xs.map k, h) := compL_mapI st
theorem whlB_t {C : Cfg} {t : T} {b : Ss} {n : Nat} {σ σ1 : Sl} {h h0 h1 : Hd} (e1 : evT C t σ h = some (.ok true, h0)) (e2 : exSs C b σ h0 = some (.nx σ1 h1)) : whlB C t b (n + 1) σ h = whlB C t b n σ1 h1 := by
  unfold whlB
  rw [whlL]; simp only [e1, e2]
theorem whlB_f {C : Cfg} {t : T} {b : Ss} {n : Nat} {σ : Sl} {h h0 : Hd} (e1 : evT C t σ h = some (.ok false, h0)) : whlB C t b (n + 1) σ h = some (.nx σ h0) := by
  unfold whlB
  rw [whlL]; simp only [e1]
theorem compB_nil {C : Cfg} {vs : List Nat} {g : Tg} {t : T} {e : X} {σ : Sl} {h : Hd} : compB C vs g t e σ [] h = some ([], h) := rfl
theorem compB_cons {C : Cfg} {vs : List Nat} {g : Tg} {t : T} {e : X} {σ : Sl} {x y : D} {xs ys : List D} {h h1 h2 : Hd} (e1 : turnF (evTg C g) (evT C t) (evX C e) vs σ x h = some (some y, h1)) (e2 : compB C vs g t e σ xs h1 = some (ys, h2)) : compB C vs g t e σ (x :: xs) h = some (y :: ys, h2) := by
  unfold compB at *
  simp only [compL, e1, e2]
theorem compB_skip {C : Cfg} {vs : List Nat} {g : Tg} {t : T} {e : X} {σ : Sl} {x : D} {xs ys : List D} {h h1 h2 : Hd} (e1 : turnF (evTg C g) (evT C t) (evX C e) vs σ x h = some (none, h1)) (e2 : compB C vs g t e σ xs h1 = some (ys, h2)) : compB C vs g t e σ (x :: xs) h = some (ys, h2) := by
  unfold compB at *
  simp only [compL, e1, e2]
/-! ### data -/
abbrev iD (i : Nat) : D := .int (i : Int)
def tD (t : List Nat) : D := .tup (t.map iD)
theorem pure_ints (t : List Nat) : pureDs (t.map iD) = true := by
  induction t with
  | nil => rfl
  | cons a t ih => simpa [pureDs, pureD] using ih
@[simp] theorem pure_tD (t : List Nat) : pureD (tD t) = true := pure_ints t
end Ev.Pl

set_option linter.all false
set_option maxRecDepth 100000
namespace Ev.Pl
@[simp] theorem sz_1 : 1 ≤ szL := by decide
@[simp] theorem sz_2 : 2 ≤ szL := by decide
@[simp] theorem sz_3 : 3 ≤ szL := by decide
@[simp] theorem sz_4 : 4 ≤ szL := by decide
@[simp] theorem sz_5 : 5 ≤ szL := by decide
@[simp] theorem sz_6 : 6 ≤ szL := by decide
@[simp] theorem sz_7 : 7 ≤ szL := by decide
@[simp] theorem sz_8 : 8 ≤ szL := by decide
@[simp] theorem sz_9 : 9 ≤ szL := by decide
@[simp] theorem sz_10 : 10 ≤ szL := by decide
@[simp] theorem sz_11 : 11 ≤ szL := by decide
@[simp] theorem sz_12 : 12 ≤ szL := by decide
@[simp] theorem sz_13 : 13 ≤ szL := by decide
@[simp] theorem sz_14 : 14 ≤ szL := by decide
@[simp] theorem sz_15 : 15 ≤ szL := by decide
section
variable {C : Cfg} {h : Hd} {n : Nat} {xs ys : List D} {i j : Int} {s u : Nm} {b c : Bool} {x y d : D}
@[simp] theorem see_non : see h .non = .non := nr rfl
@[simp] theorem see_bl : see h (.bl b) = .bl b := nr rfl
@[simp] theorem see_int : see h (.int i) = .int i := nr rfl
@[simp] theorem see_str : see h (.str s) = .str s := nr rfl
@[simp] theorem see_tup : see h (.tup xs) = .tup xs := nr rfl
@[simp] theorem see_wtp : see h (.wtp xs) = .wtp xs := nr rfl
@[simp] theorem see_lst : see h (.lst xs) = .lst xs := nr rfl
@[simp] theorem see_ro : see h (.ro xs) = .ro xs := nr rfl
theorem see_loc (e : h[n]? = some (.lst xs)) : see h (.loc n) = .lst xs := by simp only [see, e]
theorem see_ins {k : Nat} {fs : Pl} (e : h[n]? = some (.ins k fs)) : see h (.loc n) = .loc n := by simp only [see, e]
@[simp] theorem tru_non : truD h .non = some false := nr rfl
@[simp] theorem tru_bl : truD h (.bl b) = some b := nr rfl
@[simp] theorem tru_tup : truD h (.tup xs) = some (!xs.isEmpty) := nr rfl
@[simp] theorem tru_lst : truD h (.lst xs) = some (!xs.isEmpty) := nr rfl
@[simp] theorem tru_int : truD h (.int i) = some (i != 0) := nr rfl
@[simp] theorem bin_add_i : binD .add (.int i) (.int j) = some (.int (i + j)) := nr rfl
@[simp] theorem bin_sub_i : binD .sub (.int i) (.int j) = some (.int (i - j)) := nr rfl
@[simp] theorem bin_add_t : binD .add (.tup xs) (.tup ys) = if xs.length + ys.length ≤ szL then some (.tup (xs ++ ys)) else none := nr rfl
@[simp] theorem bin_add_l : binD .add (.lst xs) (.lst ys) = if xs.length + ys.length ≤ szL then some (.lst (xs ++ ys)) else none := nr rfl
@[simp] theorem bin_add_s : binD .add (.str s) (.str u) = if s.length + u.length ≤ szL then some (.str (s ++ u)) else none := nr rfl
theorem bin_mul_i (e : (small i || small j) = true) : binD .mul (.int i) (.int j) = some (.int (i * j)) := by
  have : (small i || small j || decide (i.natAbs.log2 + j.natAbs.log2 < 1000000)) = true := by rw [e]; rfl
  unfold binD
  simp only [this, if_true]
theorem bin_fdiv_i (h0 : 0 < j) (h1 : j < 1073741824) : binD .fdiv (.int i) (.int j) = some (.int (i / j)) := by
  unfold binD
  simp [h0, h1]
theorem bin_mod_i (h0 : 0 < j) : binD .mod (.int i) (.int j) = some (.int (i % j)) := by
  unfold binD
  simp [h0]
theorem bin_mul_l (e : decide (i.natAbs.log2 + j.natAbs.log2 < 1000000) = true) : binD .mul (.int i) (.int j) = some (.int (i * j)) := by
  have : (small i || small j || decide (i.natAbs.log2 + j.natAbs.log2 < 1000000)) = true := by rw [e, Bool.or_true]
  unfold binD
  simp only [this, if_true]
theorem bin_pow (h0 : 0 ≤ j) (h1 : j ≤ 1000000) (h2 : i.natAbs < 18446744073709551616) : binD .pow (.int i) (.int j) = some (.int (i ^ j.toNat)) := by
  unfold binD
  simp [h0, h1, h2]
theorem bin_mul_b (e : xs.length ≤ szL) : binD .mul (.lst xs) (.int (if b then 1 else 0)) = some (.lst (if b then xs else [])) := by
  cases b
  · unfold binD; simp [rep]
  · unfold binD; simp [rep, e]
@[simp] theorem cmp_eq : cmpD .eq h x y = eqD (see h x) (see h y) := nr rfl
@[simp] theorem cmp_ne : cmpD .ne h x y = eO (eqD (see h x) (see h y)) none fun r => some (!r) := by
  show (match eqD (see h x) (see h y) with
    | some r => some (!r)
    | none => none) = _
  cases eqD (see h x) (see h y) <;> rfl
@[simp] theorem cmp_lt : cmpD .lt h (.int i) (.int j) = some (decide (i < j)) := nr rfl
@[simp] theorem cmp_le : cmpD .le h (.int i) (.int j) = some (decide (i ≤ j)) := nr rfl
@[simp] theorem cmp_gt : cmpD .gt h (.int i) (.int j) = some (decide (j < i)) := nr rfl
@[simp] theorem cmp_ge : cmpD .ge h (.int i) (.int j) = some (decide (j ≤ i)) := nr rfl
@[simp] theorem cmp_isN : cmpD .isN h x .non = some (isNon x) := nr rfl
@[simp] theorem cmp_notN : cmpD .notN h x .non = some (!isNon x) := nr rfl
@[simp] theorem cmp_isT : cmpD .isT h (.bl b) (.bl c) = some (b == c) := nr rfl
@[simp] theorem cmp_in_t : cmpD .isin h (.int i) (.tup ys) = inD (.int i) ys := nr rfl
@[simp] theorem cmp_in_l : cmpD .isin h (.int i) (.lst ys) = inD (.int i) ys := nr rfl
@[simp] theorem cmp_ni_t : cmpD .notin h (.int i) (.tup ys) = eO (inD (.int i) ys) none fun r => some (!r) := by
  show (match inD (.int i) ys with
      | some r => some (!r)
      | none => none) = _
  cases inD (.int i) ys <;> rfl
@[simp] theorem cmp_ni_l : cmpD .notin h (.int i) (.lst ys) = eO (inD (.int i) ys) none fun r => some (!r) := by
  show (match inD (.int i) ys with
      | some r => some (!r)
      | none => none) = _
  cases inD (.int i) ys <;> rfl
@[simp] theorem isNon_non : isNon .non = true := nr rfl
@[simp] theorem isNon_int : isNon (.int i) = false := nr rfl
@[simp] theorem isNon_str : isNon (.str s) = false := nr rfl
@[simp] theorem isNon_tup : isNon (.tup xs) = false := nr rfl
@[simp] theorem isNon_lst : isNon (.lst xs) = false := nr rfl
@[simp] theorem isNon_bl : isNon (.bl b) = false := nr rfl
theorem eqD_of (h1 : eqable x = true) (h2 : eqable y = true) (h3 : dep x ≤ 60) (h4 : dep y ≤ 60) : eqD x y = some (deq x y) := by
  unfold eqD
  simp [h1, h2, h3, h4]
@[simp] theorem eqD_int : eqD (.int i) (.int j) = some (i == j) := by
  rw [eqD_of (by rw [eqable]) (by rw [eqable]) (by simp [dep]) (by simp [dep]), deq]
@[simp] theorem eqD_bl : eqD (.bl b) (.bl c) = some (b == c) := by
  rw [eqD_of (by rw [eqable]) (by rw [eqable]) (by simp [dep]) (by simp [dep]), deq]
@[simp] theorem eqD_non : eqD .non .non = some true := by
  rw [eqD_of (by rw [eqable]) (by rw [eqable]) (by simp [dep]) (by simp [dep]), deq]
/-- a plain text -/
def okS (s : Nm) : Bool := s.all fun c => decide (c < 1114112)
theorem eqD_str (e1 : okS s = true) (e2 : okS u = true) : eqD (.str s) (.str u) = some (s == u) := by
  rw [eqD_of (by rw [eqable]; exact e1) (by rw [eqable]; exact e2) (by simp [dep]) (by simp [dep]), deq]
@[simp] theorem sub_tup : subD h (.tup xs) (.int i) = atI xs i := nr rfl
@[simp] theorem sub_lst : subD h (.lst xs) (.int i) = atI xs i := nr rfl
@[simp] theorem sub_ro : subD h (.ro xs) (.int i) = atI xs i := nr rfl
theorem sub_loc (e : h[n]? = some (.lst xs)) : subD h (.loc n) (.int i) = atI xs i := by unfold subD; rw [see_loc e]
@[simp] theorem ixN_nat {n k : Nat} : ixN n (k : Int) = if k < n then some k else none := by
  unfold ixN
  have : (0 : Int) ≤ (k : Int) := Int.natCast_nonneg k
  simp [this]
theorem at_nat {α : Type} {xs : List α} {k : Nat} : atI xs (k : Int) = xs[k]? := by
  unfold atI
  rw [ixN_nat]
  by_cases e : k < xs.length
  · simp only [if_pos e]
  · simp only [if_neg e]
    rw [List.getElem?_eq_none (Nat.le_of_not_lt e)]
@[simp] theorem at_0 {α : Type} {x : α} {xs : List α} : atI (x :: xs) 0 = some x := at_nat (k := 0)
@[simp] theorem at_1 {α : Type} {x y : α} {xs : List α} : atI (x :: y :: xs) 1 = some y := at_nat (k := 1)
@[simp] theorem at_2 {α : Type} {x y z : α} {xs : List α} : atI (x :: y :: z :: xs) 2 = some z := at_nat (k := 2)
theorem at_last {α : Type} {xs : List α} (e : xs ≠ []) : atI xs (-1) = xs.getLast? := by
  have hl : 0 < xs.length := List.length_pos_iff.mpr e
  unfold atI ixN
  rw [if_neg (by omega), if_pos (by omega), List.getLast?_eq_getElem?]
  have : (-1 + (xs.length : Int)).toNat = xs.length - 1 := by omega
  simp only [this]
@[simp] theorem seq_tup : seqD h (.tup xs) = some xs := nr rfl
@[simp] theorem seq_lst : seqD h (.lst xs) = some xs := nr rfl
@[simp] theorem seq_ro : seqD h (.ro xs) = some xs := nr rfl
theorem seq_loc (e : h[n]? = some (.lst xs)) : seqD h (.loc n) = some xs := by unfold seqD; rw [see_loc e]
@[simp] theorem it_tup : itD h (.tup xs) = some xs := nr rfl
@[simp] theorem it_lst : itD h (.lst xs) = some xs := nr rfl
@[simp] theorem it_ro : itD h (.ro xs) = some xs := nr rfl
def lenK : D → Option D
  | .tup xs | .lst xs | .ro xs => some (.int xs.length)
  | .str s => if s.length ≤ szL then some (.int s.length) else none
  | _ => none
@[simp] theorem lenK_tup : lenK (.tup xs) = some (.int xs.length) := nr rfl
@[simp] theorem lenK_lst : lenK (.lst xs) = some (.int xs.length) := nr rfl
@[simp] theorem lenK_ro : lenK (.ro xs) = some (.int xs.length) := nr rfl
@[simp] theorem lenK_str : lenK (.str s) = if s.length ≤ szL then some (.int s.length) else none := nr rfl
@[simp] theorem bi_len : biD .len h [x] = lenK (see h x) := nr rfl
@[simp] theorem bi_tuple : biD .tuple h [x] = eO (seqD h x) none fun xs => some (.tup xs) := by
  show (match seqD h x with
    | some xs => some (D.tup xs)
    | none => none) = _
  cases seqD h x <;> rfl
@[simp] theorem bi_list : biD .list h [x] = eO (seqD h x) none fun xs => some (.lst xs) := by
  show (match seqD h x with
    | some xs => some (D.lst xs)
    | none => none) = _
  cases seqD h x <;> rfl
theorem bi_all {bs : List Bool} (e : allB xs = some bs) : biD .all h [.lst xs] = some (.bl (bs.all id)) := by
  show (match allB xs with | some bs => some (D.bl (bs.all id)) | none => none) = _
  rw [e]
theorem bi_any {bs : List Bool} (e : allB xs = some bs) : biD .any h [.lst xs] = some (.bl (bs.any id)) := by
  show (match allB xs with | some bs => some (D.bl (bs.any id)) | none => none) = _
  rw [e]
theorem bi_sum {ns : List Int} (e : allI xs = some ns) (e2 : seqD h x = some xs) : biD .sum h [x] = some (.int ns.sum) := by
  show (match seqD h x with | some xs => (match allI xs with | some ns => some (D.int ns.sum) | none => none) | none => none) = _
  rw [e2]; simp only [e]
@[simp] theorem bi_min2 : biD .min h [.int i, .int j] = some (.int (if j < i then j else i)) := nr rfl
@[simp] theorem bi_max2 : biD .max h [.int i, .int j] = some (.int (if j > i then j else i)) := nr rfl
@[simp] theorem bi_abs : biD .abs h [.int i] = some (.int (if i < 0 then -i else i)) := nr rfl
@[simp] theorem bi_int_b : biD .int h [.bl b] = some (.int (if b then 1 else 0)) := nr rfl
@[simp] theorem bi_int_i : biD .int h [.int i] = some (.int i) := nr rfl
theorem bi_divmod (h0 : 0 < j) (h1 : j < 1073741824) : biD .divmod h [.int i, .int j] = some (.wtp [.int (i / j), .int (i % j)]) := by
  show (if decide (0 < j) && decide (j < 1073741824) then some (D.wtp [.int (i / j), .int (i % j)]) else none) = _
  simp [h0, h1]
theorem bi_repr {t : Nm} (e : reprD x = some t) (e2 : t.length ≤ szL) (e3 : dep x ≤ 60) : biD .repr h [x] = some (.str t) := by
  show (match reprD x with | some t => (if t.length ≤ szL && decide (dep x ≤ 60) then some (D.str t) else none) | none => none) = _
  rw [e]; simp [e2, e3]
@[simp] theorem isi_int {k : Isi} : isiD k h (.int i) = some (isiT k .int) := nr rfl
@[simp] theorem isi_tup {k : Isi} : isiD k h (.tup xs) = some (isiT k .tup) := nr rfl
@[simp] theorem isi_lst {k : Isi} : isiD k h (.lst xs) = some (isiT k .lst) := nr rfl
@[simp] theorem isi_str {k : Isi} : isiD k h (.str s) = some (isiT k .str) := nr rfl
@[simp] theorem isi_bl {k : Isi} : isiD k h (.bl b) = some (isiT k .bl) := nr rfl
@[simp] theorem isi_non {k : Isi} : isiD k h .non = some (isiT k .non) := nr rfl
theorem isi_ins {k c : Nat} {fs : Pl} (e : h[n]? = some (.ins c fs)) (hk : c = k) : isiD (.cls k) h (.loc n) = some true := by
  unfold isiD
  rw [see_ins e]
  simp [tyD, e, hk]
theorem sets_loc {k : Nat} {v : D} (e : h[n]? = some (.lst xs)) (hk : k < xs.length) : setSD (.loc n) (.int k) v h = some (.ok (), h.set n (.lst (xs.set k v))) := by
  unfold setSD
  simp [e, hk]
theorem fld_loc {c : Nat} {fs : Pl} {f : Nm} (e : h[n]? = some (.ins c fs)) (hf : (C.flds c).contains f = true) : fldD C h (.loc n) f = lkF f fs := by
  unfold fldD
  simp only [e, hf, if_true]
theorem setf_loc {c : Nat} {fs : Pl} {f : Nm} {v : D} (e : h[n]? = some (.ins c fs)) (hf : (C.flds c).contains f = true) (hl : fs.length < 100) : setFD C (.loc n) f v h = some (.ok (), h.set n (.ins c (putF f v fs))) := by
  unfold setFD
  simp [e, hl]
  simpa using hf
theorem isIns_loc {c : Nat} {fs : Pl} {m : Nm} (e : h[n]? = some (.ins c fs)) (hm : lkF m fs = none) : isIns h (.loc n) c m = true := by
  unfold isIns
  simp [e, hm]
@[simp] theorem tgs_0 : tgsLen .nil = 0 := nr rfl
@[simp] theorem tgs_1 {g : Tg} {r : Tgs} : tgsLen (.cons g r) = tgsLen r + 1 := nr rfl
theorem tm_append (e : h[n]? = some (.lst xs)) : tyMb .append h (.loc n) = true := by simp only [tyMb, e]
theorem tm_extend (e : h[n]? = some (.lst xs)) : tyMb .extend h (.loc n) = true := by simp only [tyMb, e]
theorem tm_pop (e : h[n]? = some (.lst xs)) : tyMb .pop h (.loc n) = true := by simp only [tyMb, e]
@[simp] theorem tm_index : tyMb .index h (.tup xs) = true := nr rfl
@[simp] theorem tm_join : tyMb .join h (.str s) = true := nr rfl
@[simp] theorem tm_split : tyMb .split h (.str s) = true := nr rfl
theorem mb_append (e : h[n]? = some (.lst xs)) (hl : xs.length < szL) : mbD .append (.loc n) [x] h = some (.ok .non, h.set n (.lst (xs ++ [x]))) := by
  simp only [mbD, e, hl, if_true]
theorem mb_extend (e : h[n]? = some (.lst xs)) (hl : xs.length + ys.length ≤ szL) : mbD .extend (.loc n) [.lst ys] h = some (.ok .non, h.set n (.lst (xs ++ ys))) := by
  simp only [mbD, e, hl, if_true]
theorem mb_pop (e : h[n]? = some (.lst xs)) (hl : xs.getLast? = some y) : mbD .pop (.loc n) [] h = some (.ok y, h.set n (.lst xs.dropLast)) := by
  simp only [mbD, e, hl]
/-! ### the heap -/
theorem get_lt {c : Cell} (e : h[n]? = some c) : n < h.length := by
  cases Nat.lt_or_ge n h.length with
  | inl z => exact z
  | inr z => rw [List.getElem?_eq_none z] at e; cases e
theorem get_lt' {α : Type} {l : List α} {n : Nat} {c : α} (e : l[n]? = some c) : n < l.length := by
  cases Nat.lt_or_ge n l.length with
  | inl z => exact z
  | inr z => rw [List.getElem?_eq_none z] at e; cases e
@[simp] theorem set_at {c : Cell} : (h.set n c)[n]? = (h[n]?).map fun _ => c := by
  by_cases e : n < h.length
  · rw [List.getElem?_set_self e, List.getElem?_eq_getElem e]; rfl
  · rw [List.getElem?_eq_none (by rw [List.length_set]; omega), List.getElem?_eq_none (by omega)]; rfl
theorem set_off {m : Nat} {c : Cell} (e : n ≠ m) : (h.set n c)[m]? = h[m]? := List.getElem?_set_ne e
@[simp] theorem push_at {c : Cell} : (h ++ [c])[h.length]? = some c := by simp
theorem push_off {c e : Cell} (g : h[n]? = some e) : (h ++ [c])[n]? = some e := by
  rw [List.getElem?_append_left (get_lt g)]; exact g
theorem set_same {c e : Cell} : (h.set n c).set n e = h.set n e := List.set_set ..
end
section
@[simp] theorem eqables_iD {t : List Nat} : eqables (t.map iD) = true := by
  induction t with
  | nil => rfl
  | cons a t ih => simp [eqables, eqable, ih]
@[simp] theorem deps_iD {t : List Nat} : deps (t.map iD) = 0 := by
  induction t with
  | nil => rfl
  | cons a t ih => simp [deps, dep, ih]
@[simp] theorem eqable_tD {t : List Nat} : eqable (tD t) = true := by
  show eqable (.tup _) = true
  rw [eqable]; exact eqables_iD
@[simp] theorem dep_tD {t : List Nat} : dep (tD t) = 1 := by
  show dep (.tup _) = 1
  rw [dep, deps_iD]
theorem deqs_iD : ∀ {t u : List Nat}, deqs (t.map iD) (u.map iD) = (t == u)
  | [], [] => rfl
  | [], b :: u => rfl
  | a :: t, [] => rfl
  | a :: t, b :: u => by
    have ih := deqs_iD (t := t) (u := u)
    simp only [List.map_cons, deqs, deq, ih]
    by_cases e : a = b
    · subst e; simp
    · have e1 : ¬ (a : Int) = (b : Int) := by omega
      simp [e, beq_eq_false_iff_ne.mpr e1, beq_eq_false_iff_ne.mpr e]
@[simp] theorem deq_tD {t u : List Nat} : deq (tD t) (tD u) = (t == u) := by
  show deq (.tup _) (.tup _) = _
  rw [deq, deqs_iD]
@[simp] theorem eqD_tD {t u : List Nat} : eqD (tD t) (tD u) = some (t == u) := by
  rw [eqD_of (by simp) (by simp) (by simp) (by simp), deq_tD]
theorem inD_iD {i : Nat} {t : List Nat} : inD (iD i) (t.map iD) = some (t.contains i) := by
  unfold inD
  rw [deps_iD, eqables_iD]
  simp only [eqable, dep]
  have key : ∀ t : List Nat, (t.map iD).any (fun y => deq y (iD i)) = t.contains i := by
    intro t
    induction t with
    | nil => rfl
    | cons a t ih =>
      rw [List.map_cons, List.any_cons, ih, List.contains_cons, deq]
      congr 1
      by_cases e : a = i
      · subst e; simp
      · have e2 : ¬ i = a := fun z => e z.symm
        have e1 : ¬ (a : Int) = (i : Int) := by omega
        rw [beq_eq_false_iff_ne.mpr e1, beq_eq_false_iff_ne.mpr e2]
  rw [key]; rfl
end
end Ev.Pl

set_option linter.all false
set_option maxRecDepth 100000
namespace Ev.Pl
/-! ### tables: what the kernel reckons -/
mutual
def sameD : D → D → Bool
  | .non, .non => true
  | .bl a, .bl b => a == b
  | .int i, .int j => i == j
  | .str x, .str y => x == y
  | .tup xs, .tup ys => sameDs xs ys
  | .lst xs, .lst ys => sameDs xs ys
  | _, _ => false
def sameDs : List D → List D → Bool
  | [], [] => true
  | x :: xs, y :: ys => sameD x y && sameDs xs ys
  | _, _ => false
end
mutual
theorem sameD_eq : ∀ (x y : D), sameD x y = true → x = y
  | .non, y, h => by cases y <;> first | rfl | (simp [sameD] at h)
  | .bl a, y, h => by cases y <;> simp [sameD] at h; rw [h]
  | .int a, y, h => by cases y <;> simp [sameD] at h; rw [h]
  | .str a, y, h => by cases y <;> simp [sameD] at h; rw [h]
  | .tup xs, y, h => by
    cases y <;> simp [sameD] at h
    rw [sameDs_eq xs _ h]
  | .lst xs, y, h => by
    cases y <;> simp [sameD] at h
    rw [sameDs_eq xs _ h]
  | .wtp xs, y, h => by cases y <;> simp [sameD] at h
  | .ro xs, y, h => by cases y <;> simp [sameD] at h
  | .loc n, y, h => by cases y <;> simp [sameD] at h
theorem sameDs_eq : ∀ (xs ys : List D), sameDs xs ys = true → xs = ys
  | [], ys, h => by cases ys <;> first | rfl | (simp [sameDs] at h)
  | x :: xs, ys, h => by
    cases ys with
    | nil => simp [sameDs] at h
    | cons y ys =>
      simp only [sameDs, Bool.and_eq_true] at h
      rw [sameD_eq x y h.1, sameDs_eq xs ys h.2]
end
def isOk (d : D) : Option (Rr D × Hd) → Bool
  | some (.ok e, _) => sameD e d
  | _ => false
theorem isOk_eq {d : D} {r : Option (Rr D × Hd)} (h : isOk d r = true) : ∃ h', r = some (.ok d, h') := by
  cases r with
  | none => simp [isOk] at h
  | some q =>
    obtain ⟨q, h'⟩ := q
    cases q with
    | ex c pl => simp [isOk] at h
    | ok e => exact ⟨h', by rw [sameD_eq e d h]⟩
theorem callN_any {B : Tab} {n f : Nat} {F : Fe} {vs : List D} {r : Rr D} {h0 h1 : Hd} (hF : B.fns[f]? = some F) (hp : F.pu = true) (e : callN B n f vs h0 = some (r, h1)) (h : Hd) : callN B n f vs h = some (r, h) := by
  cases n with
  | zero => cases e
  | succ n =>
    unfold callN at e ⊢
    simp only [hF, hp, if_true] at e ⊢
    by_cases hl : vs.length = F.np
    · rw [if_pos hl] at e ⊢
      by_cases hpd : pureDs vs = true
      · rw [if_pos hpd] at e ⊢
        cases e1 : outR (exSs ⟨callN B n, fun k => B.glb[k]?, B.sub, B.flds, B.exf, B.told, B.dct, B.wl⟩ F.body (start F.ns vs) []) with
        | none => rw [e1] at e; cases e
        | some q =>
          rw [e1] at e
          obtain ⟨q, h2⟩ := q
          cases q with
          | ok d =>
            simp only at e ⊢
            by_cases hd : pureD d = true
            · rw [if_pos hd] at e ⊢; cases e; rfl
            · rw [if_neg hd] at e; cases e
          | ex c pl =>
            simp only at e ⊢
            by_cases hd : plPure pl = true
            · rw [if_pos hd] at e ⊢; cases e; rfl
            · rw [if_neg hd] at e; cases e
      · rw [if_neg hpd] at e; cases e
    · rw [if_neg hl] at e; cases e
/-- a def's answer, reckoned once -/
theorem tab_ok {B : Tab} {n f : Nat} {F : Fe} {vs : List D} {d : D} (hF : B.fns[f]? = some F) (hp : F.pu = true) (e : isOk d (callN B n f vs []) = true) (m : Nat) (h : Hd) : callN B (m + n) f vs h = some (.ok d, h) := by
  obtain ⟨h', e1⟩ := isOk_eq e
  exact callN_any hF hp (callN_le e1 m) h
/-! ### turns -/
/-- all turns, ascending -/
def growL (s : Nat) (found : List (List Nat)) : List (List Nat) := found.flatMap fun some => ((List.range s).filter fun i => !some.contains i).map fun i => some ++ [i]
def turnsN (s : Nat) : Nat → List (List Nat)
  | 0 => [[]]
  | n + 1 => growL s (turnsN s n)
def turnsL (s : Nat) : List (List Nat) := turnsN s s
def thenL (t u : List Nat) : List Nat := t.map fun i => u.getD i 0
def backL (t : List Nat) : List Nat := (List.range t.length).map fun i => t.idxOf i
def stayL (s : Nat) : List Nat := List.range s
def swapL (s i j : Nat) : List Nat := ((List.range s).set i j).set j i
/-- a turn of s seats -/
structure Vt (s : Nat) (t : List Nat) : Prop where
  len : t.length = s
  lt : ∀ i ∈ t, i < s
  sur : ∀ i, i < s → i ∈ t
  nd : t.Nodup
def vtB (s : Nat) (t : List Nat) : Bool := decide (t.length = s) && t.all (fun i => decide (i < s)) && (List.range s).all (fun i => t.contains i) && decide t.Nodup
theorem vtB_ok {s : Nat} {t : List Nat} (h : vtB s t = true) : Vt s t := by
  simp only [vtB, Bool.and_eq_true, decide_eq_true_eq, List.all_eq_true, List.mem_range, List.contains_iff_mem] at h
  exact ⟨h.1.1.1, fun i hi => h.1.1.2 i hi, fun i hi => by simpa using h.1.2 i hi, h.2⟩
theorem vt_turns {s : Nat} (h : s ∈ [2, 3, 4, 5]) : ∀ t ∈ turnsL s, Vt s t := by
  have key : ([2, 3, 4, 5].all fun s => (turnsL s).all (vtB s)) = true := by decide +kernel
  exact fun t ht => vtB_ok (List.all_eq_true.mp (List.all_eq_true.mp key s h) t ht)
theorem mem_turnsN {s : Nat} {t : List Nat} (h : Vt s t) : ∀ k, k ≤ s → t.take k ∈ turnsN s k
  | 0, _ => by simp [turnsN]
  | k + 1, hk => by
    have ih := mem_turnsN h k (by omega)
    have hl : k < t.length := by rw [h.len]; omega
    show t.take (k + 1) ∈ growL s (turnsN s k)
    refine List.mem_flatMap.mpr ⟨t.take k, ih, List.mem_map.mpr ⟨t[k], List.mem_filter.mpr ⟨List.mem_range.mpr (h.lt _ (List.getElem_mem hl)), ?_⟩, ?_⟩⟩
    · have hn : t[k] ∉ t.take k := fun hm => by
        obtain ⟨j, hj, e⟩ := List.mem_iff_getElem.mp hm
        rw [List.getElem_take] at e
        have hj2 : j < k := by rw [List.length_take] at hj; omega
        have := (List.getElem_inj h.nd).mp e
        omega
      simpa using hn
    · rw [List.take_succ_eq_append_getElem hl]
theorem mem_turns {s : Nat} {t : List Nat} (h : Vt s t) : t ∈ turnsL s := by
  have := mem_turnsN h s (Nat.le_refl _)
  rw [List.take_of_length_le (by rw [h.len]; exact Nat.le_refl _)] at this
  exact this
theorem vt_stay (s : Nat) : Vt s (stayL s) := ⟨by simp [stayL], fun i hi => by simpa [stayL] using hi, fun i hi => by simpa [stayL] using hi, List.nodup_range⟩
theorem getD_mem {u : List Nat} {i : Nat} (h : i < u.length) : u.getD i 0 ∈ u := by
  rw [List.getD_eq_getElem?_getD, List.getElem?_eq_getElem h]
  exact List.getElem_mem h
theorem nodup_map {f : Nat → Nat} : ∀ {l : List Nat}, l.Nodup → (∀ a ∈ l, ∀ b ∈ l, f a = f b → a = b) → (l.map f).Nodup
  | [], _, _ => List.nodup_nil
  | x :: l, h, hf => by
    rw [List.nodup_cons] at h
    rw [List.map_cons, List.nodup_cons]
    refine ⟨fun hm => ?_, nodup_map h.2 fun a ha b hb => hf a (List.mem_cons_of_mem _ ha) b (List.mem_cons_of_mem _ hb)⟩
    obtain ⟨y, hy, e⟩ := List.mem_map.mp hm
    have := hf y (List.mem_cons_of_mem _ hy) x (List.mem_cons_self ..) e
    subst this
    exact h.1 hy
theorem getD_inj {u : List Nat} (h : u.Nodup) {a b : Nat} (ha : a < u.length) (hb : b < u.length) (e : u.getD a 0 = u.getD b 0) : a = b := by
  rw [List.getD_eq_getElem?_getD, List.getD_eq_getElem?_getD, List.getElem?_eq_getElem ha, List.getElem?_eq_getElem hb] at e
  exact (List.getElem_inj h).mp e
theorem vt_then {s : Nat} {t u : List Nat} (ht : Vt s t) (hu : Vt s u) : Vt s (thenL t u) := by
  refine ⟨by simp [thenL, ht.len], fun i hi => ?_, fun i hi => ?_, ?_⟩
  · obtain ⟨j, hj, rfl⟩ := List.mem_map.mp hi
    exact hu.lt _ (getD_mem (by rw [hu.len]; exact ht.lt j hj))
  · have := hu.sur i hi
    obtain ⟨j, hj, e⟩ := List.mem_iff_getElem.mp this
    refine List.mem_map.mpr ⟨j, ht.sur j (by rw [← hu.len]; exact hj), ?_⟩
    rw [List.getD_eq_getElem?_getD, List.getElem?_eq_getElem hj]
    exact e
  · exact nodup_map ht.nd fun a ha b hb e => getD_inj hu.nd (by rw [hu.len]; exact ht.lt a ha) (by rw [hu.len]; exact ht.lt b hb) e
theorem vt_back {s : Nat} {t : List Nat} (ht : Vt s t) : Vt s (backL t) := by
  refine ⟨by simp [backL, ht.len], fun i hi => ?_, fun i hi => ?_, ?_⟩
  · obtain ⟨j, hj, rfl⟩ := List.mem_map.mp hi
    rw [List.mem_range, ht.len] at hj
    have := List.idxOf_lt_length_iff.mpr (ht.sur j hj)
    rw [ht.len] at this
    exact this
  · have hl : i < t.length := by rw [ht.len]; exact hi
    refine List.mem_map.mpr ⟨t[i], List.mem_range.mpr (by rw [ht.len]; exact ht.lt _ (List.getElem_mem hl)), ?_⟩
    exact ht.nd.idxOf_getElem i hl
  · refine nodup_map List.nodup_range fun a ha b hb e => ?_
    rw [List.mem_range, ht.len] at ha hb
    have h1 := List.idxOf_lt_length_iff.mpr (ht.sur a ha)
    have h2 := List.idxOf_lt_length_iff.mpr (ht.sur b hb)
    have e1 : t[t.idxOf a] = a := List.getElem_idxOf h1
    have e2 : t[t.idxOf b] = b := List.getElem_idxOf h2
    rw [← e1, ← e2]
    simp only [e]
theorem vt_swap {s i j : Nat} (hs : s ∈ [2, 3, 4, 5]) (hi : i < s) (hj : j < s) (hn : i ≠ j) : Vt s (swapL s i j) := by
  have key : ([2, 3, 4, 5].all fun s => (List.range s).all fun i => (List.range s).all fun j => decide (i = j) || vtB s (swapL s i j)) = true := by decide +kernel
  have h1 := List.all_eq_true.mp (List.all_eq_true.mp (List.all_eq_true.mp key s hs) i (List.mem_range.mpr hi)) j (List.mem_range.mpr hj)
  simp only [Bool.or_eq_true, decide_eq_true_eq] at h1
  rcases h1 with h1 | h1
  · exact absurd h1 hn
  · exact vtB_ok h1
/-! ### ranges -/
@[simp] theorem rngD_nat {n : Nat} (h : n < 4000000) : rngD [iD n] = some ((List.range n).map iD) := by
  unfold rngD
  have h1 : (-4611686018427387904 : Int) ≤ (n : Int) := by omega
  have h2 : (n : Int) < 4611686018427387904 := by omega
  simp [h1, h2]
@[simp] theorem rngL_nat {n : Nat} (h : n < 1000000) : rngL [iD n] = some ((List.range n).map iD) := by
  unfold rngL
  have h1 : (-1000000 : Int) ≤ (n : Int) := by omega
  have h2 : (n : Int) ≤ 1000000 := by omega
  simp [h1, h2]
theorem allI_iD : ∀ {t : List Nat}, allI (t.map iD) = some (t.map fun (i : Nat) => (i : Int))
  | [] => rfl
  | a :: t => by simp only [List.map_cons, allI, allI_iD (t := t)]
theorem allI_int : ∀ {t : List Int}, allI (t.map .int) = some t
  | [] => rfl
  | a :: t => by simp only [List.map_cons, allI, allI_int (t := t)]
theorem idx_cast : ∀ {t : List Nat} {i : Nat}, (t.map fun (i : Nat) => (i : Int)).idxOf (i : Int) = t.idxOf i
  | [], i => rfl
  | a :: t, i => by
    rw [List.map_cons, List.idxOf_cons, List.idxOf_cons, idx_cast (t := t)]
    by_cases e : a = i
    · subst e; simp
    · have : ¬ (a : Int) = (i : Int) := by omega
      rw [beq_eq_false_iff_ne.mpr e, beq_eq_false_iff_ne.mpr this]
theorem mem_cast {t : List Nat} {i : Nat} : (t.map fun (i : Nat) => (i : Int)).contains (i : Int) = t.contains i := by
  induction t with
  | nil => rfl
  | cons a t ih =>
    rw [List.map_cons, List.contains_cons, List.contains_cons, ih]
    by_cases e : i = a
    · subst e; simp
    · have : ¬ (i : Int) = (a : Int) := by omega
      rw [beq_eq_false_iff_ne.mpr e, beq_eq_false_iff_ne.mpr this]
theorem mb_index {h : Hd} {t : List Nat} {i : Nat} (e : i ∈ t) : mbD .index (tD t) [iD i] h = some (.ok (iD (t.idxOf i)), h) := by
  show (match allI (t.map iD) with
    | some ns => if ns.contains (i : Int) then some (Rr.ok (D.int (ns.idxOf (i : Int) : Nat)), h) else none
    | none => none) = _
  rw [allI_iD]
  simp only [mem_cast, idx_cast, List.contains_iff_mem, e, if_true]
end Ev.Pl
namespace Ev.Pl
theorem le_szL {n : Nat} (h : n < 1000000) : n ≤ szL := Nat.le_trans (Nat.le_of_lt h) (by decide)
theorem lt_szL {n : Nat} (h : n < 1000000) : n < szL := Nat.lt_of_lt_of_le h (by decide)
end Ev.Pl
namespace Ev.Pl
/-! ### rings -/
def ringGo (t : List Nat) (start : Nat) : Nat → Nat → List Nat
  | 0, _ => []
  | f + 1, here => here :: (if t.getD here 0 = start then [] else ringGo t start f (t.getD here 0))
def ringsL (t : List Nat) : List (List Nat) := ((List.range t.length).map fun i => ringGo t i t.length i).filter fun r => r.all fun i => decide (r.headD 0 ≤ i)
def rsD (rs : List (List Nat)) : D := .tup (rs.map tD)
def smallR (rs : List (List Nat)) : Bool := decide (rs.length ≤ 5) && rs.all fun r => decide (0 < r.length) && decide (r.length ≤ 5) && r.all fun i => decide (i < 5)
theorem small_rings {s : Nat} {t : List Nat} (hs : s ∈ [2, 3, 4, 5]) (ht : Vt s t) : smallR (ringsL t) = true := by
  have key : ([2, 3, 4, 5].all fun s => (turnsL s).all fun t => smallR (ringsL t)) = true := by decide +kernel
  exact List.all_eq_true.mp (List.all_eq_true.mp key s hs) t (mem_turns ht)
@[simp] theorem pure_rsD {rs : List (List Nat)} : pureD (rsD rs) = true := by
  show pureDs (rs.map tD) = true
  induction rs with
  | nil => rfl
  | cons r rs ih => simp [pureDs, ih]
end Ev.Pl
namespace Ev.Pl
/-! ### equal to itself -/
mutual
theorem deq_refl : ∀ x : D, eqable x = true → deq x x = true
  | .non, _ => by rw [deq]
  | .bl b, _ => by rw [deq]; simp
  | .int i, _ => by rw [deq]; simp
  | .str s, _ => by rw [deq]; simp
  | .tup xs, h => by rw [deq]; rw [eqable] at h; exact deqs_refl xs h
  | .lst xs, h => by rw [deq]; rw [eqable] at h; exact deqs_refl xs h
  | .wtp xs, h => by simp [eqable] at h
  | .ro xs, h => by simp [eqable] at h
  | .loc n, h => by simp [eqable] at h
theorem deqs_refl : ∀ xs : List D, eqables xs = true → deqs xs xs = true
  | [], _ => by rw [deqs]
  | x :: xs, h => by
    rw [eqables, Bool.and_eq_true] at h
    rw [deqs, deq_refl x h.1, deqs_refl xs h.2]; rfl
end
theorem eqD_self {x : D} (h1 : eqable x = true) (h2 : dep x ≤ 60) : eqD x x = some true := by rw [eqD_of h1 h1 h2 h2, deq_refl x h1]
end Ev.Pl
namespace Ev.Pl
/-! ### tables in parts (a kernel that reckons too much at once wants too much room) -/
theorem all_cut {α : Type} {p : α → Bool} {l : List α} (k : Nat) (h1 : (l.take k).all p = true) (h2 : (l.drop k).all p = true) : l.all p = true := by
  rw [← List.take_append_drop k l, List.all_append, h1, h2]; rfl
theorem all_cut4 {α : Type} {p : α → Bool} {l : List α} (k : Nat) (h1 : (l.take k).all p = true) (h2 : ((l.drop k).take k).all p = true) (h3 : ((l.drop (k + k)).take k).all p = true) (h4 : (l.drop (k + k + k)).all p = true) : l.all p = true :=
  all_cut k h1 (all_cut k h2 (by rw [List.drop_drop]; exact all_cut k h3 (by rw [List.drop_drop]; exact h4)))
theorem four {p : List Nat → Bool} (h0 : ([2, 3, 4].all fun s => (turnsL s).all p) = true) (h1 : ((turnsL 5).take 30).all p = true) (h2 : (((turnsL 5).drop 30).take 30).all p = true) (h3 : (((turnsL 5).drop (30 + 30)).take 30).all p = true) (h4 : ((turnsL 5).drop (30 + 30 + 30)).all p = true) : ([2, 3, 4, 5].all fun s => (turnsL s).all p) = true := by
  have h5 := all_cut4 30 h1 h2 h3 h4
  refine List.all_eq_true.mpr fun s hs => ?_
  rcases List.mem_cons.mp hs with rfl | hs
  · exact List.all_eq_true.mp h0 2 (by simp)
  rcases List.mem_cons.mp hs with rfl | hs
  · exact List.all_eq_true.mp h0 3 (by simp)
  rcases List.mem_cons.mp hs with rfl | hs
  · exact List.all_eq_true.mp h0 4 (by simp)
  rcases List.mem_cons.mp hs with rfl | hs
  · exact h5
  · cases hs
end Ev.Pl

set_option Elab.async false
set_option linter.all false
set_option maxRecDepth 100000
set_option maxHeartbeats 4000000
namespace Ev
abbrev f_wall : Nat := 0
abbrev f_is_whole : Nat := 1
abbrev f_is_between : Nat := 2
abbrev f_is_string : Nat := 3
abbrev f_is_made_of : Nat := 4
abbrev f_is_tuple_of : Nat := 5
abbrev f_words_of : Nat := 6
abbrev f_number_in : Nat := 7
abbrev f_numbers_in : Nat := 8
abbrev f_is_seats : Nat := 9
abbrev f_check_seats : Nat := 10
abbrev f_is_seat : Nat := 11
abbrev f_is_turn : Nat := 12
abbrev f_check_turn : Nat := 13
abbrev f_check_turned : Nat := 14
abbrev f_stay_of : Nat := 15
abbrev f_then_by : Nat := 16
abbrev f_back_by : Nat := 17
abbrev f_power_by : Nat := 18
abbrev f_exchange_of : Nat := 19
abbrev f_ring_at : Nat := 20
abbrev f_rings_by : Nat := 21
abbrev f_kind_by : Nat := 22
abbrev f_sign_by : Nat := 23
abbrev f_round_by : Nat := 24
abbrev f_fewest_by : Nat := 25
abbrev f_kind_of : Nat := 26
abbrev f_sign : Nat := 27
abbrev f_round_of : Nat := 28
abbrev f_fewest_exchanges : Nat := 29
abbrev f_has_form : Nat := 30
abbrev f_check_exchange : Nat := 31
abbrev f_check_deed : Nat := 32
abbrev f_reason_against : Nat := 33
abbrev f_turn_behind : Nat := 34
abbrev f_check_bench : Nat := 35
abbrev f_copy_of : Nat := 36
abbrev f_row_of : Nat := 37
abbrev f_ring_in : Nat := 38
abbrev f_turn_of_rings : Nat := 39
abbrev f_turn_in : Nat := 40
abbrev f_turn_text : Nat := 41
abbrev f_said_of_deed : Nat := 42
abbrev f_said_of_undo : Nat := 43
abbrev f_said_of_word : Nat := 44
abbrev f_said_of_number : Nat := 45
abbrev f_law_pool : Nat := 46
abbrev f_law_take : Nat := 47
abbrev f_law_of : Nat := 48
abbrev f_law_turns : Nat := 49
abbrev f_law_rings : Nat := 50
abbrev f_law_deed : Nat := 51
abbrev f_law_text : Nat := 52
abbrev f_law_said : Nat := 53
abbrev f_law_shown : Nat := 54
abbrev f_law_right : Nat := 55
abbrev f_law : Nat := 56
abbrev f_Bench_init__ : Nat := 57
abbrev f_Bench_do : Nat := 58
abbrev f_Bench_undo : Nat := 59
abbrev f_Bench_rings : Nat := 60
abbrev f_Bench_is_stay : Nat := 61
abbrev f_Bench_eq__ : Nat := 62
abbrev f_Console_init__ : Nat := 63
abbrev f_Console_say : Nat := 64
abbrev c_TurnError : Nat := 0
abbrev c_InvalidNumber : Nat := 1
abbrev c_InvalidTurn : Nat := 2
abbrev c_InvalidLine : Nat := 3
abbrev c_NotABench : Nat := 4
abbrev c_InvalidDeed : Nat := 5
abbrev c_Barred : Nat := 6
abbrev c_NothingToUndo : Nat := 7
abbrev c_Bench : Nat := 8
abbrev c_Console : Nat := 9
/-- None._wall ['k'] -/
def u_wall_1 : T := (.val (.cst (.bl true)))
def w_wall_1 : Ss := (.cons .pass
 .nil)
def b_wall : Ss := (.cons (.whl u_wall_1
 w_wall_1)
 .nil)
/-- None.is_whole ['value'] -/
def b_is_whole : Ss := (.cons (.ret (.and (.cons (.isi (.var 0) .int) (.cons (.nt (.isi (.var 0) .bool)) .nil))))
 .nil)
/-- None.is_between ['value', 'least', 'most'] -/
def b_is_between : Ss := (.cons (.ret (.and (.cons (.call f_is_whole (.cons (.var 0) .nil)) (.cons (.chn .le .le (.var 1) (.var 0) (.var 2)) .nil))))
 .nil)
/-- None.is_string ['value'] -/
def b_is_string : Ss := (.cons (.ret (.isi (.var 0) .str))
 .nil)
/-- None.is_made_of ['text', 'signs', 'sign'] -/
def e_is_made_of_1 : X := (.cmp .isin (.var 2) (.var 1))
def b_is_made_of : Ss := (.cons (.ret (.and (.cons (.cmp .ne (.var 0) (.cst (.str []))) (.cons (.cb .all (.cons (.lc [2] (.nm 2) (.seq (.var 0)) .tt e_is_made_of_1) .nil)) .nil))))
 .nil)
/-- None.is_tuple_of ['value', 'many'] -/
def b_is_tuple_of : Ss := (.cons (.ret (.and (.cons (.isi (.var 0) .tuple) (.cons (.cmp .eq (.cb .len (.cons (.var 0) .nil)) (.var 1)) .nil))))
 .nil)
/-- None.words_of ['line', 'words'] -/
def b_words_of : Ss := (.cons (.asg (.nm 1) (.mb .split (.var 0) (.cons (.cst (.str [32])) .nil)))
 (.cons (.ret (.ite (.val (.cmp .isin (.cst (.str [])) (.var 1))) (.cst .non) (.var 1)))
 .nil))
/-- None.number_in ['word', 'found', 'sign'] -/
def l_number_in_1 : Ss := (.cons (.asg (.nm 1) (.bin .add (.bin .mul (.cst (.int (10))) (.var 1)) (.mb .sindex (.glb 0) (.cons (.var 2) .nil))))
 .nil)
def b_number_in : Ss := (.cons (.ifs (.or (.cons (.nt (.val (.call f_is_made_of (.cons (.var 0) (.cons (.glb 0) .nil))))) (.cons (.and (.cons (.val (.cmp .gt (.cb .len (.cons (.var 0) .nil)) (.cst (.int (1))))) (.cons (.val (.cmp .eq (.sub (.var 0) (.cst (.int (0)))) (.cst (.str [48])))) .nil))) .nil)))
 (.cons (.ret (.cst .non))
 .nil)
 .nil)
 (.cons (.asg (.nm 1) (.cst (.int (0))))
 (.cons (.for_ (.nm 2) (.seq (.var 0))
 l_number_in_1)
 (.cons (.ret (.var 1))
 .nil))))
/-- None.numbers_in ['words', 'found', 'word'] -/
def e_numbers_in_1 : X := (.call f_number_in (.cons (.var 2) .nil))
def b_numbers_in : Ss := (.cons (.asg (.nm 1) (.cb .tuple (.cons (.lc [2] (.nm 2) (.seq (.var 0)) .tt e_numbers_in_1) .nil)))
 (.cons (.ret (.ite (.val (.cmp .isin (.cst .non) (.var 1))) (.cst .non) (.var 1)))
 .nil))
/-- None.is_seats ['value'] -/
def b_is_seats : Ss := (.cons (.ret (.call f_is_between (.cons (.var 0) (.cons (.glb 1) (.cons (.glb 2) .nil)))))
 .nil)
/-- None.check_seats ['seats'] -/
def b_check_seats : Ss := (.cons (.ifs (.nt (.val (.call f_is_seats (.cons (.var 0) .nil))))
 (.cons (.raise c_InvalidNumber (.cons (.var 0) .nil))
 .nil)
 .nil)
 .nil)
/-- None.is_seat ['seats', 'value'] -/
def b_is_seat : Ss := (.cons (.ret (.call f_is_between (.cons (.var 1) (.cons (.cst (.int (0))) (.cons (.bin .sub (.var 0) (.cst (.int (1)))) .nil)))))
 .nil)
/-- None.is_turn ['seats', 'value', 'own'] -/
def e_is_turn_1 : X := (.call f_is_seat (.cons (.var 0) (.cons (.var 2) .nil)))
def b_is_turn : Ss := (.cons (.ifs (.or (.cons (.nt (.val (.call f_is_tuple_of (.cons (.var 1) (.cons (.var 0) .nil))))) (.cons (.nt (.val (.cb .all (.cons (.lc [2] (.nm 2) (.seq (.var 1)) .tt e_is_turn_1) .nil)))) .nil)))
 (.cons (.ret (.cst (.bl false)))
 .nil)
 .nil)
 (.cons (.ret (.cmp .eq (.lset (.var 1)) (.var 0)))
 .nil))
/-- None.check_turn ['seats', 'value'] -/
def b_check_turn : Ss := (.cons (.ifs (.nt (.val (.call f_is_turn (.cons (.var 0) (.cons (.var 1) .nil)))))
 (.cons (.raise c_InvalidTurn (.cons (.var 1) .nil))
 .nil)
 .nil)
 .nil)
/-- None.check_turned ['seats', 'turn'] -/
def b_check_turned : Ss := (.cons (.expr (.call f_check_seats (.cons (.var 0) .nil)))
 (.cons (.expr (.call f_check_turn (.cons (.var 0) (.cons (.var 1) .nil))))
 .nil))
/-- None.stay_of ['seats', 'seat'] -/
def e_stay_of_1 : X := (.var 1)
def b_stay_of : Ss := (.cons (.ret (.cb .tuple (.cons (.lc [1] (.nm 1) (.rng (.cons (.var 0) .nil)) .tt e_stay_of_1) .nil)))
 .nil)
/-- None.then_by ['turn', 'second', 'own'] -/
def e_then_by_1 : X := (.sub (.var 1) (.var 2))
def b_then_by : Ss := (.cons (.ret (.cb .tuple (.cons (.lc [2] (.nm 2) (.seq (.var 0)) .tt e_then_by_1) .nil)))
 .nil)
/-- None.back_by ['turn', 'seat'] -/
def e_back_by_1 : X := (.mb .index (.var 0) (.cons (.var 1) .nil))
def b_back_by : Ss := (.cons (.ret (.cb .tuple (.cons (.lc [1] (.nm 1) (.rng (.cons (.cb .len (.cons (.var 0) .nil)) .nil)) .tt e_back_by_1) .nil)))
 .nil)
/-- None.power_by ['turn', 'times', 'found', 'lap'] -/
def l_power_by_1 : Ss := (.cons (.asg (.nm 2) (.call f_then_by (.cons (.var 2) (.cons (.var 0) .nil))))
 .nil)
def b_power_by : Ss := (.cons (.asg (.nm 2) (.call f_stay_of (.cons (.cb .len (.cons (.var 0) .nil)) .nil)))
 (.cons (.for_ (.nm 3) (.rng (.cons (.var 1) .nil))
 l_power_by_1)
 (.cons (.ret (.var 2))
 .nil)))
/-- None.exchange_of ['seats', 'one', 'other', 'found'] -/
def b_exchange_of : Ss := (.cons (.asg (.nm 3) (.olist (.call f_stay_of (.cons (.var 0) .nil))))
 (.cons (.asg (.tp (.cons (.sb (.var 3) (.var 1)) (.cons (.sb (.var 3) (.var 2)) .nil))) (.tup (.cons (.var 2) (.cons (.var 1) .nil))))
 (.cons (.ret (.cb .tuple (.cons (.var 3) .nil)))
 .nil)))
/-- None.ring_at ['turn', 'seat', 'found'] -/
def u_ring_at_1 : T := (.val (.cmp .ne (.sub (.var 0) (.sub (.var 2) (.neg (.cst (.int (1)))))) (.var 1)))
def w_ring_at_1 : Ss := (.cons (.asg (.nm 2) (.tup (.star (.var 2) (.cons (.sub (.var 0) (.sub (.var 2) (.neg (.cst (.int (1)))))) .nil))))
 .nil)
def b_ring_at : Ss := (.cons (.asg (.nm 2) (.tup (.cons (.var 1) .nil)))
 (.cons (.whl u_ring_at_1
 w_ring_at_1)
 (.cons (.ret (.var 2))
 .nil)))
/-- None.rings_by ['turn', 'told', 'seat', 'ring'] -/
def e_rings_by_1 : X := (.call f_ring_at (.cons (.var 0) (.cons (.var 2) .nil)))
def t_rings_by_1 : T := (.val (.cmp .eq (.sub (.var 3) (.cst (.int (0)))) (.cb .min (.cons (.var 3) .nil))))
def e_rings_by_2 : X := (.var 3)
def b_rings_by : Ss := (.cons (.asg (.nm 1) (.lc [2] (.nm 2) (.rng (.cons (.cb .len (.cons (.var 0) .nil)) .nil)) .tt e_rings_by_1))
 (.cons (.ret (.cb .tuple (.cons (.lc [3] (.nm 3) (.seq (.var 1)) t_rings_by_1 e_rings_by_2) .nil)))
 .nil))
/-- None.kind_by ['turn', 'ring'] -/
def e_kind_by_1 : X := (.cb .len (.cons (.var 1) .nil))
def b_kind_by : Ss := (.cons (.ret (.cb .tuple (.cons (.srtR (.lc [1] (.nm 1) (.seq (.call f_rings_by (.cons (.var 0) .nil))) .tt e_kind_by_1)) .nil)))
 .nil)
/-- None.sign_by ['turn'] -/
def b_sign_by : Ss := (.cons (.ret (.ite (.val (.cmp .eq (.bin .mod (.bin .sub (.cb .len (.cons (.var 0) .nil)) (.cb .len (.cons (.call f_rings_by (.cons (.var 0) .nil)) .nil))) (.cst (.int (2)))) (.cst (.int (0))))) (.cst (.int (1))) (.neg (.cst (.int (1))))))
 .nil)
/-- None.round_by ['turn', 'times'] -/
def u_round_by_1 : T := (.val (.cmp .ne (.call f_power_by (.cons (.var 0) (.cons (.var 1) .nil))) (.call f_stay_of (.cons (.cb .len (.cons (.var 0) .nil)) .nil))))
def w_round_by_1 : Ss := (.cons (.asg (.nm 1) (.bin .add (.var 1) (.cst (.int (1)))))
 .nil)
def b_round_by : Ss := (.cons (.asg (.nm 1) (.cst (.int (1))))
 (.cons (.whl u_round_by_1
 w_round_by_1)
 (.cons (.ret (.var 1))
 .nil)))
/-- None.fewest_by ['turn'] -/
def b_fewest_by : Ss := (.cons (.ret (.bin .sub (.cb .len (.cons (.var 0) .nil)) (.cb .len (.cons (.call f_rings_by (.cons (.var 0) .nil)) .nil))))
 .nil)
/-- None.kind_of ['seats', 'turn'] -/
def b_kind_of : Ss := (.cons (.expr (.call f_check_turned (.cons (.var 0) (.cons (.var 1) .nil))))
 (.cons (.ret (.call f_kind_by (.cons (.var 1) .nil)))
 .nil))
/-- None.sign ['seats', 'turn'] -/
def b_sign : Ss := (.cons (.expr (.call f_check_turned (.cons (.var 0) (.cons (.var 1) .nil))))
 (.cons (.ret (.call f_sign_by (.cons (.var 1) .nil)))
 .nil))
/-- None.round_of ['seats', 'turn'] -/
def b_round_of : Ss := (.cons (.expr (.call f_check_turned (.cons (.var 0) (.cons (.var 1) .nil))))
 (.cons (.ret (.call f_round_by (.cons (.var 1) .nil)))
 .nil))
/-- None.fewest_exchanges ['seats', 'turn'] -/
def b_fewest_exchanges : Ss := (.cons (.expr (.call f_check_turned (.cons (.var 0) (.cons (.var 1) .nil))))
 (.cons (.ret (.call f_fewest_by (.cons (.var 1) .nil)))
 .nil))
/-- None.has_form ['value'] -/
def b_has_form : Ss := (.cons (.ifs (.or (.cons (.nt (.val (.isi (.var 0) .tuple))) (.cons (.val (.cmp .eq (.cb .len (.cons (.var 0) .nil)) (.cst (.int (0))))) (.cons (.nt (.val (.call f_is_string (.cons (.sub (.var 0) (.cst (.int (0)))) .nil)))) .nil))))
 (.cons (.ret (.cst (.bl false)))
 .nil)
 .nil)
 (.cons (.ret (.and (.cons (.din 0 (.sub (.var 0) (.cst (.int (0))))) (.cons (.cmp .eq (.cb .len (.cons (.var 0) .nil)) (.dget 0 (.sub (.var 0) (.cst (.int (0)))))) .nil))))
 .nil))
/-- None.check_exchange ['seats', 'value'] -/
def b_check_exchange : Ss := (.cons (.ifs (.nt (.val (.call f_is_seat (.cons (.var 0) (.cons (.sub (.var 1) (.cst (.int (1)))) .nil)))))
 (.cons (.raise c_InvalidDeed (.cons (.cst (.int (1))) .nil))
 .nil)
 .nil)
 (.cons (.ifs (.or (.cons (.nt (.val (.call f_is_seat (.cons (.var 0) (.cons (.sub (.var 1) (.cst (.int (2)))) .nil))))) (.cons (.val (.cmp .eq (.sub (.var 1) (.cst (.int (2)))) (.sub (.var 1) (.cst (.int (1)))))) .nil)))
 (.cons (.raise c_InvalidDeed (.cons (.cst (.int (2))) .nil))
 .nil)
 .nil)
 .nil))
/-- None.check_deed ['seats', 'value'] -/
def b_check_deed : Ss := (.cons (.ifs (.nt (.val (.call f_has_form (.cons (.var 1) .nil))))
 (.cons (.raise c_InvalidDeed (.cons (.cst (.int (0))) .nil))
 .nil)
 .nil)
 (.cons (.ifs (.and (.cons (.val (.cmp .eq (.sub (.var 1) (.cst (.int (0)))) (.cst (.str [116, 104, 101, 110])))) (.cons (.nt (.val (.call f_is_turn (.cons (.var 0) (.cons (.sub (.var 1) (.cst (.int (1)))) .nil))))) .nil)))
 (.cons (.raise c_InvalidDeed (.cons (.cst (.int (1))) .nil))
 .nil)
 .nil)
 (.cons (.ifs (.val (.cmp .eq (.sub (.var 1) (.cst (.int (0)))) (.cst (.str [101, 120, 99, 104, 97, 110, 103, 101]))))
 (.cons (.expr (.call f_check_exchange (.cons (.var 0) (.cons (.var 1) .nil))))
 .nil)
 .nil)
 .nil)))
/-- None.reason_against ['turn', 'deed'] -/
def b_reason_against : Ss := (.cons (.ifs (.val (.cmp .eq (.sub (.var 1) (.cst (.int (0)))) (.cst (.str [116, 104, 101, 110]))))
 (.cons (.ret (.ite (.val (.cmp .eq (.sub (.var 1) (.cst (.int (1)))) (.call f_stay_of (.cons (.cb .len (.cons (.var 0) .nil)) .nil)))) (.glb 3) (.cst .non)))
 .nil)
 .nil)
 (.cons (.ret (.ite (.and (.cons (.val (.cmp .eq (.sub (.var 1) (.cst (.int (0)))) (.cst (.str [98, 97, 99, 107])))) (.cons (.val (.cmp .eq (.call f_back_by (.cons (.var 0) .nil)) (.var 0))) .nil))) (.glb 4) (.cst .non)))
 .nil))
/-- None.turn_behind ['turn', 'deed'] -/
def b_turn_behind : Ss := (.cons (.ifs (.val (.cmp .eq (.sub (.var 1) (.cst (.int (0)))) (.cst (.str [98, 97, 99, 107]))))
 (.cons (.ret (.call f_back_by (.cons (.var 0) .nil)))
 .nil)
 .nil)
 (.cons (.ret (.call f_then_by (.cons (.var 0) (.cons (.ite (.val (.cmp .eq (.sub (.var 1) (.cst (.int (0)))) (.cst (.str [116, 104, 101, 110])))) (.sub (.var 1) (.cst (.int (1)))) (.call f_exchange_of (.cons (.cb .len (.cons (.var 0) .nil)) (.cons (.sub (.var 1) (.cst (.int (1)))) (.cons (.sub (.var 1) (.cst (.int (2)))) .nil))))) .nil))))
 .nil))
/-- None.check_bench ['value'] -/
def b_check_bench : Ss := (.cons (.ifs (.nt (.val (.isi (.var 0) (.cls c_Bench))))
 (.cons (.raise c_NotABench (.cons (.var 0) .nil))
 .nil)
 .nil)
 .nil)
/-- None.copy_of ['bench', 'found', 'deed'] -/
def l_copy_of_1 : Ss := (.cons (.expr (.me c_Bench f_Bench_do [100, 111] (.var 1) (.cons (.var 2) .nil)))
 .nil)
def b_copy_of : Ss := (.cons (.asg (.nm 1) (.mk c_Bench f_Bench_init__ (.cons (.fld (.var 0) [115, 101, 97, 116, 115]) .nil)))
 (.cons (.for_ (.nm 2) (.seq (.fld (.var 0) [100, 101, 101, 100, 115]))
 l_copy_of_1)
 (.cons (.ret (.var 1))
 .nil)))
/-- None.row_of ['turn', 'rings', 'ring', 'seat'] -/
def t_row_of_1 : T := (.val (.cmp .gt (.cb .len (.cons (.var 2) .nil)) (.cst (.int (1)))))
def e_row_of_1 : X := (.cb .str (.cons (.var 3) .nil))
def e_row_of_2 : X := (.mb .join (.cst (.str [32])) (.cons (.lc [3] (.nm 3) (.seq (.var 2)) .tt e_row_of_1) .nil))
def e_row_of_3 : X := (.bin .add (.bin .add (.glb 6) (.var 2)) (.glb 7))
def b_row_of : Ss := (.cons (.asg (.nm 1) (.lc [2] (.nm 2) (.seq (.call f_rings_by (.cons (.var 0) .nil))) t_row_of_1 e_row_of_2))
 (.cons (.ret (.ite (.val (.cmp .ne (.var 1) (.lst .nil))) (.mb .join (.cst (.str [])) (.cons (.lc [2] (.nm 2) (.seq (.var 1)) .tt e_row_of_3) .nil)) (.glb 5)))
 .nil))
/-- None.ring_in ['seats', 'text', 'ring', 'seat'] -/
def e_ring_in_1 : X := (.call f_is_seat (.cons (.var 0) (.cons (.var 3) .nil)))
def b_ring_in : Ss := (.cons (.asg (.nm 2) (.call f_numbers_in (.cons (.mb .split (.var 1) (.cons (.cst (.str [32])) .nil)) .nil)))
 (.cons (.ifs (.or (.cons (.val (.cmp .isN (.var 2) (.cst .non))) (.cons (.val (.cmp .lt (.cb .len (.cons (.var 2) .nil)) (.cst (.int (2))))) (.cons (.nt (.val (.cb .all (.cons (.lc [3] (.nm 3) (.seq (.var 2)) .tt e_ring_in_1) .nil)))) .nil))))
 (.cons (.ret (.cst .non))
 .nil)
 .nil)
 (.cons (.ret (.ite (.and (.cons (.val (.cmp .eq (.lset (.var 2)) (.cb .len (.cons (.var 2) .nil)))) (.cons (.val (.cmp .eq (.sub (.var 2) (.cst (.int (0)))) (.cb .min (.cons (.var 2) .nil)))) .nil))) (.var 2) (.cst .non)))
 .nil)))
/-- None.turn_of_rings ['seats', 'rings', 'found', 'ring', 'seat', 'there'] -/
def l_turn_of_rings_1 : Ss := (.cons (.asg (.sb (.var 2) (.var 4)) (.var 5))
 .nil)
def l_turn_of_rings_2 : Ss := (.cons (.for_ (.tp (.cons (.nm 4) (.cons (.nm 5) .nil))) (.zip (.var 3) (.lst (.star (.slc (.var 3) (.yes (.cst (.int (1)))) .no) (.cons (.sub (.var 3) (.cst (.int (0)))) .nil))))
 l_turn_of_rings_1)
 .nil)
def b_turn_of_rings : Ss := (.cons (.asg (.nm 2) (.olist (.call f_stay_of (.cons (.var 0) .nil))))
 (.cons (.for_ (.nm 3) (.seq (.var 1))
 l_turn_of_rings_2)
 (.cons (.ret (.cb .tuple (.cons (.var 2) .nil)))
 .nil)))
/-- None.turn_in ['seats', 'text', 'rings', 'turn', 'told', 'part', 'ring', 'seat'] -/
def e_turn_in_1 : X := (.call f_ring_in (.cons (.var 0) (.cons (.var 5) .nil)))
def i_turn_in_1 : It := (.seq (.var 6))
def e_turn_in_2 : X := (.var 7)
def b_turn_in : Ss := (.cons (.ifs (.val (.cmp .eq (.var 1) (.glb 5)))
 (.cons (.ret (.call f_stay_of (.cons (.var 0) .nil)))
 .nil)
 .nil)
 (.cons (.ifs (.or (.cons (.val (.cmp .ne (.slc (.var 1) .no (.yes (.cst (.int (1))))) (.glb 6))) (.cons (.val (.cmp .ne (.slc (.var 1) (.yes (.neg (.cst (.int (1))))) .no) (.glb 7))) .nil)))
 (.cons (.ret (.cst .non))
 .nil)
 .nil)
 (.cons (.asg (.nm 2) (.lc [5] (.nm 5) (.seq (.mb .split (.slc (.var 1) (.yes (.cst (.int (1)))) (.yes (.neg (.cst (.int (1)))))) (.cons (.bin .add (.glb 7) (.glb 6)) .nil))) .tt e_turn_in_1))
 (.cons (.ifs (.val (.cmp .isin (.cst .non) (.var 2)))
 (.cons (.ret (.cst .non))
 .nil)
 .nil)
 (.cons (.asg (.nm 3) (.call f_turn_of_rings (.cons (.var 0) (.cons (.var 2) .nil))))
 (.cons (.asg (.nm 4) (.cb .sorted (.cons (.lc2 [6, 7] [7] (.nm 6) (.seq (.var 2)) .tt (.nm 7) i_turn_in_1 .tt e_turn_in_2) .nil)))
 (.cons (.ret (.ite (.and (.cons (.val (.cmp .eq (.lset (.var 4)) (.cb .len (.cons (.var 4) .nil)))) (.cons (.val (.cmp .eq (.call f_row_of (.cons (.var 3) .nil)) (.var 1))) .nil))) (.var 3) (.cst .non)))
 .nil)))))))
/-- None.turn_text ['seats', 'turn'] -/
def b_turn_text : Ss := (.cons (.expr (.call f_check_turned (.cons (.var 0) (.cons (.var 1) .nil))))
 (.cons (.ret (.call f_row_of (.cons (.var 1) .nil)))
 .nil))
/-- None.said_of_deed ['bench', 'deed', 'barred'] -/
def b_said_of_deed : Ss := (.cons (.try2 (.cons (.expr (.me c_Bench f_Bench_do [100, 111] (.var 0) (.cons (.var 1) .nil)))
 .nil) c_InvalidDeed 8 c_Barred 2 [114, 101, 97, 115, 111, 110])
 (.cons (.ret (.glb 9))
 .nil))
/-- None.said_of_undo ['bench'] -/
def b_said_of_undo : Ss := (.cons (.try_ (.cons (.expr (.me c_Bench f_Bench_undo [117, 110, 100, 111] (.var 0) .nil))
 .nil) c_NothingToUndo (.rtg 10))
 (.cons (.ret (.glb 9))
 .nil))
/-- None.said_of_word ['bench', 'word', 'own'] -/
def e_said_of_word_1 : X := (.cb .str (.cons (.var 2) .nil))
def b_said_of_word : Ss := (.cons (.ifs (.val (.cmp .eq (.var 1) (.cst (.str [117, 110, 100, 111]))))
 (.cons (.ret (.call f_said_of_undo (.cons (.var 0) .nil)))
 .nil)
 .nil)
 (.cons (.ifs (.val (.cmp .eq (.var 1) (.cst (.str [98, 97, 99, 107]))))
 (.cons (.ret (.call f_said_of_deed (.cons (.var 0) (.cons (.tup (.cons (.cst (.str [98, 97, 99, 107])) .nil)) .nil))))
 .nil)
 .nil)
 (.cons (.ifs (.val (.cmp .eq (.var 1) (.cst (.str [116, 117, 114, 110]))))
 (.cons (.ret (.call f_row_of (.cons (.fld (.var 0) [116, 117, 114, 110]) .nil)))
 .nil)
 .nil)
 (.cons (.ifs (.val (.cmp .eq (.var 1) (.cst (.str [107, 105, 110, 100]))))
 (.cons (.ret (.mb .join (.cst (.str [32])) (.cons (.lc [2] (.nm 2) (.seq (.call f_kind_by (.cons (.fld (.var 0) [116, 117, 114, 110]) .nil))) .tt e_said_of_word_1) .nil)))
 .nil)
 .nil)
 (.cons (.ret (.call f_said_of_number (.cons (.var 0) (.cons (.var 1) .nil))))
 .nil)))))
/-- None.said_of_number ['bench', 'word'] -/
def b_said_of_number : Ss := (.cons (.ifs (.val (.cmp .eq (.var 1) (.cst (.str [115, 105, 103, 110]))))
 (.cons (.ret (.cb .str (.cons (.call f_sign_by (.cons (.fld (.var 0) [116, 117, 114, 110]) .nil)) .nil)))
 .nil)
 .nil)
 (.cons (.ifs (.val (.cmp .eq (.var 1) (.cst (.str [114, 111, 117, 110, 100]))))
 (.cons (.ret (.cb .str (.cons (.call f_round_by (.cons (.fld (.var 0) [116, 117, 114, 110]) .nil)) .nil)))
 .nil)
 .nil)
 (.cons (.ret (.ite (.val (.cmp .eq (.var 1) (.cst (.str [102, 101, 119, 101, 115, 116])))) (.cb .str (.cons (.call f_fewest_by (.cons (.fld (.var 0) [116, 117, 114, 110]) .nil)) .nil)) (.glb 8)))
 .nil)))
/-- None._law_pool ['script', 'k', 'wide', 'each', 'cell', 'mixed'] -/
def l_law_pool_1 : Ss := (.cons (.asg (.nm 5) (.bin .mod (.bin .add (.bin .add (.bin .mul (.var 5) (.cst (.int (48271)))) (.bin .mul (.bin .mod (.var 3) (.cst (.int (2147483399)))) (.cst (.int (19))))) (.cst (.int (7)))) (.cst (.int (2147483399)))))
 .nil)
def b_law_pool : Ss := (.cons (.par [4, 5] (.cons (.cb .sum (.cons (.slc (.var 0) (.yes (.var 1)) (.yes (.bin .add (.var 1) (.cst (.int (1)))))) .nil)) (.cons (.bin .add (.cst (.int (50021))) (.bin .mul (.cst (.int (977))) (.var 1))) .nil)))
 (.cons (.asg (.nm 2) (.bin .mul (.bin .mul (.bin .mul (.bin .mul (.bin .mul (.bin .pow (.cst (.int (10))) (.cst (.int (64)))) (.bin .pow (.cst (.int (10))) (.cst (.int (64))))) (.bin .pow (.cst (.int (10))) (.cst (.int (64))))) (.bin .pow (.cst (.int (10))) (.cst (.int (64))))) (.bin .pow (.cst (.int (10))) (.cst (.int (64))))) (.bin .pow (.cst (.int (10))) (.cst (.int (64))))))
 (.cons (.for_ (.nm 3) (.seq (.slc (.var 0) .no (.yes (.cst (.int (12))))))
 l_law_pool_1)
 (.cons (.ret (.nlst (.cons (.ite (.or (.cons (.val (.cmp .lt (.var 4) (.cst (.int (0))))) (.cons (.val (.cmp .ge (.var 4) (.bin .pow (.cst (.int (10))) (.cst (.int (18)))))) .nil))) (.bin .mod (.cb .abs (.cons (.var 4) .nil)) (.var 2)) (.cst (.int (0)))) (.cons (.var 5) (.cons (.cst (.int (0))) .nil)))))
 .nil))))
/-- None._law_take ['pool', 'many', 'stirred', 'digit'] -/
def b_law_take : Ss := (.cons (.ifs (.val (.cmp .gt (.sub (.var 0) (.cst (.int (0)))) (.cst (.int (0)))))
 (.cons (.asg (.tp (.cons (.sb (.var 0) (.cst (.int (0)))) (.cons (.nm 3) .nil))) (.cb .divmod (.cons (.sub (.var 0) (.cst (.int (0)))) (.cons (.var 1) .nil))))
 (.cons (.ret (.var 3))
 .nil))
 .nil)
 (.cons (.asg (.sb (.var 0) (.cst (.int (2)))) (.bin .add (.sub (.var 0) (.cst (.int (2)))) (.cst (.int (1)))))
 (.cons (.asg (.nm 2) (.bin .mod (.bin .add (.sub (.var 0) (.cst (.int (1)))) (.bin .mul (.cst (.int (28657))) (.sub (.var 0) (.cst (.int (2)))))) (.cst (.int (2147483399)))))
 (.cons (.asg (.sb (.var 0) (.cst (.int (1)))) (.bin .mod (.bin .add (.bin .mul (.var 2) (.bin .add (.bin .mod (.var 2) (.cst (.int (5003)))) (.cst (.int (48271))))) (.bin .mul (.cst (.int (17))) (.sub (.var 0) (.cst (.int (2)))))) (.cst (.int (2147483399)))))
 (.cons (.ret (.bin .mod (.bin .fdiv (.sub (.var 0) (.cst (.int (1)))) (.cst (.int (613)))) (.var 1)))
 .nil)))))
/-- None._law_of ['pool', 'some'] -/
def b_law_of : Ss := (.cons (.ret (.sub (.var 1) (.call f_law_take (.cons (.var 0) (.cons (.cb .len (.cons (.var 1) .nil)) .nil)))))
 .nil)
/-- None._law_turns ['seats', 'found', 'place', 'longer', 'some', 'seat'] -/
def t_law_turns_1 : T := (.val (.cmp .notin (.var 5) (.var 4)))
def e_law_turns_1 : X := (.bin .add (.var 4) (.tup (.cons (.var 5) .nil)))
def l_law_turns_1 : Ss := (.cons (.expr (.mb .extend (.var 3) (.cons (.lc [5] (.nm 5) (.rng (.cons (.var 0) .nil)) t_law_turns_1 e_law_turns_1) .nil)))
 .nil)
def l_law_turns_2 : Ss := (.cons (.asg (.nm 3) (.nlst .nil))
 (.cons (.for_ (.nm 4) (.seq (.var 1))
 l_law_turns_1)
 (.cons (.frz 3)
 (.cons (.asg (.nm 1) (.var 3))
 .nil))))
def b_law_turns : Ss := (.cons (.asg (.nm 1) (.lst (.cons (.tup .nil) .nil)))
 (.cons (.for_ (.nm 2) (.rng (.cons (.var 0) .nil))
 l_law_turns_2)
 (.cons (.ret (.var 1))
 .nil)))
/-- None._law_rings ['turn', 'left', 'found', 'ring', 'here', 'seat'] -/
def u_law_rings_1 : T := (.val (.cmp .ne (.var 1) (.lst .nil)))
def u_law_rings_2 : T := (.val (.cmp .notin (.var 4) (.var 3)))
def w_law_rings_1 : Ss := (.cons (.asg (.tp (.cons (.nm 3) (.cons (.nm 4) .nil))) (.tup (.cons (.bin .add (.var 3) (.tup (.cons (.var 4) .nil))) (.cons (.sub (.var 0) (.var 4)) .nil))))
 .nil)
def t_law_rings_1 : T := (.val (.cmp .notin (.var 5) (.var 3)))
def e_law_rings_1 : X := (.var 5)
def w_law_rings_2 : Ss := (.cons (.asg (.tp (.cons (.nm 3) (.cons (.nm 4) .nil))) (.tup (.cons (.tup .nil) (.cons (.sub (.var 1) (.cst (.int (0)))) .nil))))
 (.cons (.whl u_law_rings_2
 w_law_rings_1)
 (.cons (.expr (.mb .append (.var 2) (.cons (.var 3) .nil)))
 (.cons (.asg (.nm 1) (.lc [5] (.nm 5) (.seq (.var 1)) t_law_rings_1 e_law_rings_1))
 .nil))))
def b_law_rings : Ss := (.cons (.par [1, 2] (.cons (.lrng (.cb .len (.cons (.var 0) .nil))) (.cons (.nlst .nil) .nil)))
 (.cons (.whl u_law_rings_1
 w_law_rings_2)
 (.cons (.ret (.cb .tuple (.cons (.var 2) .nil)))
 .nil)))
/-- None._law_deed ['pool', 'seats', 'kind', 'one'] -/
def b_law_deed : Ss := (.cons (.asg (.nm 2) (.call f_law_take (.cons (.var 0) (.cons (.cst (.int (5))) .nil))))
 (.cons (.ifs (.val (.cmp .eq (.var 2) (.cst (.int (0)))))
 (.cons (.ret (.tup (.cons (.cst (.str [98, 97, 99, 107])) .nil)))
 .nil)
 .nil)
 (.cons (.ifs (.val (.cmp .lt (.var 2) (.cst (.int (3)))))
 (.cons (.asg (.nm 3) (.call f_law_take (.cons (.var 0) (.cons (.var 1) .nil))))
 (.cons (.ret (.tup (.cons (.cst (.str [101, 120, 99, 104, 97, 110, 103, 101])) (.cons (.var 3) (.cons (.bin .mod (.bin .add (.bin .add (.var 3) (.cst (.int (1)))) (.call f_law_take (.cons (.var 0) (.cons (.bin .sub (.var 1) (.cst (.int (1)))) .nil)))) (.var 1)) .nil)))))
 .nil))
 .nil)
 (.cons (.ret (.tup (.cons (.cst (.str [116, 104, 101, 110])) (.cons (.call f_law_of (.cons (.var 0) (.cons (.call f_law_turns (.cons (.var 1) .nil)) .nil))) .nil))))
 .nil))))
/-- None._law_text ['turn', 'rings', 'parts', 'ring', 'seat'] -/
def t_law_text_1 : T := (.val (.cmp .gt (.cb .len (.cons (.var 3) .nil)) (.cst (.int (1)))))
def e_law_text_1 : X := (.var 3)
def e_law_text_2 : X := (.cb .str (.cons (.var 4) .nil))
def e_law_text_3 : X := (.bin .add (.bin .add (.cst (.str [40])) (.mb .join (.cst (.str [32])) (.cons (.lc [4] (.nm 4) (.seq (.var 3)) .tt e_law_text_2) .nil))) (.cst (.str [41])))
def b_law_text : Ss := (.cons (.asg (.nm 1) (.lc [3] (.nm 3) (.seq (.call f_law_rings (.cons (.var 0) .nil))) t_law_text_1 e_law_text_1))
 (.cons (.asg (.nm 2) (.lc [3] (.nm 3) (.seq (.var 1)) .tt e_law_text_3))
 (.cons (.ret (.ite (.val (.cmp .ne (.var 2) (.lst .nil))) (.mb .join (.cst (.str [])) (.cons (.var 2) .nil)) (.cst (.str [115, 116, 97, 121]))))
 .nil)))
/-- None._law_said ['deed', 'each'] -/
def e_law_said_1 : X := (.cb .str (.cons (.var 1) .nil))
def b_law_said : Ss := (.cons (.ifs (.val (.cmp .eq (.sub (.var 0) (.cst (.int (0)))) (.cst (.str [116, 104, 101, 110]))))
 (.cons (.ret (.bin .add (.cst (.str [116, 104, 101, 110, 32])) (.call f_law_text (.cons (.sub (.var 0) (.cst (.int (1)))) .nil))))
 .nil)
 .nil)
 (.cons (.ret (.mb .join (.cst (.str [32])) (.cons (.lc [1] (.nm 1) (.seq (.var 0)) .tt e_law_said_1) .nil)))
 .nil))
/-- None._law_shown ['bench', 'told', 'length'] -/
def e_law_shown_1 : X := (.cb .str (.cons (.var 2) .nil))
def b_law_shown : Ss := (.cons (.asg (.nm 1) (.nlst (.cons (.call f_turn_text (.cons (.fld (.var 0) [115, 101, 97, 116, 115]) (.cons (.fld (.var 0) [116, 117, 114, 110]) .nil))) .nil)))
 (.cons (.expr (.mb .append (.var 1) (.cons (.mb .join (.cst (.str [32])) (.cons (.lc [2] (.nm 2) (.seq (.call f_kind_of (.cons (.fld (.var 0) [115, 101, 97, 116, 115]) (.cons (.fld (.var 0) [116, 117, 114, 110]) .nil)))) .tt e_law_shown_1) .nil)) .nil)))
 (.cons (.asg (.nm 1) (.bin .add (.var 1) (.lst (.cons (.cb .str (.cons (.call f_sign (.cons (.fld (.var 0) [115, 101, 97, 116, 115]) (.cons (.fld (.var 0) [116, 117, 114, 110]) .nil))) .nil)) (.cons (.cb .str (.cons (.call f_round_of (.cons (.fld (.var 0) [115, 101, 97, 116, 115]) (.cons (.fld (.var 0) [116, 117, 114, 110]) .nil))) .nil)) .nil)))))
 (.cons (.ret (.bin .add (.var 1) (.lst (.cons (.cb .str (.cons (.call f_fewest_exchanges (.cons (.fld (.var 0) [115, 101, 97, 116, 115]) (.cons (.fld (.var 0) [116, 117, 114, 110]) .nil))) .nil)) .nil))))
 .nil))))
/-- None._law_right ['pool', 'seats', 'time', 'bench', 'console', 'words', 'deed', 'later', 'seen', 'word'] -/
def e_law_right_1 : X := (.me c_Console f_Console_say [115, 97, 121] (.var 4) (.cons (.var 9) .nil))
def l_law_right_1 : Ss := (.cons (.asg (.nm 6) (.call f_law_deed (.cons (.var 0) (.cons (.var 1) .nil))))
 (.cons (.ifs (.val (.cmp .ne (.me c_Console f_Console_say [115, 97, 121] (.var 4) (.cons (.call f_law_said (.cons (.var 6) .nil)) .nil)) (.tryl 0 (.me c_Bench f_Bench_do [100, 111] (.var 3) (.cons (.var 6) .nil)))))
 (.cons (.ret (.cst (.bl false)))
 .nil)
 .nil)
 (.cons (.ifs (.val (.cmp .ne (.lc [9] (.nm 9) (.seq (.var 5)) .tt e_law_right_1) (.call f_law_shown (.cons (.var 3) .nil))))
 (.cons (.ret (.cst (.bl false)))
 .nil)
 .nil)
 .nil)))
def e_law_right_2 : X := (.me c_Console f_Console_say [115, 97, 121] (.var 7) (.cons (.var 9) .nil))
def l_law_right_2 : Ss := (.cons (.ifs (.val (.cmp .ne (.me c_Console f_Console_say [115, 97, 121] (.var 7) (.cons (.cst (.str [117, 110, 100, 111])) .nil)) (.cst (.str [100, 111, 110, 101]))))
 (.cons (.ret (.cst (.bl false)))
 .nil)
 .nil)
 .nil)
def b_law_right : Ss := (.cons (.asg (.tp (.cons (.nm 3) (.cons (.nm 4) (.cons (.nm 5) .nil)))) (.tup (.cons (.mk c_Bench f_Bench_init__ (.cons (.var 1) .nil)) (.cons (.mk c_Console f_Console_init__ (.cons (.mk c_Bench f_Bench_init__ (.cons (.var 1) .nil)) .nil)) (.cons (.lst (.cons (.cst (.str [116, 117, 114, 110])) (.cons (.cst (.str [107, 105, 110, 100])) (.cons (.cst (.str [115, 105, 103, 110])) (.cons (.cst (.str [114, 111, 117, 110, 100])) (.cons (.cst (.str [102, 101, 119, 101, 115, 116])) .nil)))))) .nil)))))
 (.cons (.for_ (.nm 2) (.rng (.cons (.cst (.int (20))) .nil))
 l_law_right_1)
 (.cons (.asg (.tp (.cons (.nm 7) (.cons (.nm 8) .nil))) (.tup (.cons (.mk c_Console f_Console_init__ (.cons (.var 3) .nil)) (.cons (.cb .repr (.cons (.lst (.cons (.fld (.var 3) [116, 117, 114, 110]) (.cons (.fld (.var 3) [100, 101, 101, 100, 115]) .nil))) .nil)) .nil))))
 (.cons (.ifs (.val (.cmp .ne (.lc [9] (.nm 9) (.seq (.var 5)) .tt e_law_right_2) (.call f_law_shown (.cons (.var 3) .nil))))
 (.cons (.ret (.cst (.bl false)))
 .nil)
 .nil)
 (.cons (.for_ (.nm 2) (.rng (.cons (.cb .len (.cons (.fld (.var 3) [100, 101, 101, 100, 115]) .nil)) .nil))
 l_law_right_2)
 (.cons (.ifs (.or (.cons (.val (.cmp .ne (.me c_Console f_Console_say [115, 97, 121] (.var 7) (.cons (.cst (.str [117, 110, 100, 111])) .nil)) (.cst (.str [110, 111, 116, 104, 105, 110, 103])))) (.cons (.val (.cmp .ne (.me c_Console f_Console_say [115, 97, 121] (.var 7) (.cons (.cst (.str [116, 117, 114, 110])) .nil)) (.cst (.str [115, 116, 97, 121])))) (.cons (.val (.cmp .ne (.me c_Console f_Console_say [115, 97, 121] (.var 7) (.cons (.cst (.str [114, 111, 117, 110, 100])) .nil)) (.cst (.str [49])))) .nil))))
 (.cons (.ret (.cst (.bl false)))
 .nil)
 .nil)
 (.cons (.ret (.cmp .eq (.cb .repr (.cons (.lst (.cons (.fld (.var 3) [116, 117, 114, 110]) (.cons (.fld (.var 3) [100, 101, 101, 100, 115]) .nil))) .nil)) (.var 8)))
 .nil)))))))
/-- None.law ['script', 'k', 'pool', 'most'] -/
def l_law_1 : Ss := (.cons (.ifs (.nt (.val (.call f_law_right (.cons (.var 2) (.cons (.var 3) .nil)))))
 (.cons (.ret (.cst (.bl false)))
 .nil)
 .nil)
 .nil)
def l_law_2 : Ss := (.cons (.asg (.nm 2) (.call f_law_pool (.cons (.var 0) (.cons (.var 1) .nil))))
 (.cons (.for_ (.nm 3) (.seq (.lst (.cons (.cst (.int (3))) (.cons (.cst (.int (5))) (.cons (.cst (.int (2))) (.cons (.cst (.int (4))) .nil))))))
 l_law_1)
 .nil))
def b_law : Ss := (.cons (.for_ (.nm 1) (.rng (.cons (.cb .max (.cons (.cst (.int (2))) (.cons (.cb .min (.cons (.cb .len (.cons (.var 0) .nil)) (.cons (.cst (.int (3))) .nil))) .nil))) .nil))
 l_law_2)
 (.cons (.ret (.cst (.bl true)))
 .nil))
/-- Bench.__init__ ['self', 'seats'] -/
def b_Bench_init__ : Ss := (.cons (.expr (.call f_check_seats (.cons (.var 1) .nil)))
 (.cons (.asg (.fd (.var 0) [115, 101, 97, 116, 115]) (.var 1))
 (.cons (.asg (.fd (.var 0) [116, 117, 114, 110]) (.call f_stay_of (.cons (.var 1) .nil)))
 (.cons (.asg (.fd (.var 0) [100, 101, 101, 100, 115]) (.tup .nil))
 (.cons (.asg (.fd (.var 0) [112, 97, 115, 116]) (.nlst .nil))
 .nil)))))
/-- Bench.do ['self', 'deed', 'reason'] -/
def b_Bench_do : Ss := (.cons (.expr (.call f_check_deed (.cons (.fld (.var 0) [115, 101, 97, 116, 115]) (.cons (.var 1) .nil))))
 (.cons (.asg (.nm 2) (.call f_reason_against (.cons (.fld (.var 0) [116, 117, 114, 110]) (.cons (.var 1) .nil))))
 (.cons (.ifs (.val (.cmp .notN (.var 2) (.cst .non)))
 (.cons (.raise c_Barred (.cons (.var 2) .nil))
 .nil)
 .nil)
 (.cons (.expr (.mb .append (.fld (.var 0) [112, 97, 115, 116]) (.cons (.fld (.var 0) [116, 117, 114, 110]) .nil)))
 (.cons (.asg (.fd (.var 0) [116, 117, 114, 110]) (.call f_turn_behind (.cons (.fld (.var 0) [116, 117, 114, 110]) (.cons (.var 1) .nil))))
 (.cons (.asg (.fd (.var 0) [100, 101, 101, 100, 115]) (.bin .add (.fld (.var 0) [100, 101, 101, 100, 115]) (.tup (.cons (.var 1) .nil))))
 .nil))))))
/-- Bench.undo ['self'] -/
def b_Bench_undo : Ss := (.cons (.ifs (.val (.cmp .eq (.fld (.var 0) [112, 97, 115, 116]) (.lst .nil)))
 (.cons (.raise c_NothingToUndo .nil)
 .nil)
 .nil)
 (.cons (.asg (.fd (.var 0) [116, 117, 114, 110]) (.mb .pop (.fld (.var 0) [112, 97, 115, 116]) .nil))
 (.cons (.asg (.fd (.var 0) [100, 101, 101, 100, 115]) (.slc (.fld (.var 0) [100, 101, 101, 100, 115]) .no (.yes (.neg (.cst (.int (1)))))))
 .nil)))
/-- Bench.rings ['self'] -/
def b_Bench_rings : Ss := (.cons (.ret (.call f_rings_by (.cons (.fld (.var 0) [116, 117, 114, 110]) .nil)))
 .nil)
/-- Bench.is_stay ['self'] -/
def b_Bench_is_stay : Ss := (.cons (.expr (.call f_wall (.cons (.cst (.int (0))) .nil)))
 .nil)
/-- Bench.__eq__ ['self', 'other'] -/
def b_Bench_eq__ : Ss := (.cons (.ret (.and (.cons (.isi (.var 1) (.cls c_Bench)) (.cons (.cmp .eq (.fld (.var 0) [115, 101, 97, 116, 115]) (.fld (.var 1) [115, 101, 97, 116, 115])) (.cons (.cmp .eq (.fld (.var 0) [100, 101, 101, 100, 115]) (.fld (.var 1) [100, 101, 101, 100, 115])) .nil)))))
 .nil)
/-- Console.__init__ ['self', 'bench'] -/
def b_Console_init__ : Ss := (.cons (.expr (.call f_check_bench (.cons (.var 1) .nil)))
 (.cons (.asg (.fd (.var 0) [98, 101, 110, 99, 104]) (.call f_copy_of (.cons (.var 1) .nil)))
 .nil))
/-- Console.say ['self', 'line', 'words', 'numbers'] -/
def b_Console_say : Ss := (.cons (.ifs (.nt (.val (.call f_is_string (.cons (.var 1) .nil))))
 (.cons (.raise c_InvalidLine (.cons (.var 1) .nil))
 .nil)
 .nil)
 (.cons (.asg (.nm 2) (.call f_words_of (.cons (.var 1) .nil)))
 (.cons (.ifs (.val (.cmp .isN (.var 2) (.cst .non)))
 (.cons (.ret (.glb 8))
 .nil)
 .nil)
 (.cons (.ifs (.val (.cmp .eq (.sub (.var 2) (.cst (.int (0)))) (.cst (.str [116, 104, 101, 110]))))
 (.cons (.ret (.call f_said_of_deed (.cons (.fld (.var 0) [98, 101, 110, 99, 104]) (.cons (.tup (.cons (.cst (.str [116, 104, 101, 110])) (.cons (.call f_turn_in (.cons (.fld (.fld (.var 0) [98, 101, 110, 99, 104]) [115, 101, 97, 116, 115]) (.cons (.mb .join (.cst (.str [32])) (.cons (.slc (.var 2) (.yes (.cst (.int (1)))) .no) .nil)) .nil))) .nil))) .nil))))
 .nil)
 .nil)
 (.cons (.ifs (.val (.cmp .eq (.sub (.var 2) (.cst (.int (0)))) (.cst (.str [101, 120, 99, 104, 97, 110, 103, 101]))))
 (.cons (.asg (.nm 3) (.call f_numbers_in (.cons (.slc (.var 2) (.yes (.cst (.int (1)))) .no) .nil)))
 (.cons (.ret (.ite (.val (.cmp .isN (.var 3) (.cst .non))) (.glb 8) (.call f_said_of_deed (.cons (.fld (.var 0) [98, 101, 110, 99, 104]) (.cons (.tup (.cons (.cst (.str [101, 120, 99, 104, 97, 110, 103, 101])) (.star (.var 3) .nil))) .nil)))))
 .nil))
 .nil)
 (.cons (.ret (.ite (.val (.cmp .eq (.cb .len (.cons (.var 2) .nil)) (.cst (.int (1))))) (.call f_said_of_word (.cons (.fld (.var 0) [98, 101, 110, 99, 104]) (.cons (.sub (.var 2) (.cst (.int (0)))) .nil))) (.glb 8)))
 .nil))))))
def dcts : List (List (Nm × Option D)) := [[([116, 104, 101, 110], some (.int (2))), ([101, 120, 99, 104, 97, 110, 103, 101], some (.int (3))), ([98, 97, 99, 107], some (.int (1))), ([], none), ([32], none), ([40], none), ([41], none), ([48], none), ([48, 49, 50, 51, 52, 53, 54, 55, 56, 57], none), ([49], none), ([100, 111, 110, 101], none), ([102, 101, 119, 101, 115, 116], none), ([107, 105, 110, 100], none), ([109, 105, 114, 114, 111, 114], none), ([110, 111, 116, 32, 117, 110, 100, 101, 114, 115, 116, 111, 111, 100], none), ([110, 111, 116, 104, 105, 110, 103], none), ([114, 111, 117, 110, 100], none), ([115, 105, 103, 110], none), ([115, 116, 97, 121], none), ([116, 104, 101, 110, 32], none), ([116, 117, 114, 110], none), ([117, 110, 100, 111], none)]]
def tab : Tab where
  fns := [⟨1, 1, false, b_wall⟩, ⟨1, 1, true, b_is_whole⟩, ⟨3, 3, true, b_is_between⟩, ⟨1, 1, true, b_is_string⟩, ⟨2, 3, true, b_is_made_of⟩, ⟨2, 2, true, b_is_tuple_of⟩, ⟨1, 2, true, b_words_of⟩, ⟨1, 3, true, b_number_in⟩, ⟨1, 3, true, b_numbers_in⟩, ⟨1, 1, true, b_is_seats⟩, ⟨1, 1, true, b_check_seats⟩, ⟨2, 2, true, b_is_seat⟩, ⟨2, 3, true, b_is_turn⟩, ⟨2, 2, true, b_check_turn⟩, ⟨2, 2, true, b_check_turned⟩, ⟨1, 2, true, b_stay_of⟩, ⟨2, 3, true, b_then_by⟩, ⟨1, 2, true, b_back_by⟩, ⟨2, 4, true, b_power_by⟩, ⟨3, 4, true, b_exchange_of⟩, ⟨2, 3, true, b_ring_at⟩, ⟨1, 4, true, b_rings_by⟩, ⟨1, 2, true, b_kind_by⟩, ⟨1, 1, true, b_sign_by⟩, ⟨1, 2, true, b_round_by⟩, ⟨1, 1, true, b_fewest_by⟩, ⟨2, 2, true, b_kind_of⟩, ⟨2, 2, true, b_sign⟩, ⟨2, 2, true, b_round_of⟩, ⟨2, 2, true, b_fewest_exchanges⟩, ⟨1, 1, true, b_has_form⟩, ⟨2, 2, true, b_check_exchange⟩, ⟨2, 2, true, b_check_deed⟩, ⟨2, 2, true, b_reason_against⟩, ⟨2, 2, true, b_turn_behind⟩, ⟨1, 1, false, b_check_bench⟩, ⟨1, 3, false, b_copy_of⟩, ⟨1, 4, true, b_row_of⟩, ⟨2, 4, true, b_ring_in⟩, ⟨2, 6, true, b_turn_of_rings⟩, ⟨2, 8, true, b_turn_in⟩, ⟨2, 2, true, b_turn_text⟩, ⟨2, 3, false, b_said_of_deed⟩, ⟨1, 1, false, b_said_of_undo⟩, ⟨2, 3, false, b_said_of_word⟩, ⟨2, 2, false, b_said_of_number⟩, ⟨2, 6, false, b_law_pool⟩, ⟨2, 4, false, b_law_take⟩, ⟨2, 2, false, b_law_of⟩, ⟨1, 6, true, b_law_turns⟩, ⟨1, 6, true, b_law_rings⟩, ⟨2, 4, false, b_law_deed⟩, ⟨1, 5, true, b_law_text⟩, ⟨1, 2, true, b_law_said⟩, ⟨1, 3, false, b_law_shown⟩, ⟨2, 10, false, b_law_right⟩, ⟨1, 4, false, b_law⟩, ⟨2, 2, false, b_Bench_init__⟩, ⟨2, 3, false, b_Bench_do⟩, ⟨1, 1, false, b_Bench_undo⟩, ⟨1, 1, false, b_Bench_rings⟩, ⟨1, 1, false, b_Bench_is_stay⟩, ⟨2, 2, false, b_Bench_eq__⟩, ⟨2, 2, false, b_Console_init__⟩, ⟨2, 4, false, b_Console_say⟩]
  glb := [(.str [48, 49, 50, 51, 52, 53, 54, 55, 56, 57]), (.int (2)), (.int (5)), (.str [115, 116, 97, 121]), (.str [109, 105, 114, 114, 111, 114]), (.str [115, 116, 97, 121]), (.str [40]), (.str [41]), (.str [110, 111, 116, 32, 117, 110, 100, 101, 114, 115, 116, 111, 111, 100]), (.str [100, 111, 110, 101]), (.str [110, 111, 116, 104, 105, 110, 103])]
  sub := fun a b => ([[some true, some false, some false, some false, some false, some false, some false, some false, none, none], [some true, some true, some false, some false, some false, some false, some false, some false, none, none], [some true, some false, some true, some false, some false, some false, some false, some false, none, none], [some true, some false, some false, some true, some false, some false, some false, some false, none, none], [some true, some false, some false, some false, some true, some false, some false, some false, none, none], [some true, some false, some false, some false, some false, some true, some false, some false, none, none], [some true, some false, some false, some false, some false, some false, some true, some false, none, none], [some true, some false, some false, some false, some false, some false, some false, some true, none, none], [none, none, none, none, none, none, none, none, none, none], [none, none, none, none, none, none, none, none, none, none]].getD a []).getD b none
  flds := fun c => [[], [], [], [], [], [], [], [], [[115, 101, 97, 116, 115], [116, 117, 114, 110], [100, 101, 101, 100, 115], [112, 97, 115, 116]], [[98, 101, 110, 99, 104]]].getD c []
  exf := fun c => [[], [[103, 105, 118, 101, 110]], [[103, 105, 118, 101, 110]], [[103, 105, 118, 101, 110]], [[103, 105, 118, 101, 110]], [[105, 110, 100, 101, 120]], [[114, 101, 97, 115, 111, 110]], [], [], []].getD c []
  told := fun k => [some (6, [114, 101, 97, 115, 111, 110], (.str [100, 111, 110, 101]))].getD k none
  dct := fun k => dctF (dcts.getD k [])
  wl := 200
@[simp] theorem gl_FIGURES : tab.glb[0]? = some (.str [48, 49, 50, 51, 52, 53, 54, 55, 56, 57]) := rfl
@[simp] theorem gl_FEWEST_SEATS : tab.glb[1]? = some (.int (2)) := rfl
@[simp] theorem gl_MOST_SEATS : tab.glb[2]? = some (.int (5)) := rfl
@[simp] theorem gl_STAY_benches : tab.glb[3]? = some (.str [115, 116, 97, 121]) := rfl
@[simp] theorem gl_MIRROR : tab.glb[4]? = some (.str [109, 105, 114, 114, 111, 114]) := rfl
@[simp] theorem gl_STAY_turntexts : tab.glb[5]? = some (.str [115, 116, 97, 121]) := rfl
@[simp] theorem gl_BEGIN : tab.glb[6]? = some (.str [40]) := rfl
@[simp] theorem gl_END : tab.glb[7]? = some (.str [41]) := rfl
@[simp] theorem gl_LOST : tab.glb[8]? = some (.str [110, 111, 116, 32, 117, 110, 100, 101, 114, 115, 116, 111, 111, 100]) := rfl
@[simp] theorem gl_DONE : tab.glb[9]? = some (.str [100, 111, 110, 101]) := rfl
@[simp] theorem gl_NOTHING : tab.glb[10]? = some (.str [110, 111, 116, 104, 105, 110, 103]) := rfl
theorem tf_wall : tab.fns[f_wall]? = some ⟨1, 1, false, b_wall⟩ := rfl
theorem tf_is_whole : tab.fns[f_is_whole]? = some ⟨1, 1, true, b_is_whole⟩ := rfl
theorem tf_is_between : tab.fns[f_is_between]? = some ⟨3, 3, true, b_is_between⟩ := rfl
theorem tf_is_string : tab.fns[f_is_string]? = some ⟨1, 1, true, b_is_string⟩ := rfl
theorem tf_is_made_of : tab.fns[f_is_made_of]? = some ⟨2, 3, true, b_is_made_of⟩ := rfl
theorem tf_is_tuple_of : tab.fns[f_is_tuple_of]? = some ⟨2, 2, true, b_is_tuple_of⟩ := rfl
theorem tf_words_of : tab.fns[f_words_of]? = some ⟨1, 2, true, b_words_of⟩ := rfl
theorem tf_number_in : tab.fns[f_number_in]? = some ⟨1, 3, true, b_number_in⟩ := rfl
theorem tf_numbers_in : tab.fns[f_numbers_in]? = some ⟨1, 3, true, b_numbers_in⟩ := rfl
theorem tf_is_seats : tab.fns[f_is_seats]? = some ⟨1, 1, true, b_is_seats⟩ := rfl
theorem tf_check_seats : tab.fns[f_check_seats]? = some ⟨1, 1, true, b_check_seats⟩ := rfl
theorem tf_is_seat : tab.fns[f_is_seat]? = some ⟨2, 2, true, b_is_seat⟩ := rfl
theorem tf_is_turn : tab.fns[f_is_turn]? = some ⟨2, 3, true, b_is_turn⟩ := rfl
theorem tf_check_turn : tab.fns[f_check_turn]? = some ⟨2, 2, true, b_check_turn⟩ := rfl
theorem tf_check_turned : tab.fns[f_check_turned]? = some ⟨2, 2, true, b_check_turned⟩ := rfl
theorem tf_stay_of : tab.fns[f_stay_of]? = some ⟨1, 2, true, b_stay_of⟩ := rfl
theorem tf_then_by : tab.fns[f_then_by]? = some ⟨2, 3, true, b_then_by⟩ := rfl
theorem tf_back_by : tab.fns[f_back_by]? = some ⟨1, 2, true, b_back_by⟩ := rfl
theorem tf_power_by : tab.fns[f_power_by]? = some ⟨2, 4, true, b_power_by⟩ := rfl
theorem tf_exchange_of : tab.fns[f_exchange_of]? = some ⟨3, 4, true, b_exchange_of⟩ := rfl
theorem tf_ring_at : tab.fns[f_ring_at]? = some ⟨2, 3, true, b_ring_at⟩ := rfl
theorem tf_rings_by : tab.fns[f_rings_by]? = some ⟨1, 4, true, b_rings_by⟩ := rfl
theorem tf_kind_by : tab.fns[f_kind_by]? = some ⟨1, 2, true, b_kind_by⟩ := rfl
theorem tf_sign_by : tab.fns[f_sign_by]? = some ⟨1, 1, true, b_sign_by⟩ := rfl
theorem tf_round_by : tab.fns[f_round_by]? = some ⟨1, 2, true, b_round_by⟩ := rfl
theorem tf_fewest_by : tab.fns[f_fewest_by]? = some ⟨1, 1, true, b_fewest_by⟩ := rfl
theorem tf_kind_of : tab.fns[f_kind_of]? = some ⟨2, 2, true, b_kind_of⟩ := rfl
theorem tf_sign : tab.fns[f_sign]? = some ⟨2, 2, true, b_sign⟩ := rfl
theorem tf_round_of : tab.fns[f_round_of]? = some ⟨2, 2, true, b_round_of⟩ := rfl
theorem tf_fewest_exchanges : tab.fns[f_fewest_exchanges]? = some ⟨2, 2, true, b_fewest_exchanges⟩ := rfl
theorem tf_has_form : tab.fns[f_has_form]? = some ⟨1, 1, true, b_has_form⟩ := rfl
theorem tf_check_exchange : tab.fns[f_check_exchange]? = some ⟨2, 2, true, b_check_exchange⟩ := rfl
theorem tf_check_deed : tab.fns[f_check_deed]? = some ⟨2, 2, true, b_check_deed⟩ := rfl
theorem tf_reason_against : tab.fns[f_reason_against]? = some ⟨2, 2, true, b_reason_against⟩ := rfl
theorem tf_turn_behind : tab.fns[f_turn_behind]? = some ⟨2, 2, true, b_turn_behind⟩ := rfl
theorem tf_check_bench : tab.fns[f_check_bench]? = some ⟨1, 1, false, b_check_bench⟩ := rfl
theorem tf_copy_of : tab.fns[f_copy_of]? = some ⟨1, 3, false, b_copy_of⟩ := rfl
theorem tf_row_of : tab.fns[f_row_of]? = some ⟨1, 4, true, b_row_of⟩ := rfl
theorem tf_ring_in : tab.fns[f_ring_in]? = some ⟨2, 4, true, b_ring_in⟩ := rfl
theorem tf_turn_of_rings : tab.fns[f_turn_of_rings]? = some ⟨2, 6, true, b_turn_of_rings⟩ := rfl
theorem tf_turn_in : tab.fns[f_turn_in]? = some ⟨2, 8, true, b_turn_in⟩ := rfl
theorem tf_turn_text : tab.fns[f_turn_text]? = some ⟨2, 2, true, b_turn_text⟩ := rfl
theorem tf_said_of_deed : tab.fns[f_said_of_deed]? = some ⟨2, 3, false, b_said_of_deed⟩ := rfl
theorem tf_said_of_undo : tab.fns[f_said_of_undo]? = some ⟨1, 1, false, b_said_of_undo⟩ := rfl
theorem tf_said_of_word : tab.fns[f_said_of_word]? = some ⟨2, 3, false, b_said_of_word⟩ := rfl
theorem tf_said_of_number : tab.fns[f_said_of_number]? = some ⟨2, 2, false, b_said_of_number⟩ := rfl
theorem tf_law_pool : tab.fns[f_law_pool]? = some ⟨2, 6, false, b_law_pool⟩ := rfl
theorem tf_law_take : tab.fns[f_law_take]? = some ⟨2, 4, false, b_law_take⟩ := rfl
theorem tf_law_of : tab.fns[f_law_of]? = some ⟨2, 2, false, b_law_of⟩ := rfl
theorem tf_law_turns : tab.fns[f_law_turns]? = some ⟨1, 6, true, b_law_turns⟩ := rfl
theorem tf_law_rings : tab.fns[f_law_rings]? = some ⟨1, 6, true, b_law_rings⟩ := rfl
theorem tf_law_deed : tab.fns[f_law_deed]? = some ⟨2, 4, false, b_law_deed⟩ := rfl
theorem tf_law_text : tab.fns[f_law_text]? = some ⟨1, 5, true, b_law_text⟩ := rfl
theorem tf_law_said : tab.fns[f_law_said]? = some ⟨1, 2, true, b_law_said⟩ := rfl
theorem tf_law_shown : tab.fns[f_law_shown]? = some ⟨1, 3, false, b_law_shown⟩ := rfl
theorem tf_law_right : tab.fns[f_law_right]? = some ⟨2, 10, false, b_law_right⟩ := rfl
theorem tf_law : tab.fns[f_law]? = some ⟨1, 4, false, b_law⟩ := rfl
theorem tf_Bench_init__ : tab.fns[f_Bench_init__]? = some ⟨2, 2, false, b_Bench_init__⟩ := rfl
theorem tf_Bench_do : tab.fns[f_Bench_do]? = some ⟨2, 3, false, b_Bench_do⟩ := rfl
theorem tf_Bench_undo : tab.fns[f_Bench_undo]? = some ⟨1, 1, false, b_Bench_undo⟩ := rfl
theorem tf_Bench_rings : tab.fns[f_Bench_rings]? = some ⟨1, 1, false, b_Bench_rings⟩ := rfl
theorem tf_Bench_is_stay : tab.fns[f_Bench_is_stay]? = some ⟨1, 1, false, b_Bench_is_stay⟩ := rfl
theorem tf_Bench_eq__ : tab.fns[f_Bench_eq__]? = some ⟨2, 2, false, b_Bench_eq__⟩ := rfl
theorem tf_Console_init__ : tab.fns[f_Console_init__]? = some ⟨2, 2, false, b_Console_init__⟩ := rfl
theorem tf_Console_say : tab.fns[f_Console_say]? = some ⟨2, 4, false, b_Console_say⟩ := rfl
end Ev

set_option linter.all false
set_option maxRecDepth 100000
namespace Ev.Pl
structure Pool where
  (a b c : Int)
def pcell (p : Pool) : Cell := .lst [.int p.a, .int p.b, .int p.c]
def tk2 (p : Pool) : Int := (p.b + 28657 * (p.c + 1)) % 2147483399
def tk3 (p : Pool) : Int := (tk2 p * (tk2 p % 5003 + 48271) + 17 * (p.c + 1)) % 2147483399
def tkI (p : Pool) (m : Int) : Int := if 0 < p.a then p.a % m else tk3 p / 613 % m
def tp (p : Pool) (m : Nat) : Pool := if 0 < p.a then ⟨p.a / m, p.b, p.c⟩ else ⟨p.a, tk3 p, p.c + 1⟩
def tk (p : Pool) (m : Nat) : Nat := (tkI p m).toNat
theorem tkI_lt {p : Pool} {m : Int} (h : 0 < m) : 0 ≤ tkI p m ∧ tkI p m < m := by
  unfold tkI
  split
  · exact ⟨Int.emod_nonneg _ (by omega), Int.emod_lt_of_pos _ h⟩
  · exact ⟨Int.emod_nonneg _ (by omega), Int.emod_lt_of_pos _ h⟩
theorem tk_lt {p : Pool} {m : Nat} (h : 0 < m) : tk p m < m := by
  have := tkI_lt (p := p) (m := m) (by omega)
  unfold tk
  omega
theorem tk_eq {p : Pool} {m : Nat} (h : 0 < m) : tkI p m = (tk p m : Int) := by
  have := tkI_lt (p := p) (m := m) (by omega)
  unfold tk
  omega
theorem take_ok {n : Nat} {h : Hd} {l : Nat} {p : Pool} {m : Nat} (hl : h[l]? = some (pcell p)) (h0 : 0 < m) (h1 : m < 1073741824) : callN tab (n + 1) f_law_take [.loc l, iD m] h = some (.ok (iD (tk p m)), h.set l (pcell (tp p m))) := by
  have hl' : h[l]? = some (.lst [.int p.a, .int p.b, .int p.c]) := hl
  have h0' : (0 : Int) < (m : Int) := by omega
  have h1' : (m : Int) < 1073741824 := by omega
  refine callN_im tf_law_take rfl ?_
  have z0 : ∀ {h : Hd} {xs : List D} {v : D}, h[l]? = some (.lst xs) → 0 < xs.length → setSD (.loc l) (.int 0) v h = some (.ok (), h.set l (.lst (xs.set 0 v))) := fun e => sets_loc (k := 0) e
  have z1 : ∀ {h : Hd} {xs : List D} {v : D}, h[l]? = some (.lst xs) → 1 < xs.length → setSD (.loc l) (.int 1) v h = some (.ok (), h.set l (.lst (xs.set 1 v))) := fun e => sets_loc (k := 1) e
  have z2 : ∀ {h : Hd} {xs : List D} {v : D}, h[l]? = some (.lst xs) → 2 < xs.length → setSD (.loc l) (.int 2) v h = some (.ok (), h.set l (.lst (xs.set 2 v))) := fun e => sets_loc (k := 2) e
  have et := tk_eq (p := p) h0
  show _ = some (Rr.ok (D.int (tk p m : Int)), _)
  rw [← et]
  by_cases hp : 0 < p.a
  · simp [b_law_take, sub_loc hl', hp, bi_divmod h0' h1', z0 hl', tkI, tp, pcell]
  · have s1 : 0 ≤ tk2 p ∧ tk2 p < 2147483399 := ⟨Int.emod_nonneg _ (by omega), Int.emod_lt_of_pos _ (by omega)⟩
    have q1 : ∀ x, binD .mul (.int 28657) (.int x) = some (.int (28657 * x)) := fun x => bin_mul_i (by simp [small])
    have q2 : ∀ x, binD .mul (.int 17) (.int x) = some (.int (17 * x)) := fun x => bin_mul_i (by simp [small])
    have q3 : ∀ x, binD .mul (.int (tk2 p)) (.int x) = some (.int (tk2 p * x)) := fun x => bin_mul_i (by simp [small]; omega)
    have e2 : (p.b + 28657 * (p.c + 1)) % 2147483399 = tk2 p := rfl
    have hs : ∀ {h : Hd} {xs : List D} {i : Int}, h[l]? = some (.lst xs) → subD h (.loc l) (.int i) = atI xs i := fun e => sub_loc e
    have h0'' : 0 < m := h0
    simp [b_law_take, hs hl', hp, z2 hl', tkI, tp, pcell, q1, q2, hl', hs, z1, bin_mod_i, bin_fdiv_i, h0', h0'', e2, q3, tk3, set_same]
/-- the pool of a script -/
theorem pool_ok {n : Nat} {h : Hd} {ns : List Int} {k : Nat} : ∃ p, callN tab (n + 1) f_law_pool [.ro (ns.map .int), iD k] h = some (.ok (.loc h.length), h ++ [pcell p]) := by
  have cm : ∀ (a b : Option Int), cut (ns.map D.int) a b = (cut ns a b).map D.int := fun a b => by simp [cut, List.map_take, List.map_drop]
  have sl : ∀ (h : Hd) (a b : Option Int), slcD h (.ro (ns.map D.int)) a b = some (.lst ((cut ns a b).map D.int)) := fun h a b => by
    rw [← cm]; rfl
  have q1 : ∀ x, binD .mul (.int 977) (.int x) = some (.int (977 * x)) := fun x => bin_mul_i (by simp [small])
  have q2 : ∀ x, binD .mul (.int x) (.int 48271) = some (.int (x * 48271)) := fun x => bin_mul_i (by simp [small])
  have q3 : ∀ x, binD .mul (.int x) (.int 19) = some (.int (x * 19)) := fun x => bin_mul_i (by simp [small])
  have w1 : binD .pow (.int 10) (.int 64) = some (.int (10 ^ 64)) := bin_pow (by decide) (by decide) (by decide)
  have w0 : binD .pow (.int 10) (.int 18) = some (.int (10 ^ 18)) := bin_pow (by decide) (by decide) (by decide)
  have w2 : binD .mul (.int (10 ^ 64)) (.int (10 ^ 64)) = some (.int (10 ^ 64 * 10 ^ 64)) := bin_mul_l (by decide +kernel)
  have w3 : binD .mul (.int (10 ^ 64 * 10 ^ 64)) (.int (10 ^ 64)) = some (.int (10 ^ 64 * 10 ^ 64 * 10 ^ 64)) := bin_mul_l (by decide +kernel)
  have w4 : binD .mul (.int (10 ^ 64 * 10 ^ 64 * 10 ^ 64)) (.int (10 ^ 64)) = some (.int (10 ^ 64 * 10 ^ 64 * 10 ^ 64 * 10 ^ 64)) := bin_mul_l (by decide +kernel)
  have w5 : binD .mul (.int (10 ^ 64 * 10 ^ 64 * 10 ^ 64 * 10 ^ 64)) (.int (10 ^ 64)) = some (.int (10 ^ 64 * 10 ^ 64 * 10 ^ 64 * 10 ^ 64 * 10 ^ 64)) := bin_mul_l (by decide +kernel)
  have w6 : binD .mul (.int (10 ^ 64 * 10 ^ 64 * 10 ^ 64 * 10 ^ 64 * 10 ^ 64)) (.int (10 ^ 64)) = some (.int (10 ^ 64 * 10 ^ 64 * 10 ^ 64 * 10 ^ 64 * 10 ^ 64 * 10 ^ 64)) := bin_mul_l (by decide +kernel)
  have wp : (0 : Int) < 10 ^ 64 * 10 ^ 64 * 10 ^ 64 * 10 ^ 64 * 10 ^ 64 * 10 ^ 64 := by decide +kernel
  generalize (10 : Int) ^ 64 * 10 ^ 64 * 10 ^ 64 * 10 ^ 64 * 10 ^ 64 * 10 ^ 64 = W6 at w6 wp
  generalize (10 : Int) ^ 64 * 10 ^ 64 * 10 ^ 64 * 10 ^ 64 * 10 ^ 64 = W5 at w5 w6
  generalize (10 : Int) ^ 64 * 10 ^ 64 * 10 ^ 64 * 10 ^ 64 = W4 at w4 w5
  generalize (10 : Int) ^ 64 * 10 ^ 64 * 10 ^ 64 = W3 at w3 w4
  generalize (10 : Int) ^ 64 * 10 ^ 64 = W2 at w2 w3
  generalize (10 : Int) ^ 64 = W1 at w1 w2 w3 w4 w5 w6
  generalize (10 : Int) ^ 18 = Y at w0
  let cell : Int := (cut ns (some (k : Int)) (some ((k : Int) + 1))).sum
  obtain ⟨σ', h', e1, eh, ee, mm, es⟩ := forB_inv (C := cf tab n) (g := .nm 3) (b := l_law_pool_1)
    (fun j σ h' => h' = h ∧ ∃ (e : Option D) (m : Int), σ = [some (.ro (ns.map .int)), some (iD k), some (.int W6), e, some (.int cell), some (.int m)]) (xs := (cut ns none (some 12)).map D.int)
    (σ := [some (.ro (ns.map .int)), some (iD k), some (.int W6), none, some (.int cell), some (.int (50021 + 977 * k))]) (h := h) ⟨rfl, none, _, rfl⟩ (by
      intro j x σ h1 hx ⟨eh, e, m, es⟩
      subst eh es
      rw [List.getElem?_map] at hx
      cases hz : (cut ns none (some 12))[j]? with
      | none => rw [hz] at hx; cases hx
      | some z =>
        rw [hz] at hx
        cases hx
        refine ⟨_, _, ?_, rfl, some (.int z), (m * 48271 + z % 2147483399 * 19 + 7) % 2147483399, rfl⟩
        simp [l_law_pool_1, q2, q3, bin_mod_i])
  subst eh es
  refine ⟨⟨if cell < 0 ∨ Y ≤ cell then (if cell < 0 then -cell else cell) % W6 else 0, mm, 0⟩, ?_⟩
  refine callN_im tf_law_pool rfl ?_
  have es : ∀ h, biD .sum h [.lst ((cut ns (some (k : Int)) (some ((k : Int) + 1))).map D.int)] = some (.int cell) := fun h => bi_sum allI_int rfl
  by_cases c1 : cell < 0
  · simp [b_law_pool, sl, es, q1, setAll, w1, w2, w3, w4, w5, w6, e1, c1, bin_mod_i wp, pcell, szL]
  · by_cases c2 : Y ≤ cell
    · simp [b_law_pool, sl, es, q1, setAll, w1, w2, w3, w4, w5, w6, e1, c1, c2, w0, bin_mod_i wp, pcell, szL]
    · simp [b_law_pool, sl, es, q1, setAll, w1, w2, w3, w4, w5, w6, e1, c1, c2, w0, bin_mod_i wp, pcell, szL]
end Ev.Pl

set_option linter.all false
set_option maxRecDepth 100000
namespace Ev.Pl
/-! ### turns -/
theorem then_ok {f : Nat} (hF : tab.fns[f]? = some ⟨2, 3, true, b_then_by⟩) {s n : Nat} {h : Hd} {t u : List Nat} (hs : s < 1000) (ht : Vt s t) (hu : Vt s u) : callN tab (n + 1) f [tD t, tD u] h = some (.ok (tD (thenL t u)), h) := by
  refine callN_pu hF rfl (by simp [pureDs]) (h' := []) ?_ (by simp)
  have e1 : compB (cf tab n) [2] (.nm 2) .tt e_then_by_1 [some (tD t), some (tD u), none] (t.map iD) [] = some (t.map fun i => iD (u.getD i 0), []) := compB_map fun i hi => by
    have hl : i < u.length := by rw [hu.len]; exact ht.lt i hi
    have e2 : atI (u.map iD) (i : Int) = some (iD (u.getD i 0)) := by
      rw [at_nat, List.getElem?_map, List.getElem?_eq_getElem hl, List.getD_eq_getElem?_getD, List.getElem?_eq_getElem hl]; rfl
    simp [e_then_by_1, e2, tD]
  have hl : t.length ≤ szL := le_szL (by rw [ht.len]; omega)
  unfold tD at e1
  simp [b_then_by, tD, e1, hl, thenL, Function.comp_def]
theorem back_ok {f : Nat} (hF : tab.fns[f]? = some ⟨1, 2, true, b_back_by⟩) {s n : Nat} {h : Hd} {t : List Nat} (hs : s < 1000) (ht : Vt s t) : callN tab (n + 1) f [tD t] h = some (.ok (tD (backL t)), h) := by
  refine callN_pu hF rfl (by simp [pureDs]) (h' := []) ?_ (by simp)
  have e1 : compB (cf tab n) [1] (.nm 1) .tt e_back_by_1 [some (tD t), none] ((List.range t.length).map iD) [] = some ((List.range t.length).map fun i => iD (t.idxOf i), []) := compB_map fun i hi => by
    have hm : i ∈ t := ht.sur i (by rw [List.mem_range, ht.len] at hi; exact hi)
    have := mb_index (h := []) hm
    unfold tD at this
    simp [e_back_by_1, tD, this]
  have hl : t.length ≤ szL := le_szL (by rw [ht.len]; omega)
  have hr : rngD [iD t.length] = some ((List.range t.length).map iD) := rngD_nat (by rw [ht.len]; omega)
  unfold tD at e1
  simp [b_back_by, tD, e1, hl, hr, backL, Function.comp_def]
theorem stay_ok {n s : Nat} {h : Hd} (hs : s < 1000) : callN tab (n + 1) f_stay_of [iD s] h = some (.ok (tD (stayL s)), h) := by
  refine callN_pu tf_stay_of rfl (by simp [pureDs, pureD]) (h' := []) ?_ (by simp)
  have e1 : compB (cf tab n) [1] (.nm 1) .tt e_stay_of_1 [some (iD s), none] ((List.range s).map iD) [] = some ((List.range s).map iD, []) := compB_map fun i hi => by
    simp [e_stay_of_1]
  have hl : s ≤ szL := le_szL (by omega)
  have hr : rngD [iD s] = some ((List.range s).map iD) := rngD_nat (by omega)
  simp [b_stay_of, tD, e1, hl, hr, stayL]
theorem swap_ok {n s i j : Nat} {h : Hd} (hs : s < 1000) (hi : i < s) (hj : j < s) : callN tab (n + 2) f_exchange_of [iD s, iD i, iD j] h = some (.ok (tD (swapL s i j)), h) := by
  refine callN_pu tf_exchange_of rfl (by simp [pureDs, pureD]) (h' := [.lst ((swapL s i j).map iD)]) ?_ (by simp)
  have g1 : (stayL s).length = s := by simp [stayL]
  have z1 : ∀ (xs : List D) (v : D), i < xs.length → setSD (.loc 0) (iD i) v [.lst xs] = some (.ok (), [.lst (xs.set i v)]) := fun xs v hk => sets_loc (n := 0) rfl hk
  have z2 : ∀ (xs : List D) (v : D), j < xs.length → setSD (.loc 0) (iD j) v [.lst xs] = some (.ok (), [.lst (xs.set j v)]) := fun xs v hk => sets_loc (n := 0) rfl hk
  have e3 : ∀ xs, seqD [.lst xs] (.loc 0) = some xs := fun xs => rfl
  simp [b_exchange_of, stay_ok hs]
  simp [tD, z1, z2, g1, hi, hj, e3, swapL, stayL]
end Ev.Pl

set_option linter.all false
set_option maxRecDepth 100000
namespace Ev.Pl
/-! ### what may stand there -/
@[simp] theorem isiT1 : isiT .int .int = true := nr rfl
@[simp] theorem isiT2 : isiT .bool .int = false := nr rfl
@[simp] theorem isiT3 : isiT .str .str = true := nr rfl
@[simp] theorem isiT4 : isiT .tuple .tup = true := nr rfl
theorem whole_ok {n : Nat} {h : Hd} {i : Int} : callN tab (n + 1) f_is_whole [.int i] h = some (.ok (.bl true), h) := by
  refine callN_pu tf_is_whole rfl (by simp [pureDs, pureD]) (h' := []) ?_ (by simp [pureD])
  simp [b_is_whole]
theorem between_ok {n : Nat} {h : Hd} {i a b : Int} : callN tab (n + 2) f_is_between [.int i, .int a, .int b] h = some (.ok (.bl (decide (a ≤ i ∧ i ≤ b))), h) := by
  refine callN_pu tf_is_between rfl (by simp [pureDs, pureD]) (h' := []) ?_ (by simp [pureD])
  by_cases h1 : a ≤ i
  · simp [b_is_between, whole_ok, h1]
  · simp [b_is_between, whole_ok, h1]
theorem seats_ok {n : Nat} {h : Hd} {s : Nat} (hs : s ∈ [2, 3, 4, 5]) : callN tab (n + 4) f_check_seats [iD s] h = some (.ok .non, h) := by
  have e1 : callN tab (n + 3) f_is_seats [iD s] [] = some (.ok (.bl true), []) := by
    refine callN_pu tf_is_seats rfl (by simp [pureDs, pureD]) (h' := []) ?_ (by simp [pureD])
    have h2 : 2 ≤ s ∧ s ≤ 5 := by simp at hs; omega
    have h3 : (2 : Int) ≤ s ∧ (s : Int) ≤ 5 := by omega
    simp [b_is_seats, between_ok, h3]
  refine callN_pu tf_check_seats rfl (by simp [pureDs, pureD]) (h' := []) ?_ (by simp [pureD])
  simp [b_check_seats, e1]
theorem seat_ok {n : Nat} {h : Hd} {s i : Nat} (hi : i < s) : callN tab (n + 3) f_is_seat [iD s, iD i] h = some (.ok (.bl true), h) := by
  refine callN_pu tf_is_seat rfl (by simp [pureDs, pureD]) (h' := []) ?_ (by simp [pureD])
  have h3 : (0 : Int) ≤ i ∧ (i : Int) ≤ (s : Int) - 1 := by omega
  simp [b_is_seat, between_ok, h3]
theorem turn_ok {n : Nat} {h : Hd} {s : Nat} {t : List Nat} (hs : s ∈ [2, 3, 4, 5]) (ht : t ∈ turnsL s) : callN tab (n + 6) f_is_turn [iD s, tD t] h = some (.ok (.bl true), h) := by
  have key : ([2, 3, 4, 5].all fun s => (turnsL s).all fun t => isOk (.bl true) (callN tab 6 f_is_turn [iD s, tD t] [])) = true := by decide +kernel
  exact tab_ok tf_is_turn rfl (List.all_eq_true.mp (List.all_eq_true.mp key s hs) t ht) n h
/-! ### deeds -/
inductive Deed where
  | back | exch (i j : Nat) | thn (t : List Nat)
abbrev S_back : Nm := [98, 97, 99, 107]
abbrev S_exch : Nm := [101, 120, 99, 104, 97, 110, 103, 101]
abbrev S_then : Nm := [116, 104, 101, 110]
abbrev S_stay : Nm := [115, 116, 97, 121]
abbrev S_mirror : Nm := [109, 105, 114, 114, 111, 114]
abbrev S_done : Nm := [100, 111, 110, 101]
def dD : Deed → D
  | .back => .tup [.str S_back]
  | .exch i j => .tup [.str S_exch, iD i, iD j]
  | .thn t => .tup [.str S_then, tD t]
@[simp] theorem dD_back : dD .back = .tup [.str S_back] := nr rfl
@[simp] theorem dD_exch {i j : Nat} : dD (.exch i j) = .tup [.str S_exch, iD i, iD j] := nr rfl
@[simp] theorem dD_thn {t : List Nat} : dD (.thn t) = .tup [.str S_then, tD t] := nr rfl
@[simp] theorem pure_dD {d : Deed} : pureD (dD d) = true := by cases d <;> simp [pureD, pureDs]
def Deed.ok (s : Nat) : Deed → Prop
  | .back => True
  | .exch i j => i < s ∧ j < s ∧ i ≠ j
  | .thn t => t ∈ turnsL s
theorem eqS (u v : Nm) (h1 : okS u = true) (h2 : okS v = true) : eqD (.str u) (.str v) = some (u == v) := eqD_str h1 h2
theorem form_ok {n : Nat} {h : Hd} {d : Deed} : callN tab (n + 2) f_has_form [dD d] h = some (.ok (.bl true), h) := by
  have e0 : ∀ (h : Hd) (s : Nm), callN tab (n + 1) f_is_string [.str s] h = some (.ok (.bl true), h) := fun h s => by
    refine callN_pu tf_is_string rfl (by simp [pureDs, pureD]) (h' := []) ?_ (by simp [pureD])
    simp [b_is_string]
  have d1 : tab.dct 0 S_then = some (some (.int 2)) := rfl
  have d2 : tab.dct 0 S_exch = some (some (.int 3)) := rfl
  have d3 : tab.dct 0 S_back = some (some (.int 1)) := rfl
  refine callN_pu tf_has_form rfl (by simp [pureDs]) (h' := []) ?_ (by simp [pureD])
  cases d with
  | back => simp [b_has_form, e0, d3]
  | exch i j => simp [b_has_form, e0, d2]
  | thn t => simp [b_has_form, e0, d1]
theorem deed_ok {n s : Nat} {h : Hd} {d : Deed} (hs : s ∈ [2, 3, 4, 5]) (hd : d.ok s) : callN tab (n + 7) f_check_deed [iD s, dD d] h = some (.ok .non, h) := by
  refine callN_pu tf_check_deed rfl (by simp [pureDs, pureD]) (h' := []) ?_ (by simp [pureD])
  have e1 : ∀ h d, callN tab (n + 6) f_has_form [dD d] h = some (.ok (.bl true), h) := fun h d => form_ok
  cases d with
  | back =>
    have e := e1 [] .back
    simp at e
    simp [b_check_deed, e, eqD_str, okS]
  | exch i j =>
    obtain ⟨hi, hj, hn⟩ := hd
    have e := e1 [] (.exch i j)
    simp at e
    have e2 : callN tab (n + 6) f_check_exchange [iD s, .tup [.str S_exch, iD i, iD j]] [] = some (.ok .non, []) := by
      refine callN_pu tf_check_exchange rfl (by simp [pureDs, pureD]) (h' := []) ?_ (by simp [pureD])
      have e3 : callN tab (n + 5) f_is_seat [iD s, iD i] [] = some (.ok (.bl true), []) := seat_ok hi
      have e4 : callN tab (n + 5) f_is_seat [iD s, iD j] [] = some (.ok (.bl true), []) := seat_ok hj
      have e5 : ¬ (j : Int) = (i : Int) := by omega
      simp [b_check_exchange, e3, e4, e5]
    simp [b_check_deed, e, eqD_str, okS, e2]
  | thn t =>
    have e := e1 [] (.thn t)
    simp at e
    have e2 : callN tab (n + 6) f_is_turn [iD s, tD t] [] = some (.ok (.bl true), []) := turn_ok hs hd
    simp [b_check_deed, e, eqD_str, okS, e2]
/-- what comes of a deed: the reason against it, or the turn behind -/
def reason (t : List Nat) : Deed → Option Nm
  | .back => if backL t = t then some S_mirror else none
  | .exch _ _ => none
  | .thn u => if u = stayL t.length then some S_stay else none
def behind (t : List Nat) : Deed → List Nat
  | .back => backL t
  | .exch i j => thenL t (swapL t.length i j)
  | .thn u => thenL t u
def rD : Option Nm → D
  | none => .non
  | some s => .str s
theorem reason_ok {n s : Nat} {h : Hd} {t : List Nat} {d : Deed} (hs : s < 1000) (ht : Vt s t) : callN tab (n + 2) f_reason_against [tD t, dD d] h = some (.ok (rD (reason t d)), h) := by
  refine callN_pu tf_reason_against rfl (by simp [pureDs]) (h' := []) ?_ (by cases reason t d <;> rfl)
  have hl : t.length = s := ht.len
  have eb : callN tab (n + 1) f_back_by [tD t] [] = some (.ok (tD (backL t)), []) := back_ok tf_back_by hs ht
  have es : callN tab (n + 1) f_stay_of [iD t.length] [] = some (.ok (tD (stayL t.length)), []) := stay_ok (by rw [hl]; exact hs)
  have elen : lenK (tD t) = some (iD t.length) := by simp [tD]
  have esee : ∀ h t, see h (tD t) = tD t := fun h t => rfl
  cases d with
  | back =>
    by_cases e : backL t = t
    · simp [b_reason_against, eqD_str, okS, eb, esee, reason, e, rD]
    · simp [b_reason_against, eqD_str, okS, eb, esee, reason, e, rD]
  | exch i j => simp [b_reason_against, eqD_str, okS, reason, rD]
  | thn u =>
    by_cases e : u = stayL t.length
    · simp [b_reason_against, eqD_str, okS, es, esee, elen, reason, e, rD]
    · simp [b_reason_against, eqD_str, okS, es, esee, elen, reason, e, rD]
theorem behind_ok {n s : Nat} {h : Hd} {t : List Nat} {d : Deed} (hs : s ∈ [2, 3, 4, 5]) (ht : Vt s t) (hd : d.ok s) : callN tab (n + 3) f_turn_behind [tD t, dD d] h = some (.ok (tD (behind t d)), h) := by
  refine callN_pu tf_turn_behind rfl (by simp [pureDs]) (h' := []) ?_ (by simp)
  have hs' : s < 1000 := by simp at hs; omega
  have hl : t.length = s := ht.len
  have elen : lenK (tD t) = some (iD t.length) := by simp [tD]
  have esee : ∀ h t, see h (tD t) = tD t := fun h t => rfl
  cases d with
  | back =>
    have eb : callN tab (n + 2) f_back_by [tD t] [] = some (.ok (tD (backL t)), []) := back_ok tf_back_by hs' ht
    simp [b_turn_behind, eqD_str, okS, eb, behind]
  | exch i j =>
    obtain ⟨hi, hj, hn⟩ := hd
    have e1 : callN tab (n + 2) f_exchange_of [iD t.length, iD i, iD j] [] = some (.ok (tD (swapL t.length i j)), []) := by rw [hl]; exact swap_ok hs' hi hj
    have e2 : callN tab (n + 2) f_then_by [tD t, tD (swapL t.length i j)] [] = some (.ok (tD (thenL t (swapL t.length i j))), []) := then_ok tf_then_by hs' ht (by rw [hl]; exact vt_swap hs hi hj hn)
    simp [b_turn_behind, eqD_str, okS, e1, e2, esee, elen, behind]
  | thn u =>
    have e2 : callN tab (n + 2) f_then_by [tD t, tD u] [] = some (.ok (tD (thenL t u)), []) := then_ok tf_then_by hs' ht (vt_turns hs u hd)
    simp [b_turn_behind, eqD_str, okS, e2, esee, behind]
theorem vt_behind {s : Nat} {t : List Nat} {d : Deed} (hs : s ∈ [2, 3, 4, 5]) (ht : Vt s t) (hd : d.ok s) : Vt s (behind t d) := by
  cases d with
  | back => exact vt_back ht
  | exch i j => exact vt_then ht (by rw [ht.len]; exact vt_swap hs hd.1 hd.2.1 hd.2.2)
  | thn u => exact vt_then ht (vt_turns hs u hd)
end Ev.Pl

set_option linter.all false
set_option maxRecDepth 100000
namespace Ev.Pl
/-! ### lines that a console is told -/
def dsL (s : Nat) : List Deed := .back :: ((List.range s).flatMap fun i => ((List.range s).filter fun j => i != j).map fun j => .exch i j) ++ (turnsL s).map .thn
/-- a deed's line -/
def saidN (d : Deed) : Nm := match callN tab 10 f_law_said [dD d] [] with
  | some (.ok (.str u), _) => u
  | _ => []
def strsD : List D → List Nm
  | [] => []
  | .str u :: r => u :: strsD r
  | _ :: r => strsD r
def wordsN (d : Deed) : List Nm := match callN tab 10 f_words_of [.str (saidN d)] [] with
  | some (.ok (.lst us), _) => strsD us
  | _ => []
def headN : Deed → Nm
  | .back => S_back
  | .exch _ _ => S_exch
  | .thn _ => S_then
def lineB (s : Nat) (d : Deed) : Bool := isOk (.str (saidN d)) (callN tab 10 f_law_said [dD d] []) && isOk (.lst (D.str (headN d) :: (wordsN d).tail.map .str)) (callN tab 10 f_words_of [.str (saidN d)] []) && okS (saidN d) && (wordsN d).all okS && decide ((wordsN d).length < 100) && decide (((wordsN d).tail.map List.length).sum < 1000) && match d with
  | .back => decide ((wordsN d).tail = [])
  | .exch i j => isOk (.tup [iD i, iD j]) (callN tab 10 f_numbers_in [.lst ((wordsN d).tail.map .str)] [])
  | .thn t => isOk (tD t) (callN tab 10 f_turn_in [iD s, .str (joinS [32] (wordsN d).tail)] [])
theorem lines2 : (dsL 2).all (lineB 2) = true := by decide +kernel
theorem lines3 : (dsL 3).all (lineB 3) = true := by decide +kernel
theorem lines4 : (dsL 4).all (lineB 4) = true := by decide +kernel
theorem lines5_0 : ((dsL 5).take 36).all (lineB 5) = true := by decide +kernel
theorem lines5_1 : (((dsL 5).drop 36).take 36).all (lineB 5) = true := by decide +kernel
theorem lines5_2 : (((dsL 5).drop (36 + 36)).take 36).all (lineB 5) = true := by decide +kernel
theorem lines5_3 : ((dsL 5).drop (36 + 36 + 36)).all (lineB 5) = true := by decide +kernel
theorem lines5 : (dsL 5).all (lineB 5) = true := all_cut4 36 lines5_0 lines5_1 lines5_2 lines5_3
end Ev.Pl

set_option linter.all false
set_option maxRecDepth 100000
namespace Ev.Pl
theorem mem_dsL {s : Nat} {d : Deed} (h : d.ok s) : d ∈ dsL s := by
  unfold dsL
  cases d with
  | back => simp
  | exch i j =>
    obtain ⟨hi, hj, hn⟩ := h
    refine List.mem_cons_of_mem _ (List.mem_append_left _ ?_)
    exact List.mem_flatMap.mpr ⟨i, List.mem_range.mpr hi, List.mem_map.mpr ⟨j, List.mem_filter.mpr ⟨List.mem_range.mpr hj, by simpa using hn⟩, rfl⟩⟩
  | thn t => exact List.mem_cons_of_mem _ (List.mem_append_right _ (List.mem_map.mpr ⟨t, h, rfl⟩))
theorem line_ok {s : Nat} {d : Deed} (hs : s ∈ [2, 3, 4, 5]) (h : d.ok s) : lineB s d = true := by
  have hm := mem_dsL h
  simp only [List.mem_cons, List.not_mem_nil, or_false] at hs
  rcases hs with rfl | rfl | rfl | rfl
  · exact List.all_eq_true.mp lines2 d hm
  · exact List.all_eq_true.mp lines3 d hm
  · exact List.all_eq_true.mp lines4 d hm
  · exact List.all_eq_true.mp lines5 d hm
/-- what the tables tell of a deed's line -/
structure LineOk (s : Nat) (d : Deed) : Prop where
  said : ∀ (n : Nat) (h : Hd), callN tab (n + 10) f_law_said [dD d] h = some (.ok (.str (saidN d)), h)
  words : ∀ (n : Nat) (h : Hd), callN tab (n + 10) f_words_of [.str (saidN d)] h = some (.ok (.lst (.str (headN d) :: (wordsN d).tail.map .str)), h)
  ok : okS (saidN d) = true
  len : (wordsN d).length < 100
  sum : ((wordsN d).tail.map List.length).sum < 1000
  back : d = .back → (wordsN d).tail = []
  exch : ∀ i j, d = .exch i j → ∀ (n : Nat) (h : Hd), callN tab (n + 10) f_numbers_in [.lst ((wordsN d).tail.map .str)] h = some (.ok (.tup [iD i, iD j]), h)
  thn : ∀ t, d = .thn t → ∀ (n : Nat) (h : Hd), callN tab (n + 10) f_turn_in [iD s, .str (joinS [32] (wordsN d).tail)] h = some (.ok (tD t), h)
theorem lineOk {s : Nat} {d : Deed} (hs : s ∈ [2, 3, 4, 5]) (h : d.ok s) : LineOk s d := by
  have e := line_ok hs h
  unfold lineB at e
  simp only [Bool.and_eq_true, decide_eq_true_eq] at e
  obtain ⟨⟨⟨⟨⟨⟨e1, e2⟩, e3⟩, e4⟩, e5⟩, e6⟩, e7⟩ := e
  refine ⟨fun n h => tab_ok tf_law_said rfl e1 n h, fun n h => tab_ok tf_words_of rfl e2 n h, e3, e5, e6, fun z => ?_, fun i j z n g => ?_, fun t z n g => ?_⟩
  · subst z; simpa using e7
  · subst z; exact tab_ok tf_numbers_in rfl e7 n g
  · subst z; exact tab_ok tf_turn_in rfl e7 n g
end Ev.Pl

set_option linter.all false
set_option maxRecDepth 100000
namespace Ev.Pl
/-! ### what the law draws -/
theorem turns_ok {n s : Nat} {h : Hd} (hs : s ∈ [2, 3, 4, 5]) : callN tab (n + 1) f_law_turns [iD s] h = some (.ok (.lst ((turnsL s).map tD)), h) := by
  have key : ([2, 3, 4, 5].all fun s => isOk (.lst ((turnsL s).map tD)) (callN tab 1 f_law_turns [iD s] [])) = true := by decide +kernel
  exact tab_ok tf_law_turns rfl (List.all_eq_true.mp key s hs) n h
theorem get_set {h : Hd} {l : Nat} {c e : Cell} (hl : h[l]? = some e) : (h.set l c)[l]? = some c := by rw [set_at, hl]; rfl
theorem of_ok {n : Nat} {h : Hd} {l : Nat} {p : Pool} {xs : List D} (hl : h[l]? = some (pcell p)) (h0 : 0 < xs.length) (h1 : xs.length < 1073741824) :
    callN tab (n + 2) f_law_of [.loc l, .lst xs] h = some (.ok (xs.getD (tk p xs.length) .non), h.set l (pcell (tp p xs.length))) := by
  refine callN_im tf_law_of rfl ?_
  have e1 : callN tab (n + 1) f_law_take [.loc l, iD xs.length] h = _ := take_ok hl h0 h1
  have e2 : xs[tk p xs.length]? = some (xs.getD (tk p xs.length) .non) := by
    have := tk_lt (p := p) h0
    rw [List.getD_eq_getElem?_getD, List.getElem?_eq_getElem this]; rfl
  generalize xs.getD (tk p xs.length) .non = v at e2 ⊢
  simp [b_law_of, e1, at_nat, e2]
theorem turns_len {s : Nat} (hs : s ∈ [2, 3, 4, 5]) : 0 < (turnsL s).length ∧ (turnsL s).length ≤ 120 := by
  have key : ([2, 3, 4, 5].all fun s => decide (0 < (turnsL s).length ∧ (turnsL s).length ≤ 120)) = true := by decide +kernel
  exact of_decide_eq_true (List.all_eq_true.mp key s hs)
def deedV (p : Pool) (s : Nat) : Deed :=
  if tk p 5 = 0 then .back
  else if tk p 5 < 3 then .exch (tk (tp p 5) s) ((tk (tp p 5) s + 1 + tk (tp (tp p 5) s) (s - 1)) % s)
  else .thn ((turnsL s).getD (tk (tp p 5) (turnsL s).length) [])
def deedP (p : Pool) (s : Nat) : Pool :=
  if tk p 5 = 0 then tp p 5
  else if tk p 5 < 3 then tp (tp (tp p 5) s) (s - 1)
  else tp (tp p 5) (turnsL s).length
theorem deedV_ok {p : Pool} {s : Nat} (hs : s ∈ [2, 3, 4, 5]) : (deedV p s).ok s := by
  have hs2 : 2 ≤ s ∧ s ≤ 5 := by simp at hs; omega
  unfold deedV
  split
  · trivial
  · split
    · have h1 := tk_lt (p := tp p 5) (m := s) (by omega)
      have h2 := tk_lt (p := tp (tp p 5) s) (m := s - 1) (by omega)
      refine ⟨h1, Nat.mod_lt _ (by omega), fun e => ?_⟩
      generalize tk (tp p 5) s = a at *
      generalize tk (tp (tp p 5) s) (s - 1) = b at *
      by_cases hlt : a + 1 + b < s
      · rw [Nat.mod_eq_of_lt hlt] at e; omega
      · have : (a + 1 + b) % s = a + 1 + b - s := by
          rw [Nat.mod_eq_sub_mod (by omega), Nat.mod_eq_of_lt (by omega)]
        omega
    · have h1 := tk_lt (p := tp p 5) (turns_len hs).1
      show (turnsL s).getD _ [] ∈ turnsL s
      rw [List.getD_eq_getElem?_getD, List.getElem?_eq_getElem h1]
      exact List.getElem_mem h1
theorem law_deed_ok {n s : Nat} {h : Hd} {l : Nat} {p : Pool} (hs : s ∈ [2, 3, 4, 5]) (hl : h[l]? = some (pcell p)) : callN tab (n + 3) f_law_deed [.loc l, iD s] h = some (.ok (dD (deedV p s)), h.set l (pcell (deedP p s))) := by
  have hs2 : 2 ≤ s ∧ s ≤ 5 := by simp at hs; omega
  refine callN_im tf_law_deed rfl ?_
  have t5 : callN tab (n + 2) f_law_take [.loc l, .int 5] h = some (.ok (iD (tk p 5)), h.set l (pcell (tp p 5))) := take_ok hl (by decide) (by decide)
  have hl2 : ∀ q : Pool, (h.set l (pcell q))[l]? = some (pcell q) := fun q => get_set hl
  by_cases c0 : tk p 5 = 0
  · simp [b_law_deed, t5, c0, deedV, deedP]
  · by_cases c3 : tk p 5 < 3
    · have c0' : ¬ (tk p 5 : Int) = 0 := by omega
      have c3' : (tk p 5 : Int) < 3 := by omega
      have ts : callN tab (n + 2) f_law_take [.loc l, iD s] (h.set l (pcell (tp p 5))) = some (.ok (iD (tk (tp p 5) s)), h.set l (pcell (tp (tp p 5) s))) := by
        have := take_ok (n := n + 1) (hl2 (tp p 5)) (show 0 < s by omega) (by omega)
        rw [set_same] at this
        exact this
      have ts1 : callN tab (n + 2) f_law_take [.loc l, .int ((s : Int) - 1)] (h.set l (pcell (tp (tp p 5) s))) = some (.ok (iD (tk (tp (tp p 5) s) (s - 1))), h.set l (pcell (tp (tp (tp p 5) s) (s - 1)))) := by
        have := take_ok (n := n + 1) (hl2 (tp (tp p 5) s)) (show 0 < s - 1 by omega) (by omega)
        rw [set_same] at this
        have e : ((s - 1 : Nat) : Int) = (s : Int) - 1 := by omega
        rw [← e]
        exact this
      have hp : (0 : Int) < s := by omega
      have em : ∀ x, binD .mod (.int x) (.int (s : Int)) = some (.int (x % s)) := fun x => bin_mod_i hp
      simp [b_law_deed, t5, c0, c0', c3, c3', ts, ts1, deedV, deedP, em]
    · have c0' : ¬ (tk p 5 : Int) = 0 := by omega
      have c3' : ¬ (tk p 5 : Int) < 3 := by omega
      have tt := turns_ok (n := n + 1) (h := h.set l (pcell (tp p 5))) hs
      have to := of_ok (n := n) (xs := (turnsL s).map tD) (hl2 (tp p 5)) (by rw [List.length_map]; exact (turns_len hs).1) (by rw [List.length_map]; have := (turns_len hs).2; omega)
      rw [set_same, List.length_map] at to
      have h1 := tk_lt (p := tp p 5) (turns_len hs).1
      have eg : ((turnsL s).map tD).getD (tk (tp p 5) (turnsL s).length) .non = tD ((turnsL s).getD (tk (tp p 5) (turnsL s).length) []) := by
        rw [List.getD_eq_getElem?_getD, List.getElem?_map, List.getD_eq_getElem?_getD, List.getElem?_eq_getElem h1]; rfl
      rw [eg] at to
      simp [b_law_deed, t5, c0, c0', c3, c3', tt, to, deedV, deedP]
/-! ### what the law says of a deed -/
def dueS (t : List Nat) (d : Deed) : Nm := (reason t d).getD S_done
def dueT (t : List Nat) (d : Deed) : List Nat := match reason t d with
  | none => behind t d
  | some _ => t
theorem vt_due {s : Nat} {t : List Nat} {d : Deed} (hs : s ∈ [2, 3, 4, 5]) (ht : Vt s t) (hd : d.ok s) : Vt s (dueT t d) := by
  unfold dueT
  cases reason t d with
  | none => exact vt_behind hs ht hd
  | some r => exact ht
end Ev.Pl

set_option linter.all false
set_option maxRecDepth 100000
namespace Ev.Pl
/-! ### benches -/
abbrev n_seats : Nm := [115, 101, 97, 116, 115]
abbrev n_turn : Nm := [116, 117, 114, 110]
abbrev n_deeds : Nm := [100, 101, 101, 100, 115]
abbrev n_past : Nm := [112, 97, 115, 116]
abbrev n_do : Nm := [100, 111]
abbrev n_reason : Nm := [114, 101, 97, 115, 111, 110]
def bc (s : Nat) (t : List Nat) (ds : List D) (q : Nat) : Cell := .ins c_Bench [(n_seats, iD s), (n_turn, tD t), (n_deeds, .tup ds), (n_past, .loc q)]
theorem set_last {h : Hd} {c e : Cell} : (h ++ [c]).set h.length e = h ++ [e] := by simp
section
variable {n s b q : Nat} {t t' : List Nat} {ds ds' ps : List D} {h : Hd}
theorem bf_seats (e : h[b]? = some (bc s t ds q)) : fldD (cf tab n) h (.loc b) n_seats = some (iD s) := by
  rw [fld_loc e (show (tab.flds c_Bench).contains n_seats = true by decide +kernel)]; rfl
theorem bf_turn (e : h[b]? = some (bc s t ds q)) : fldD (cf tab n) h (.loc b) n_turn = some (tD t) := by
  rw [fld_loc e (show (tab.flds c_Bench).contains n_turn = true by decide +kernel)]; rfl
theorem bf_deeds (e : h[b]? = some (bc s t ds q)) : fldD (cf tab n) h (.loc b) n_deeds = some (.tup ds) := by
  rw [fld_loc e (show (tab.flds c_Bench).contains n_deeds = true by decide +kernel)]; rfl
theorem bf_past (e : h[b]? = some (bc s t ds q)) : fldD (cf tab n) h (.loc b) n_past = some (.loc q) := by
  rw [fld_loc e (show (tab.flds c_Bench).contains n_past = true by decide +kernel)]; rfl
theorem bs_turn (e : h[b]? = some (bc s t ds q)) : setFD (cf tab n) (.loc b) n_turn (tD t') h = some (.ok (), h.set b (bc s t' ds q)) := by
  rw [setf_loc e (show (tab.flds c_Bench).contains n_turn = true by decide +kernel) (by simp)]; rfl
theorem bs_deeds (e : h[b]? = some (bc s t ds q)) : setFD (cf tab n) (.loc b) n_deeds (.tup ds') h = some (.ok (), h.set b (bc s t ds' q)) := by
  rw [setf_loc e (show (tab.flds c_Bench).contains n_deeds = true by decide +kernel) (by simp)]; rfl
theorem bi_do (e : h[b]? = some (bc s t ds q)) : isIns h (.loc b) c_Bench n_do = true := isIns_loc e rfl
/-- Bench(s) -/
theorem bench_mk (hs : s ∈ [2, 3, 4, 5]) : mkD (cf tab (n + 5)) c_Bench f_Bench_init__ [iD s] h = some (.ok (.loc h.length), h ++ [bc s (stayL s) [] (h.length + 1), .lst []]) := by
  have hs' : s < 1000 := by simp at hs; omega
  have key : callN tab (n + 5) f_Bench_init__ [.loc h.length, iD s] (h ++ [.ins c_Bench []]) = some (.ok .non, h ++ [bc s (stayL s) [] (h.length + 1), .lst []]) := by
    refine callN_im tf_Bench_init__ rfl ?_
    have e1 : ∀ h, callN tab (n + 4) f_check_seats [iD s] h = some (.ok .non, h) := fun h => seats_ok hs
    have e2 : ∀ h, callN tab (n + 4) f_stay_of [iD s] h = some (.ok (tD (stayL s)), h) := fun h => stay_ok hs'
    have z : ∀ (fs : Pl) (f : Nm) (v : D), (tab.flds c_Bench).contains f = true → fs.length < 100 → setFD (cf tab (n + 4)) (.loc h.length) f v (h ++ [.ins c_Bench fs]) = some (.ok (), h ++ [.ins c_Bench (putF f v fs)]) := fun fs f v hf hl => by
      rw [setf_loc (c := c_Bench) (fs := fs) push_at hf hl, set_last]
    have z1 := z [] n_seats (iD s) (by decide +kernel) (by simp)
    have z2 := z [(n_seats, iD s)] n_turn (tD (stayL s)) (by decide +kernel) (by simp)
    have z3 := z [(n_seats, iD s), (n_turn, tD (stayL s))] n_deeds (.tup []) (by decide +kernel) (by simp)
    have z4 : setFD (cf tab (n + 4)) (.loc h.length) n_past (.loc (h.length + 1)) (h ++ [.ins c_Bench [(n_seats, iD s), (n_turn, tD (stayL s)), (n_deeds, .tup [])], .lst []]) = some (.ok (), h ++ [bc s (stayL s) [] (h.length + 1), .lst []]) := by
      rw [setf_loc (c := c_Bench) (fs := [(n_seats, iD s), (n_turn, tD (stayL s)), (n_deeds, .tup [])]) (by simp) (show (tab.flds c_Bench).contains n_past = true by decide +kernel) (by simp)]
      simp [bc, putF]
    simp [putF] at z2 z3 z1
    simp [b_Bench_init__, e1, e2, z1, z2, z3, z4]
  rw [mk_at]
  simp only [cf_call, key]
  simp
/-- bench.do(d) -/
def doH (h : Hd) (b q s : Nat) (t : List Nat) (ds ps : List D) (d : Deed) : Hd := (h.set q (.lst (ps ++ [tD t]))).set b (bc s (behind t d) (ds ++ [dD d]) q)
theorem bench_do {d : Deed} (hs : s ∈ [2, 3, 4, 5]) (ht : Vt s t) (hd : d.ok s) (e : h[b]? = some (bc s t ds q)) (eq : h[q]? = some (.lst ps)) (hl : ds.length < 100000) (hp : ps.length < 100000) :
    callN tab (n + 8) f_Bench_do [.loc b, dD d] h = match reason t d with
      | some r => some (.ex c_Barred [(n_reason, .str r)], h)
      | none => some (.ok .non, doH h b q s t ds ps d) := by
  have hs' : s < 1000 := by simp at hs; omega
  refine callN_im tf_Bench_do rfl ?_
  have e1 : ∀ h, callN tab (n + 7) f_check_deed [iD s, dD d] h = some (.ok .non, h) := fun h => deed_ok hs hd
  have e2 : ∀ h, callN tab (n + 7) f_reason_against [tD t, dD d] h = some (.ok (rD (reason t d)), h) := fun h => reason_ok hs' ht
  have e3 : ∀ h, callN tab (n + 7) f_turn_behind [tD t, dD d] h = some (.ok (tD (behind t d)), h) := fun h => behind_ok hs ht hd
  have bq : q ≠ b := fun z => by subst z; rw [e] at eq; cases eq
  have ex : tab.exf c_Barred = [n_reason] := rfl
  generalize hx : reason t d = x at e2
  cases x with
  | some r => simp [b_Bench_do, bf_seats e, bf_turn e, e1, e2, rD, ex]
  | none =>
    have h1 : (h.set q (.lst (ps ++ [tD t])))[b]? = some (bc s t ds q) := by rw [set_off bq]; exact e
    have h2 : ((h.set q (.lst (ps ++ [tD t]))).set b (bc s (behind t d) ds q))[b]? = some (bc s (behind t d) ds q) := get_set h1
    have hl2 : ds.length + 1 ≤ szL := le_szL (by omega)
    simp [b_Bench_do, bf_seats e, bf_turn e, e1, e2, rD, bf_past e, tm_append eq, mb_append eq (lt_szL (by omega)), bf_turn h1, e3, bs_turn h1, bf_deeds h2, hl2, bs_deeds h2, set_same, doH]
end
/-! ### written out -/
/-- a value that repr writes plainly: at most k signs -/
structure Rp (k m : Nat) (x : D) (u : Nm) : Prop where
  e : reprD x = some u
  len : u.length ≤ k
  ok : okS u = true
  dp : dep x ≤ m
def Rpx (k m : Nat) (x : D) : Prop := ∃ u, Rp k m x u
theorem Rpx.mono {k m k' m' : Nat} {x : D} (h : Rpx k m x) (hk : k ≤ k') (hm : m ≤ m') : Rpx k' m' x := by
  obtain ⟨u, h⟩ := h
  exact ⟨u, h.e, Nat.le_trans h.len hk, h.ok, Nat.le_trans h.dp hm⟩
theorem okS_app {u v : Nm} : okS (u ++ v) = (okS u && okS v) := by simp [okS]
theorem okS_cons {c : Nat} {v : Nm} : okS (c :: v) = (decide (c < 1114112) && okS v) := by simp [okS]
theorem join_ok {sep : Nm} {k : Nat} (hs : okS sep = true) : ∀ {ts : List Nm}, (∀ u ∈ ts, u.length ≤ k ∧ okS u = true) → (joinS sep ts).length ≤ ts.length * (k + sep.length) ∧ okS (joinS sep ts) = true
  | [], _ => ⟨Nat.zero_le _, rfl⟩
  | [x], h => by
    have := h x (List.mem_cons_self ..)
    refine ⟨?_, this.2⟩
    show x.length ≤ 1 * (k + sep.length)
    omega
  | x :: y :: ts, h => by
    have h1 := h x (List.mem_cons_self ..)
    have ih := join_ok hs (ts := y :: ts) fun u hu => h u (List.mem_cons_of_mem _ hu)
    refine ⟨?_, ?_⟩
    · show (x ++ sep ++ joinS sep (y :: ts)).length ≤ (ts.length + 1 + 1) * (k + sep.length)
      have e1 : (y :: ts).length = ts.length + 1 := rfl
      rw [e1] at ih
      rw [List.length_append, List.length_append, Nat.add_mul (ts.length + 1) 1]
      omega
    · show okS (x ++ sep ++ joinS sep (y :: ts)) = true
      rw [okS_app, okS_app, h1.2, hs, ih.2]; rfl
theorem rps {k m : Nat} : ∀ {xs : List D}, (∀ x ∈ xs, Rpx k m x) → ∃ ts, reprDs xs = some ts ∧ ts.length = xs.length ∧ (∀ u ∈ ts, (u.length ≤ k ∧ okS u = true)) ∧ deps xs ≤ m
  | [], _ => ⟨[], by rw [reprDs], rfl, (fun u hu => by cases hu), by rw [deps]; exact Nat.zero_le _⟩
  | x :: xs, h => by
    obtain ⟨u, hu⟩ := h x (List.mem_cons_self ..)
    obtain ⟨ts, e, el, ha, hd⟩ := rps (xs := xs) fun y hy => h y (List.mem_cons_of_mem _ hy)
    refine ⟨u :: ts, by rw [reprDs, hu.e, e], by simp [el], (fun v hv => ?_), by rw [deps]; exact Nat.max_le.mpr ⟨hu.dp, hd⟩⟩
    rcases List.mem_cons.mp hv with rfl | hv
    · exact ⟨hu.len, hu.ok⟩
    · exact ha v hv
theorem rp_tup {k m : Nat} {xs : List D} (h : ∀ x ∈ xs, Rpx k m x) : Rpx (xs.length * (k + 2) + 3) (m + 1) (.tup xs) := by
  obtain ⟨ts, e, el, ha, hd⟩ := rps h
  obtain ⟨j1, j2⟩ := join_ok (sep := [44, 32]) (k := k) (by decide) ha
  have hdp : dep (.tup xs) ≤ m + 1 := by rw [dep]; omega
  by_cases h1 : ∃ x, ts = [x]
  · obtain ⟨x, rfl⟩ := h1
    have hx := ha x (List.mem_cons_self ..)
    refine ⟨40 :: (x ++ [44, 41]), by rw [reprD, e], ?_, by rw [okS_cons, okS_app, hx.2]; decide, hdp⟩
    have e1 : xs.length = 1 := by simpa using el.symm
    rw [e1]
    simp only [List.length_cons, List.length_append, List.length_nil]
    omega
  · refine ⟨40 :: (joinS [44, 32] ts ++ [41]), ?_, ?_, by rw [okS_cons, okS_app, j2]; decide, hdp⟩
    · rw [reprD, e]
      match ts, h1 with
      | [], _ => rfl
      | [x], h1 => exact absurd ⟨x, rfl⟩ h1
      | x :: y :: r, _ => rfl
    · rw [el] at j1
      have j3 : (joinS [44, 32] ts).length ≤ xs.length * (k + 2) := j1
      simp only [List.length_cons, List.length_append, List.length_nil]
      omega
theorem rp_lst {k m : Nat} {xs : List D} (h : ∀ x ∈ xs, Rpx k m x) : Rpx (xs.length * (k + 2) + 3) (m + 1) (.lst xs) := by
  obtain ⟨ts, e, el, ha, hd⟩ := rps h
  obtain ⟨j1, j2⟩ := join_ok (sep := [44, 32]) (k := k) (by decide) ha
  refine ⟨91 :: (joinS [44, 32] ts ++ [93]), by rw [reprD, e], ?_, by rw [okS_cons, okS_app, j2]; decide, by rw [dep]; omega⟩
  rw [el] at j1
  have j3 : (joinS [44, 32] ts).length ≤ xs.length * (k + 2) := j1
  simp only [List.length_cons, List.length_append, List.length_nil]
  omega
theorem rp_iD {i : Nat} (h : i < 10) : Rpx 1 0 (iD i) := by
  have key : ∀ i : Nat, i < 10 → ((decide ((i : Int).natAbs.log2 < 1920)) && (decide ((intStr (i : Int)).length ≤ 1) && okS (intStr (i : Int)))) = true := by decide +kernel
  have h1 := key i h
  simp only [Bool.and_eq_true, decide_eq_true_eq] at h1
  refine ⟨intStr (i : Int), ?_, h1.2.1, h1.2.2, by simp [dep]⟩
  have e : reprD (.int (i : Int)) = if (i : Int).natAbs.log2 < 1920 then some (intStr (i : Int)) else none := by rw [reprD]
  show reprD (.int (i : Int)) = _
  rw [e, if_pos h1.1]
theorem rp_tD {s : Nat} {t : List Nat} (hs : s ≤ 5) (ht : Vt s t) : Rpx 18 1 (tD t) := by
  refine (rp_tup (k := 1) (m := 0) (xs := t.map iD) fun x hx => ?_).mono (by rw [List.length_map, ht.len]; omega) (Nat.le_refl _)
  obtain ⟨i, hi, rfl⟩ := List.mem_map.mp hx
  exact rp_iD (by have := ht.lt i hi; omega)
theorem rp_str {u : Nm} (h1 : (u.all fun c => decide (32 ≤ c) && decide (c < 127) && c != 39 && c != 92) = true) (h2 : okS u = true) : Rpx (u.length + 2) 0 (.str u) := by
  refine ⟨39 :: (u ++ [39]), by rw [reprD, if_pos h1], by simp, by rw [okS_cons, okS_app, h2]; decide, by simp [dep]⟩
theorem rp_dD {s : Nat} {d : Deed} (hs : s ∈ [2, 3, 4, 5]) (hd : d.ok s) : Rpx 70 2 (dD d) := by
  have hs5 : s ≤ 5 := by simp at hs; omega
  have hw : ∀ u ∈ [S_back, S_exch, S_then], Rpx 20 1 (.str u) := fun u hu => by
    simp only [List.mem_cons, List.not_mem_nil, or_false] at hu
    rcases hu with rfl | rfl | rfl <;> exact (rp_str (by decide) (by decide)).mono (by decide) (by decide)
  cases d with
  | back =>
    refine (rp_tup (k := 20) (m := 1) (xs := [.str S_back]) fun x hx => ?_).mono (by decide) (Nat.le_refl _)
    simp at hx; subst hx; exact hw _ (by simp)
  | exch i j =>
    refine (rp_tup (k := 20) (m := 1) (xs := [.str S_exch, iD i, iD j]) fun x hx => ?_).mono (by simp) (Nat.le_refl _)
    simp only [List.mem_cons, List.not_mem_nil, or_false] at hx
    rcases hx with rfl | rfl | rfl
    · exact hw _ (by simp)
    · exact (rp_iD (by have := hd.1; omega)).mono (by decide) (by decide)
    · exact (rp_iD (by have := hd.2.1; omega)).mono (by decide) (by decide)
  | thn t =>
    refine (rp_tup (k := 20) (m := 1) (xs := [.str S_then, tD t]) fun x hx => ?_).mono (by simp) (Nat.le_refl _)
    simp only [List.mem_cons, List.not_mem_nil, or_false] at hx
    rcases hx with rfl | rfl
    · exact hw _ (by simp)
    · exact (rp_tD hs5 (vt_turns hs t hd)).mono (by decide) (by decide)
theorem repr_of {k m : Nat} {x : D} (hx : Rpx k m x) (hk : k < 1000000) (hm : m ≤ 60) : ∃ u, (∀ h, biD .repr h [x] = some (.str u)) ∧ okS u = true := by
  obtain ⟨u, hu⟩ := hx
  exact ⟨u, fun h => bi_repr hu.e (le_szL (Nat.lt_of_le_of_lt hu.len hk)) (Nat.le_trans hu.dp hm), hu.ok⟩
end Ev.Pl

set_option linter.all false
set_option maxRecDepth 100000
namespace Ev.Pl
/-! ### k78: a bench and its deeds -/
theorem okS_due {t : List Nat} {d : Deed} : okS (dueS t d) = true := by
  unfold dueS reason
  cases d with
  | back => simp only; split <;> decide
  | exch i j => show okS S_done = true; decide
  | thn u => simp only; split <;> decide
theorem due_done {t : List Nat} {d : Deed} : (dueS t d == S_done) = (reason t d).isNone := by
  unfold dueS reason
  cases d with
  | back => simp only; split <;> rfl
  | exch i j => rfl
  | thn u => simp only; split <;> rfl
/-- what stands after so many deeds -/
structure Sd (l b q s j : Nat) (h : Hd) (p : Pool) (t : List Nat) (led : List Deed) (ps : List D) : Prop where
  pool : h[l]? = some (pcell p)
  bench : h[b]? = some (bc s t (led.map dD) q)
  past : h[q]? = some (.lst ps)
  lq : l ≠ q
  vt : Vt s t
  ok : ∀ d ∈ led, d.ok s
  len : led.length ≤ j
  plen : ps.length ≤ j
section
variable {l b q s j n : Nat} {h : Hd} {p p' : Pool} {t : List Nat} {led : List Deed} {ps : List D} {d : Deed}
theorem Sd.lb (S : Sd l b q s j h p t led ps) : l ≠ b := fun z => by
  have h1 := S.pool
  have h2 := S.bench
  subst z; rw [h1] at h2; cases h2
theorem Sd.bq (S : Sd l b q s j h p t led ps) : b ≠ q := fun z => by
  have h1 := S.past
  have h2 := S.bench
  subst z; rw [h1] at h2; cases h2
theorem Sd.draw (S : Sd l b q s j h p t led ps) : Sd l b q s j (h.set l (pcell p')) p' t led ps :=
  ⟨get_set S.pool, by rw [set_off S.lb]; exact S.bench, by rw [set_off S.lq]; exact S.past, S.lq, S.vt, S.ok, S.len, S.plen⟩
/-- what stands behind a deed that was tried -/
def triedH (h : Hd) (b q s : Nat) (t : List Nat) (ds ps : List D) (d : Deed) : Hd := match reason t d with
  | some _ => h
  | none => doH h b q s t ds ps d
def ledB (t : List Nat) (led : List Deed) (d : Deed) : List Deed := led ++ (if (reason t d).isNone then [d] else [])
def psB (t : List Nat) (ps : List D) (d : Deed) : List D := ps ++ (if (reason t d).isNone then [tD t] else [])
theorem Sd.tried (hs : s ∈ [2, 3, 4, 5]) (S : Sd l b q s j h p t led ps) (hd : d.ok s) : Sd l b q s (j + 1) (triedH h b q s t (led.map dD) ps d) p (dueT t d) (ledB t led d) (psB t ps d) := by
  unfold triedH dueT ledB psB
  cases hx : reason t d with
  | some r =>
    simp only [Option.isNone_some, Bool.false_eq_true, if_false, List.append_nil]
    exact ⟨S.pool, S.bench, S.past, S.lq, S.vt, S.ok, Nat.le_succ_of_le S.len, Nat.le_succ_of_le S.plen⟩
  | none =>
    simp only [Option.isNone_none, if_true]
    refine ⟨?_, ?_, ?_, S.lq, vt_behind hs S.vt hd, fun e he => ?_, by simp [S.len], by simp [S.plen]⟩
    · unfold doH
      rw [set_off S.lb.symm, set_off S.lq.symm]; exact S.pool
    · unfold doH
      rw [List.map_append]
      exact get_set (e := bc s t (led.map dD) q) (by rw [set_off S.bq.symm]; exact S.bench)
    · unfold doH
      rw [set_off S.bq, get_set S.past]
    · rcases List.mem_append.mp he with he | he
      · exact S.ok e he
      · simp at he; subst he; exact hd
theorem Sd.do (hs : s ∈ [2, 3, 4, 5]) (S : Sd l b q s j h p t led ps) (hj : j < 1000) (hd : d.ok s) : callN tab (n + 8) f_Bench_do [.loc b, dD d] h = match reason t d with
      | some r => some (.ex c_Barred [(n_reason, .str r)], h)
      | none => some (.ok .non, doH h b q s t (led.map dD) ps d) := bench_do hs S.vt hd S.bench S.past (by rw [List.length_map]; have := S.len; omega) (by have := S.plen; omega)
/-- what is shown, written out -/
theorem Sd.shown (hs : s ∈ [2, 3, 4, 5]) (S : Sd l b q s j h p t led ps) (hj : j < 1000) : ∃ u, (∀ h, biD .repr h [.lst [iD s, tD t, .tup (led.map dD)]] = some (.str u)) ∧ okS u = true := by
  have hs5 : s ≤ 5 := by simp at hs; omega
  have h1 : Rpx 100000 3 (.tup (led.map dD)) := (rp_tup (k := 70) (m := 2) fun x hx => by
    obtain ⟨d, hd, rfl⟩ := List.mem_map.mp hx
    exact rp_dD hs (S.ok d hd)).mono (by have := S.len; rw [List.length_map]; omega) (Nat.le_refl _)
  refine repr_of (k := 400000) (m := 4) ((rp_lst (k := 100000) (m := 3) fun x hx => ?_).mono (by simp) (Nat.le_refl _)) (by decide) (by decide)
  simp only [List.mem_cons, List.not_mem_nil, or_false] at hx
  rcases hx with rfl | rfl | rfl
  · exact (rp_iD (by omega)).mono (by decide) (by decide)
  · exact (rp_tD hs5 S.vt).mono (by decide) (by decide)
  · exact h1
end
end Ev.Pl

set_option linter.all false
set_option maxRecDepth 100000
namespace Ev.Pl
theorem told_0 : tab.told 0 = some (c_Barred, n_reason, .str S_done) := rfl
theorem sub_bb : tab.sub c_Barred c_Barred = some true := rfl
/-- a deed tried -/
theorem tried_do {C : Cfg} {σ : Sl} {a : X} {h0 h h' : Hd} {t : List Nat} {d : Deed} (ht : C.told = tab.told) (hs : C.sub = tab.sub) (e : evX C a σ h0 = match reason t d with
      | some r => some (.ex c_Barred [(n_reason, .str r)], h)
      | none => some (.ok .non, h')) :
    evX C (.tryl 0 a) σ h0 = some (.ok (.str (dueS t d)), match reason t d with
      | some _ => h
      | none => h') := by
  rw [x_tryl, ht, told_0, eO_some, e]
  cases hx : reason t d with
  | none => simp [dueS, hx]
  | some r => simp [dueS, hx, hs, sub_bb, lkF]
/-- tried(lambda: bench.do(..)) -/
theorem ev_tried {l b q s j n i : Nat} {h h1 : Hd} {p : Pool} {t : List Nat} {led : List Deed} {ps : List D} {d : Deed} {σ : Sl} {xs : Xs} (hs : s ∈ [2, 3, 4, 5]) (S : Sd l b q s j h1 p t led ps) (hj : j < 1000) (hd : d.ok s) (eI : isIns h (.loc b) c_Bench n_do = true)
    (z : σ[i]? = some (some (.loc b))) (ea : evXs (cf tab (n + 8)) xs σ h = some (.ok [dD d], h1)) : evX (cf tab (n + 8)) (.tryl 0 (.me c_Bench f_Bench_do [100, 111] (.var i) xs)) σ h = some (.ok (.str (dueS t d)), triedH h1 b q s t (led.map dD) ps d) := by
  have e3 := S.do (n := n) hs hj hd
  rw [tried_do (t := t) (d := d) (h0 := h) (h := h1) (h' := doH h1 b q s t (led.map dD) ps d) rfl rfl]
  · unfold triedH; rfl
  · simp [z, eI, ea, e3] <;> (cases reason t d <;> rfl)
end Ev.Pl

set_option linter.all false
set_option maxRecDepth 100000
namespace Ev.Pl
theorem sub_b1 : tab.sub c_Barred c_InvalidDeed = some false := rfl
theorem sub_b2 : tab.sub c_Barred c_Barred = some true := rfl
theorem said_deed {n s b q : Nat} {h : Hd} {t : List Nat} {d : Deed} {ds ps : List D} (hs : s ∈ [2, 3, 4, 5]) (ht : Vt s t) (hd : d.ok s) (e : h[b]? = some (bc s t ds q)) (eq : h[q]? = some (.lst ps)) (hl : ds.length < 100000) (hp : ps.length < 100000) :
    callN tab (n + 9) f_said_of_deed [.loc b, dD d] h = some (.ok (.str (dueS t d)), triedH h b q s t ds ps d) := by
  refine callN_im tf_said_of_deed rfl ?_
  have e1 := bench_do (n := n) hs ht hd e eq hl hp
  unfold triedH dueS
  cases hx : reason t d with
  | some r =>
    rw [hx] at e1
    simp [b_said_of_deed, bi_do e, e1, sub_b1, sub_b2, lkF]
  | none =>
    rw [hx] at e1
    simp [b_said_of_deed, bi_do e, e1]
end Ev.Pl

set_option linter.all false
set_option maxRecDepth 100000
namespace Ev.Pl
abbrev n_bench : Nm := [98, 101, 110, 99, 104]
abbrev n_say : Nm := [115, 97, 121]
def cc (b : Nat) : Cell := .ins c_Console [(n_bench, .loc b)]
theorem cf_bench {n c b : Nat} {h : Hd} (e : h[c]? = some (cc b)) : fldD (cf tab n) h (.loc c) n_bench = some (.loc b) := by
  rw [fld_loc e (show (tab.flds c_Console).contains n_bench = true by decide +kernel)]; rfl
theorem is_str {n : Nat} {h : Hd} {s : Nm} : callN tab (n + 1) f_is_string [.str s] h = some (.ok (.bl true), h) := by
  refine callN_pu tf_is_string rfl (by simp [pureDs, pureD]) (h' := []) ?_ (by simp [pureD])
  simp [b_is_string]
theorem slc1 {h : Hd} {x : D} {r : List D} : slcD h (.lst (x :: r)) (some 1) none = some (.lst r) := by
  show some (D.lst (cut (x :: r) (some 1) none)) = _
  unfold cut sIx
  simp
theorem allS_str : ∀ ts : List Nm, allS (ts.map .str) = some ts
  | [] => rfl
  | t :: ts => by simp [allS, allS_str ts]
theorem join_at {h : Hd} {ts : List Nm} (h1 : ts.length < 100) (h2 : (ts.map List.length).sum < 1000) : mbD .join (.str [32]) [.lst (ts.map .str)] h = some (.ok (.str (joinS [32] ts)), h) := by
  have hz : (ts.map List.length).sum + ts.length * [32].length ≤ 16777216 := by simp; omega
  have e : see h (.lst (ts.map .str)) = .lst (ts.map .str) := rfl
  simp only [mbD, e, allS_str]
  rw [if_pos hz]
theorem say_deed {n s b q c : Nat} {h : Hd} {t : List Nat} {d : Deed} {ds ps : List D} (hs : s ∈ [2, 3, 4, 5]) (ht : Vt s t) (hd : d.ok s) (ec : h[c]? = some (cc b)) (e : h[b]? = some (bc s t ds q)) (eq : h[q]? = some (.lst ps)) (hl : ds.length < 100000) (hp : ps.length < 100000) :
    callN tab (n + 12) f_Console_say [.loc c, .str (saidN d)] h = some (.ok (.str (dueS t d)), triedH h b q s t ds ps d) := by
  refine callN_im tf_Console_say rfl ?_
  have L := lineOk hs hd
  have e0 : ∀ h, callN tab (n + 11) f_is_string [.str (saidN d)] h = some (.ok (.bl true), h) := fun h => is_str
  have e1 : ∀ h, callN tab (n + 11) f_words_of [.str (saidN d)] h = some (.ok (.lst (.str (headN d) :: (wordsN d).tail.map .str)), h) := fun h => L.words (n + 1) h
  have e2 := said_deed (n := n + 2) hs ht hd e eq hl hp
  have e4 := fun h => join_at (h := h) (ts := (wordsN d).tail) (by have := L.len; simp; omega) L.sum
  have e5 := L.back
  have e6 := L.exch
  have e7 := L.thn
  clear L
  generalize (wordsN d).tail = tl at *
  cases d with
  | back =>
    have z := e5 rfl
    subst z
    have e8 : callN tab (n + 11) f_said_of_word [.loc b, .str S_back] h = some (.ok (.str (dueS t .back)), triedH h b q s t ds ps .back) := by
      refine callN_im tf_said_of_word rfl ?_
      have e9 := said_deed (n := n + 1) hs ht hd e eq hl hp
      simp only [dD_back] at e9
      simp [b_said_of_word, eqD_str, okS, e9]
    simp only [headN] at e1
    simp [b_Console_say, e0, e1, cf_bench ec, eqD_str, okS, e8]
  | exch i j =>
    simp only [headN, dD_exch] at e1 e2
    have e3 : ∀ h, callN tab (n + 11) f_numbers_in [.lst (tl.map .str)] h = some (.ok (.tup [iD i, iD j]), h) := fun h => e6 i j rfl (n + 1) h
    simp [b_Console_say, e0, e1, cf_bench ec, eqD_str, okS, slc1, e4, e3, e2]
  | thn u =>
    simp only [headN, dD_thn] at e1 e2
    have e3 : ∀ h, callN tab (n + 11) f_turn_in [iD s, .str (joinS [32] tl)] h = some (.ok (tD u), h) := fun h => e7 u rfl (n + 1) h
    simp [b_Console_say, e0, e1, cf_bench ec, bf_seats e, eqD_str, okS, slc1, e4, e3, e2]
end Ev.Pl

set_option linter.all false
set_option maxRecDepth 100000
namespace Ev.Pl
/-! ### a turn as a row of rings -/
def textN (t : List Nat) : Nm := match callN tab 10 f_law_text [tD t] [] with
  | some (.ok (.str u), _) => u
  | _ => []
def textB (t : List Nat) : Bool := isOk (.str (textN t)) (callN tab 10 f_law_text [tD t] []) && isOk (.str (textN t)) (callN tab 10 f_row_of [tD t] []) && okS (textN t)
theorem texts_s : ([2, 3, 4].all fun s => (turnsL s).all textB) = true := by decide +kernel
theorem texts_0 : ((turnsL 5).take 30).all textB = true := by decide +kernel
theorem texts_1 : (((turnsL 5).drop 30).take 30).all textB = true := by decide +kernel
theorem texts_2 : (((turnsL 5).drop (30 + 30)).take 30).all textB = true := by decide +kernel
theorem texts_3 : ((turnsL 5).drop (30 + 30 + 30)).all textB = true := by decide +kernel
theorem texts : ([2, 3, 4, 5].all fun s => (turnsL s).all textB) = true := four texts_s texts_0 texts_1 texts_2 texts_3
theorem text_ok {s : Nat} {t : List Nat} (hs : s ∈ [2, 3, 4, 5]) (ht : Vt s t) : (∀ (n : Nat) (h : Hd), callN tab (n + 10) f_law_text [tD t] h = some (.ok (.str (textN t)), h)) ∧ (∀ (n : Nat) (h : Hd), callN tab (n + 10) f_row_of [tD t] h = some (.ok (.str (textN t)), h)) ∧ okS (textN t) = true := by
  have e := List.all_eq_true.mp (List.all_eq_true.mp texts s hs) t (mem_turns ht)
  unfold textB at e
  simp only [Bool.and_eq_true] at e
  exact ⟨fun n h => tab_ok tf_law_text rfl e.1.1 n h, fun n h => tab_ok tf_row_of rfl e.1.2 n h, e.2⟩
abbrev S_turn : Nm := [116, 117, 114, 110]
abbrev S_undo : Nm := [117, 110, 100, 111]
theorem one_word : ([S_turn, S_undo, [107, 105, 110, 100], [115, 105, 103, 110], [114, 111, 117, 110, 100], [102, 101, 119, 101, 115, 116]].all fun w => isOk (.lst [.str w]) (callN tab 10 f_words_of [.str w] [])) = true := by decide +kernel
theorem word_ok {w : Nm} (hw : w ∈ [S_turn, S_undo, [107, 105, 110, 100], [115, 105, 103, 110], [114, 111, 117, 110, 100], [102, 101, 119, 101, 115, 116]]) (n : Nat) (h : Hd) : callN tab (n + 10) f_words_of [.str w] h = some (.ok (.lst [.str w]), h) :=
  tab_ok tf_words_of rfl (List.all_eq_true.mp one_word w hw) n h
theorem say_turn {n s b q c : Nat} {h : Hd} {t : List Nat} {ds : List D} (hs : s ∈ [2, 3, 4, 5]) (ht : Vt s t) (ec : h[c]? = some (cc b)) (e : h[b]? = some (bc s t ds q)) :
    callN tab (n + 12) f_Console_say [.loc c, .str S_turn] h = some (.ok (.str (textN t)), h) := by
  refine callN_im tf_Console_say rfl ?_
  have e0 : ∀ h, callN tab (n + 11) f_is_string [.str S_turn] h = some (.ok (.bl true), h) := fun h => is_str
  have e1 : ∀ h, callN tab (n + 11) f_words_of [.str S_turn] h = some (.ok (.lst [.str S_turn]), h) := fun h => word_ok (by simp) (n + 1) h
  have e8 : callN tab (n + 11) f_said_of_word [.loc b, .str S_turn] h = some (.ok (.str (textN t)), h) := by
    refine callN_im tf_said_of_word rfl ?_
    have e9 : ∀ h, callN tab (n + 10) f_row_of [tD t] h = some (.ok (.str (textN t)), h) := fun h => (text_ok hs ht).2.1 n h
    simp [b_said_of_word, eqD_str, okS, bf_turn e, e9]
  simp [b_Console_say, e0, e1, cf_bench ec, eqD_str, okS, e8]
end Ev.Pl

set_option linter.all false
set_option maxRecDepth 100000
namespace Ev.Pl
/-! ### benches led, undone, and equal -/
def runT (s : Nat) (led : List Deed) : List Nat := led.foldl behind (stayL s)
theorem runT_snoc {s : Nat} {led : List Deed} {d : Deed} : runT s (led ++ [d]) = behind (runT s led) d := by unfold runT; rw [List.foldl_append]; rfl
def Good (s : Nat) (led : List Deed) : Prop := ∀ i d, led[i]? = some d → d.ok s ∧ reason (runT s (led.take i)) d = none
theorem Good.take {s k : Nat} {led : List Deed} (g : Good s led) : Good s (led.take k) := fun i d e => by
  have hi : i < k := by have := get_lt' e; rw [List.length_take] at this; omega
  rw [List.getElem?_take_of_lt hi] at e
  have := g i d e
  rw [List.take_take, Nat.min_eq_left (Nat.le_of_lt hi)]
  exact this
theorem Good.snoc {s : Nat} {led : List Deed} {d : Deed} (g : Good s led) (h1 : d.ok s) (h2 : reason (runT s led) d = none) : Good s (led ++ [d]) := fun i e he => by
  by_cases hi : i < led.length
  · rw [List.getElem?_append_left hi] at he
    rw [List.take_append_of_le_length (Nat.le_of_lt hi)]
    exact g i e he
  · have hl : i = led.length := by have := get_lt' he; simp at this; omega
    subst hl
    simp at he
    subst he
    rw [List.take_left' rfl]
    exact ⟨h1, h2⟩
theorem Good.last {s : Nat} {led : List Deed} {d : Deed} (g : Good s (led ++ [d])) : Good s led ∧ d.ok s ∧ reason (runT s led) d = none := by
  have h1 := g.take (k := led.length)
  rw [List.take_left' rfl] at h1
  have h2 := g led.length d (by simp)
  rw [List.take_left' rfl] at h2
  exact ⟨h1, h2⟩
theorem snoc_cases {α : Type} : ∀ l : List α, l = [] ∨ ∃ k x, l = k ++ [x] := fun l => by
  rcases List.eq_nil_or_concat l with h | ⟨k, x, h⟩
  · exact .inl h
  · exact .inr ⟨k, x, by simpa using h⟩
theorem Good.vt {s : Nat} (hs : s ∈ [2, 3, 4, 5]) : ∀ (n : Nat) {led : List Deed}, led.length = n → Good s led → Vt s (runT s led)
  | 0, led, hl, g => by
    rw [List.length_eq_zero_iff.mp hl]
    exact vt_stay s
  | n + 1, led, hl, g => by
    rcases snoc_cases led with rfl | ⟨k, x, rfl⟩
    · cases hl
    · obtain ⟨g1, g2, _⟩ := g.last
      rw [runT_snoc]
      exact vt_behind hs (Good.vt hs n (by simpa using hl) g1) g2
theorem Good.oks {s : Nat} {led : List Deed} (g : Good s led) : ∀ d ∈ led, d.ok s := fun d hd => by
  obtain ⟨i, hi, e⟩ := List.mem_iff_getElem.mp hd
  exact (g i d (by rw [List.getElem?_eq_getElem hi, e])).1
def pastT (s : Nat) (led : List Deed) : List (List Nat) := (List.range led.length).map fun i => runT s (led.take i)
theorem map_take {β : Type} {f : List Deed → β} {led : List Deed} {d : Deed} : ((List.range led.length).map fun i => f ((led ++ [d]).take i)) = (List.range led.length).map fun i => f (led.take i) := by
  refine List.map_congr_left fun i hi => ?_
  rw [List.take_append_of_le_length (Nat.le_of_lt (List.mem_range.mp hi))]
theorem pastT_snoc {s : Nat} {led : List Deed} {d : Deed} : pastT s (led ++ [d]) = pastT s led ++ [runT s led] := by
  unfold pastT
  rw [List.length_append, List.length_singleton, List.range_succ, List.map_append, map_take (f := runT s)]
  simp
/-- a bench that was led so -/
structure Bn (b q s : Nat) (led : List Deed) (h : Hd) : Prop where
  bench : h[b]? = some (bc s (runT s led) (led.map dD) q)
  past : h[q]? = some (.lst ((pastT s led).map tD))
theorem eqD_ts {ts : List (List Nat)} : eqD (.lst (ts.map tD)) (.lst []) = some ts.isEmpty := by
  have h1 : eqables (ts.map tD) = true := by
    induction ts with
    | nil => rfl
    | cons r rs ih => rw [List.map_cons, eqables, eqable_tD, ih]; rfl
  have h2 : deps (ts.map tD) ≤ 1 := by
    clear h1
    induction ts with
    | nil => simp [deps]
    | cons r rs ih => rw [List.map_cons, deps, dep_tD]; omega
  rw [eqD_of (by rw [eqable]; exact h1) (by rw [eqable]; rfl) (by rw [dep]; omega) (by simp [dep, deps]), deq]
  cases ts <;> rfl
theorem cut_last {α : Type} {xs : List α} {x : α} : cut (xs ++ [x]) none (some (-1)) = xs := by
  unfold cut sIx
  have : ((-1 : Int) + ((xs ++ [x]).length : Int)).toNat = xs.length := by simp; omega
  simp only [this]
  simp
section
variable {n s b q : Nat} {led : List Deed} {d : Deed} {h : Hd}
theorem Bn.off {m : Nat} {c : Cell} (B : Bn b q s led h) (h1 : m ≠ b) (h2 : m ≠ q) : Bn b q s led (h.set m c) := ⟨by rw [set_off h1]; exact B.bench, by rw [set_off h2]; exact B.past⟩
theorem Bn.push {c : Cell} (B : Bn b q s led h) : Bn b q s led (h ++ [c]) := ⟨push_off B.bench, push_off B.past⟩
theorem Bn.ne (B : Bn b q s led h) : b ≠ q := fun z => by
  have h1 := B.bench
  subst z
  rw [B.past] at h1; cases h1
def nextH (h : Hd) (b q s : Nat) (led : List Deed) (d : Deed) : Hd := doH h b q s (runT s led) (led.map dD) ((pastT s led).map tD) d
theorem Bn.do (hs : s ∈ [2, 3, 4, 5]) (B : Bn b q s led h) (g : Good s (led ++ [d])) (hl : led.length < 1000) : callN tab (n + 8) f_Bench_do [.loc b, dD d] h = some (.ok .non, nextH h b q s led d) ∧ Bn b q s (led ++ [d]) (nextH h b q s led d) := by
  obtain ⟨g1, g2, g3⟩ := g.last
  have e := bench_do (n := n) hs (g1.vt hs _ rfl) g2 B.bench B.past (by rw [List.length_map]; omega) (by rw [List.length_map]; unfold pastT; simp; omega)
  rw [g3] at e
  refine ⟨e, ?_, ?_⟩
  · unfold nextH doH
    rw [runT_snoc, List.map_append]
    exact get_set (e := bc s (runT s led) (led.map dD) q) (by rw [set_off B.ne.symm]; exact B.bench)
  · unfold nextH doH
    rw [set_off B.ne, get_set B.past, pastT_snoc, List.map_append]; rfl
theorem nextH_off {m : Nat} (h1 : m ≠ b) (h2 : m ≠ q) : (nextH h b q s led d)[m]? = h[m]? := by
  unfold nextH doH
  rw [set_off h1.symm, set_off h2.symm]
def prevH (h : Hd) (b q s : Nat) (led : List Deed) : Hd := (h.set q (.lst ((pastT s led).map tD))).set b (bc s (runT s led) (led.map dD) q)
theorem prevH_off {m : Nat} (h1 : m ≠ b) (h2 : m ≠ q) : (prevH h b q s led)[m]? = h[m]? := by
  unfold prevH
  rw [set_off h1.symm, set_off h2.symm]
theorem Bn.undo (B : Bn b q s (led ++ [d]) h) : callN tab (n + 1) f_Bench_undo [.loc b] h = some (.ok .non, prevH h b q s led) ∧ Bn b q s led (prevH h b q s led) := by
  have hb := B.bench
  have hq := B.past
  have bq := B.ne
  rw [pastT_snoc, List.map_append] at hq
  have hq' : h[q]? = some (.lst ((pastT s led).map tD ++ [tD (runT s led)])) := hq
  have sq := see_loc hq'
  have e0 : eqD (.lst ((pastT s led).map tD ++ [tD (runT s led)])) (.lst []) = some false := by
    have := eqD_ts (ts := pastT s led ++ [runT s led])
    rw [List.map_append] at this
    have e2 : (pastT s led ++ [runT s led]).isEmpty = false := by simp
    rw [e2] at this
    exact this
  have ep := mb_pop hq' (y := tD (runT s led)) (by simp)
  have ed : ((pastT s led).map tD ++ [tD (runT s led)]).dropLast = (pastT s led).map tD := by simp
  rw [ed] at ep
  have h1 : (h.set q (.lst ((pastT s led).map tD)))[b]? = some (bc s (runT s (led ++ [d])) ((led ++ [d]).map dD) q) := by rw [set_off bq.symm]; exact hb
  have h2 : ((h.set q (.lst ((pastT s led).map tD))).set b (bc s (runT s led) ((led ++ [d]).map dD) q))[b]? = some (bc s (runT s led) ((led ++ [d]).map dD) q) := get_set h1
  have ec : ∀ h, slcD h (.tup ((led ++ [d]).map dD)) none (some (-1)) = some (.tup (led.map dD)) := fun h => by
    show some (D.tup (cut ((led ++ [d]).map dD) none (some (-1)))) = _
    rw [List.map_append]
    show some (D.tup (cut (led.map dD ++ [dD d]) none (some (-1)))) = _
    rw [cut_last]
  refine ⟨?_, ⟨?_, ?_⟩⟩
  · refine callN_im tf_Bench_undo rfl ?_
    have f1 := bf_past (n := n) hb
    have f2 := bf_deeds (n := n) h2
    have s1 := bs_turn (n := n) (t' := runT s led) h1
    have s2 := bs_deeds (n := n) (ds' := led.map dD) h2
    simp only [List.map_append, List.map_cons, List.map_nil] at f1 f2 s1 s2 ec
    simp [b_Bench_undo, f1, sq, e0, tm_pop hq', ep, s1, f2, ec, s2, set_same, prevH]
  · exact get_set h1
  · unfold prevH
    rw [set_off bq, get_set hq]
theorem Bn.none (B : Bn b q s [] h) : callN tab (n + 1) f_Bench_undo [.loc b] h = some (.ex c_NothingToUndo [], h) := by
  have hq : h[q]? = some (.lst []) := B.past
  have sq := see_loc hq
  have e0 : eqD (.lst []) (.lst []) = some true := by decide +kernel
  have ex : tab.exf c_NothingToUndo = [] := rfl
  refine callN_im tf_Bench_undo rfl ?_
  simp [b_Bench_undo, bf_past B.bench, sq, e0, ex]
theorem bench_eq {s' b' q' : Nat} {t t' : List Nat} {ds ds' : List D} {r : Bool} (e1 : h[b]? = some (bc s t ds q)) (e2 : h[b']? = some (bc s' t' ds' q')) (e3 : eqD (.tup ds) (.tup ds') = some r) : callN tab (n + 1) f_Bench_eq__ [.loc b, .loc b'] h = some (.ok (.bl (s == s' && r)), h) := by
  refine callN_im tf_Bench_eq__ rfl ?_
  have i1 : isiD (.cls c_Bench) h (.loc b') = some true := isi_ins e2 rfl
  by_cases c : s = s'
  · subst c
    simp [b_Bench_eq__, i1, bf_seats e1, bf_seats e2, bf_deeds e1, bf_deeds e2, e3]
  · have c' : ¬ (s : Int) = (s' : Int) := by omega
    have c1 : ((s : Int) == (s' : Int)) = false := beq_eq_false_iff_ne.mpr c'
    have c2 : (s == s') = false := beq_eq_false_iff_ne.mpr c
    simp [b_Bench_eq__, i1, bf_seats e1, bf_seats e2, c1, c2]
end
end Ev.Pl

set_option linter.all false
set_option maxRecDepth 100000
namespace Ev.Pl
abbrev S_nothing : Nm := [110, 111, 116, 104, 105, 110, 103]
theorem sub_n : tab.sub c_NothingToUndo c_NothingToUndo = some true := rfl
section
variable {n s b q c : Nat} {led : List Deed} {d : Deed} {h : Hd}
theorem bi_undo {t : List Nat} {ds : List D} (e : h[b]? = some (bc s t ds q)) : isIns h (.loc b) c_Bench S_undo = true := isIns_loc e rfl
theorem say_undo (B : Bn b q s (led ++ [d]) h) (ec : h[c]? = some (cc b)) : callN tab (n + 12) f_Console_say [.loc c, .str S_undo] h = some (.ok (.str S_done), prevH h b q s led) := by
  refine callN_im tf_Console_say rfl ?_
  have e0 : ∀ h, callN tab (n + 11) f_is_string [.str S_undo] h = some (.ok (.bl true), h) := fun h => is_str
  have e1 : ∀ h, callN tab (n + 11) f_words_of [.str S_undo] h = some (.ok (.lst [.str S_undo]), h) := fun h => word_ok (by simp) (n + 1) h
  have e8 : callN tab (n + 11) f_said_of_word [.loc b, .str S_undo] h = some (.ok (.str S_done), prevH h b q s led) := by
    refine callN_im tf_said_of_word rfl ?_
    have e9 : callN tab (n + 10) f_said_of_undo [.loc b] h = some (.ok (.str S_done), prevH h b q s led) := by
      refine callN_im tf_said_of_undo rfl ?_
      have e7 := (Bn.undo (n := n + 8) B).1
      simp [b_said_of_undo, bi_undo B.bench, e7]
    simp [b_said_of_word, eqD_str, okS, e9]
  simp [b_Console_say, e0, e1, cf_bench ec, eqD_str, okS, e8]
theorem say_nothing (B : Bn b q s [] h) (ec : h[c]? = some (cc b)) : callN tab (n + 12) f_Console_say [.loc c, .str S_undo] h = some (.ok (.str S_nothing), h) := by
  refine callN_im tf_Console_say rfl ?_
  have e0 : ∀ h, callN tab (n + 11) f_is_string [.str S_undo] h = some (.ok (.bl true), h) := fun h => is_str
  have e1 : ∀ h, callN tab (n + 11) f_words_of [.str S_undo] h = some (.ok (.lst [.str S_undo]), h) := fun h => word_ok (by simp) (n + 1) h
  have e8 : callN tab (n + 11) f_said_of_word [.loc b, .str S_undo] h = some (.ok (.str S_nothing), h) := by
    refine callN_im tf_said_of_word rfl ?_
    have e9 : callN tab (n + 10) f_said_of_undo [.loc b] h = some (.ok (.str S_nothing), h) := by
      refine callN_im tf_said_of_undo rfl ?_
      have e7 := Bn.none (n := n + 8) B
      simp [b_said_of_undo, bi_undo B.bench, e7, sub_n]
    simp [b_said_of_word, eqD_str, okS, e9]
  simp [b_Console_say, e0, e1, cf_bench ec, eqD_str, okS, e8]
end
end Ev.Pl

set_option linter.all false
set_option maxRecDepth 100000
namespace Ev.Pl
section
variable {n s b q : Nat} {h : Hd}
/-- a fresh bench copied -/
theorem copy_fresh (hs : s ∈ [2, 3, 4, 5]) (e : h[b]? = some (bc s (stayL s) [] q)) : callN tab (n + 6) f_copy_of [.loc b] h = some (.ok (.loc h.length), h ++ [bc s (stayL s) [] (h.length + 1), .lst []]) := by
  refine callN_im tf_copy_of rfl ?_
  have e1 := bench_mk (n := n) (h := h) hs
  have e2 : fldD (cf tab (n + 5)) (h ++ [bc s (stayL s) [] (h.length + 1), .lst []]) (.loc b) n_deeds = some (.tup []) := bf_deeds (s := s) (t := stayL s) (q := q) (by have := push_off (c := bc s (stayL s) [] (h.length + 1)) e; have := push_off (c := .lst []) this; simpa using this)
  simp [b_copy_of, bf_seats e, e1, e2]
theorem console_mk (hs : s ∈ [2, 3, 4, 5]) (e : h[b]? = some (bc s (stayL s) [] q)) : mkD (cf tab (n + 8)) c_Console f_Console_init__ [.loc b] h = some (.ok (.loc h.length), h ++ [cc (h.length + 1), bc s (stayL s) [] (h.length + 2), .lst []]) := by
  have e0 : (h ++ [Cell.ins c_Console []])[b]? = some (bc s (stayL s) [] q) := push_off e
  have i1 : isiD (.cls c_Bench) (h ++ [Cell.ins c_Console []]) (.loc b) = some true := isi_ins e0 rfl
  have key : callN tab (n + 8) f_Console_init__ [.loc h.length, .loc b] (h ++ [.ins c_Console []]) = some (.ok .non, h ++ [cc (h.length + 1), bc s (stayL s) [] (h.length + 2), .lst []]) := by
    refine callN_im tf_Console_init__ rfl ?_
    have e1 : callN tab (n + 7) f_check_bench [.loc b] (h ++ [.ins c_Console []]) = some (.ok .non, h ++ [.ins c_Console []]) := by
      refine callN_im tf_check_bench rfl ?_
      simp [b_check_bench, i1]
    have e2 := copy_fresh (n := n + 1) hs e0
    simp only [List.length_append, List.length_cons, List.length_nil, List.append_assoc, List.cons_append, List.nil_append] at e2
    have z : setFD (cf tab (n + 7)) (.loc h.length) n_bench (.loc (h.length + 1)) (h ++ [.ins c_Console [], bc s (stayL s) [] (h.length + 2), .lst []]) = some (.ok (), h ++ [cc (h.length + 1), bc s (stayL s) [] (h.length + 2), .lst []]) := by
      rw [setf_loc (c := c_Console) (fs := []) (by simp) (show (tab.flds c_Console).contains n_bench = true by decide +kernel) (by simp)]
      simp [cc, putF]
    simp [b_Console_init__, e1, e2, z]
  rw [mk_at]
  simp only [cf_call, key]
  simp
end
end Ev.Pl

set_option linter.all false
set_option maxRecDepth 100000
namespace Ev.Pl
/-! ### questions -/
def kN (t : List Nat) : List Nat := [5, 4, 3, 2, 1].flatMap fun k => ((ringsL t).filter fun r => r.length == k).map List.length
def rdN (t : List Nat) : Nat := (kN t).foldl Nat.lcm 1
def fwN (t : List Nat) : Nat := t.length - (ringsL t).length
def sgI (t : List Nat) : Int := if fwN t % 2 = 0 then 1 else -1
def kindS (t : List Nat) : Nm := joinS [32] ((kN t).map natStr)
def numB (t : List Nat) : Bool := isOk (tD (kN t)) (callN tab 9 f_kind_by [tD t] []) && isOk (.int (sgI t)) (callN tab 9 f_sign_by [tD t] []) && isOk (iD (rdN t)) (callN tab 9 f_round_by [tD t] []) && isOk (iD (fwN t)) (callN tab 9 f_fewest_by [tD t] []) && decide ((kN t).length < 6) && (kN t).all (fun i => decide (i < 10)) && decide (rdN t < 10) && decide (fwN t < 10) && decide ((((kN t).map natStr).map List.length).sum < 1000) && okS (kindS t)
theorem nums_s : ([2, 3, 4].all fun s => (turnsL s).all numB) = true := by decide +kernel
theorem nums_0 : ((turnsL 5).take 30).all numB = true := by decide +kernel
theorem nums_1 : (((turnsL 5).drop 30).take 30).all numB = true := by decide +kernel
theorem nums_2 : (((turnsL 5).drop (30 + 30)).take 30).all numB = true := by decide +kernel
theorem nums_3 : ((turnsL 5).drop (30 + 30 + 30)).all numB = true := by decide +kernel
theorem nums : ([2, 3, 4, 5].all fun s => (turnsL s).all numB) = true := four nums_s nums_0 nums_1 nums_2 nums_3
structure NumOk (t : List Nat) : Prop where
  kind : ∀ (n : Nat) (h : Hd), callN tab (n + 9) f_kind_by [tD t] h = some (.ok (tD (kN t)), h)
  sign : ∀ (n : Nat) (h : Hd), callN tab (n + 9) f_sign_by [tD t] h = some (.ok (.int (sgI t)), h)
  round : ∀ (n : Nat) (h : Hd), callN tab (n + 9) f_round_by [tD t] h = some (.ok (iD (rdN t)), h)
  few : ∀ (n : Nat) (h : Hd), callN tab (n + 9) f_fewest_by [tD t] h = some (.ok (iD (fwN t)), h)
  klen : (kN t).length < 6
  kd : ∀ i ∈ kN t, i < 10
  rd : rdN t < 10
  fw : fwN t < 10
  sum : (((kN t).map natStr).map List.length).sum < 1000
  ok : okS (kindS t) = true
theorem num_ok {s : Nat} {t : List Nat} (hs : s ∈ [2, 3, 4, 5]) (ht : Vt s t) : NumOk t := by
  have e := List.all_eq_true.mp (List.all_eq_true.mp nums s hs) t (mem_turns ht)
  unfold numB at e
  simp only [Bool.and_eq_true, decide_eq_true_eq, List.all_eq_true] at e
  obtain ⟨⟨⟨⟨⟨⟨⟨⟨⟨e1, e2⟩, e3⟩, e4⟩, e5⟩, e6⟩, e7⟩, e8⟩, e9⟩, e10⟩ := e
  exact ⟨fun n h => tab_ok tf_kind_by rfl e1 n h, fun n h => tab_ok tf_sign_by rfl e2 n h, fun n h => tab_ok tf_round_by rfl e3 n h, fun n h => tab_ok tf_fewest_by rfl e4 n h, e5, e6, e7, e8, e9, e10⟩
theorem bi_strI {h : Hd} {i : Int} (e : i.natAbs.log2 < 1920) : biD .str h [.int i] = some (.str (intStr i)) := by
  show (if i.natAbs.log2 < 1920 then some (D.str (intStr i)) else none) = _
  rw [if_pos e]
theorem bi_strN {h : Hd} {i : Nat} (e : i < 10) : biD .str h [iD i] = some (.str (natStr i)) := by
  have key : ∀ i : Nat, i < 10 → (i : Int).natAbs.log2 < 1920 := by decide +kernel
  exact bi_strI (key i e)
theorem ok_strN {i : Nat} (e : i < 10) : okS (natStr i) = true := by
  have key : ∀ i : Nat, i < 10 → okS (natStr i) = true := by decide +kernel
  exact key i e
theorem bi_strS {h : Hd} {t : List Nat} : biD .str h [.int (sgI t)] = some (.str (intStr (sgI t))) := by
  unfold sgI
  split <;> exact bi_strI (by decide)
theorem ok_strS {t : List Nat} : okS (intStr (sgI t)) = true := by
  unfold sgI
  split <;> decide +kernel
abbrev S_kind : Nm := [107, 105, 110, 100]
abbrev S_sign : Nm := [115, 105, 103, 110]
abbrev S_round : Nm := [114, 111, 117, 110, 100]
abbrev S_few : Nm := [102, 101, 119, 101, 115, 116]
section
variable {n s b q c : Nat} {h : Hd} {t : List Nat} {ds : List D} {w r : Nm}
theorem join_kind (hs : s ∈ [2, 3, 4, 5]) (ht : Vt s t) {h : Hd} : mbD .join (.str [32]) [.lst (((kN t).map natStr).map .str)] h = some (.ok (.str (kindS t)), h) := by
  have N := num_ok hs ht
  exact join_at (by have := N.klen; simp; omega) N.sum
theorem say_one (hw : w ∈ [S_kind, S_sign, S_round, S_few]) (ec : h[c]? = some (cc b)) (e8 : callN tab (n + 11) f_said_of_word [.loc b, .str w] h = some (.ok (.str r), h)) : callN tab (n + 12) f_Console_say [.loc c, .str w] h = some (.ok (.str r), h) := by
  refine callN_im tf_Console_say rfl ?_
  have e0 : ∀ h, callN tab (n + 11) f_is_string [.str w] h = some (.ok (.bl true), h) := fun h => is_str
  have e1 : ∀ h, callN tab (n + 11) f_words_of [.str w] h = some (.ok (.lst [.str w]), h) := fun h => word_ok (List.mem_cons_of_mem _ (List.mem_cons_of_mem _ hw)) (n + 1) h
  simp only [List.mem_cons, List.not_mem_nil, or_false] at hw
  rcases hw with rfl | rfl | rfl | rfl <;> simp [b_Console_say, e0, e1, cf_bench ec, eqD_str, okS, e8]
theorem say_kind (hs : s ∈ [2, 3, 4, 5]) (ht : Vt s t) (ec : h[c]? = some (cc b)) (e : h[b]? = some (bc s t ds q)) : callN tab (n + 12) f_Console_say [.loc c, .str S_kind] h = some (.ok (.str (kindS t)), h) := by
  refine say_one (by simp) ec ?_
  refine callN_im tf_said_of_word rfl ?_
  have N := num_ok hs ht
  have e1 : ∀ h, callN tab (n + 10) f_kind_by [tD t] h = some (.ok (tD (kN t)), h) := fun h => N.kind (n + 1) h
  have e2 : compB (cf tab (n + 10)) [2] (.nm 2) .tt e_said_of_word_1 [some (.loc b), some (.str S_kind), none] ((kN t).map iD) h = some (((kN t).map natStr).map .str, h) := by
    rw [List.map_map]
    exact compB_map fun i hi => by simp [e_said_of_word_1, bi_strN (N.kd i hi)]
  have e3 : itD h (tD (kN t)) = some ((kN t).map iD) := rfl
  have e4 := join_kind hs ht (h := h)
  have el : (((kN t).map natStr).map D.str).length ≤ szL := le_szL (by have := N.klen; simp; omega)
  generalize ((kN t).map natStr).map D.str = R at *
  simp [b_said_of_word, eqD_str, okS, bf_turn e, e1, e3, e2, el, e4]
theorem say_sign (hs : s ∈ [2, 3, 4, 5]) (ht : Vt s t) (ec : h[c]? = some (cc b)) (e : h[b]? = some (bc s t ds q)) : callN tab (n + 12) f_Console_say [.loc c, .str S_sign] h = some (.ok (.str (intStr (sgI t))), h) := by
  refine say_one (by simp) ec ?_
  refine callN_im tf_said_of_word rfl ?_
  have e9 : callN tab (n + 10) f_said_of_number [.loc b, .str S_sign] h = some (.ok (.str (intStr (sgI t))), h) := by
    refine callN_im tf_said_of_number rfl ?_
    have e1 : ∀ h, callN tab (n + 9) f_sign_by [tD t] h = some (.ok (.int (sgI t)), h) := fun h => (num_ok hs ht).sign n h
    simp [b_said_of_number, eqD_str, okS, bf_turn e, e1, bi_strS]
  simp [b_said_of_word, eqD_str, okS, e9]
theorem say_round (hs : s ∈ [2, 3, 4, 5]) (ht : Vt s t) (ec : h[c]? = some (cc b)) (e : h[b]? = some (bc s t ds q)) : callN tab (n + 12) f_Console_say [.loc c, .str S_round] h = some (.ok (.str (natStr (rdN t))), h) := by
  refine say_one (by simp) ec ?_
  refine callN_im tf_said_of_word rfl ?_
  have N := num_ok hs ht
  have e9 : callN tab (n + 10) f_said_of_number [.loc b, .str S_round] h = some (.ok (.str (natStr (rdN t))), h) := by
    refine callN_im tf_said_of_number rfl ?_
    have e1 : ∀ h, callN tab (n + 9) f_round_by [tD t] h = some (.ok (iD (rdN t)), h) := fun h => N.round n h
    simp [b_said_of_number, eqD_str, okS, bf_turn e, e1, bi_strN N.rd]
  simp [b_said_of_word, eqD_str, okS, e9]
theorem say_few (hs : s ∈ [2, 3, 4, 5]) (ht : Vt s t) (ec : h[c]? = some (cc b)) (e : h[b]? = some (bc s t ds q)) : callN tab (n + 12) f_Console_say [.loc c, .str S_few] h = some (.ok (.str (natStr (fwN t))), h) := by
  refine say_one (by simp) ec ?_
  refine callN_im tf_said_of_word rfl ?_
  have N := num_ok hs ht
  have e9 : callN tab (n + 10) f_said_of_number [.loc b, .str S_few] h = some (.ok (.str (natStr (fwN t))), h) := by
    refine callN_im tf_said_of_number rfl ?_
    have e1 : ∀ h, callN tab (n + 9) f_fewest_by [tD t] h = some (.ok (iD (fwN t)), h) := fun h => N.few n h
    simp [b_said_of_number, eqD_str, okS, bf_turn e, e1, bi_strN N.fw]
  simp [b_said_of_word, eqD_str, okS, e9]
end
end Ev.Pl

set_option linter.all false
set_option maxRecDepth 100000
namespace Ev.Pl
/-! ### what a bench shows; a led bench copied -/
section
variable {n s b q c : Nat} {h : Hd} {t : List Nat} {ds : List D} {led : List Deed}
theorem turn_ok' (hs : s ∈ [2, 3, 4, 5]) (ht : Vt s t) : callN tab (n + 7) f_check_turn [iD s, tD t] h = some (.ok .non, h) := by
  refine callN_pu tf_check_turn rfl (by simp [pureDs, pureD]) (h' := []) ?_ (by simp [pureD])
  have e := turn_ok (n := n) (h := []) hs (mem_turns ht)
  simp [b_check_turn, e]
theorem turned_ok (hs : s ∈ [2, 3, 4, 5]) (ht : Vt s t) : callN tab (n + 8) f_check_turned [iD s, tD t] h = some (.ok .non, h) := by
  refine callN_pu tf_check_turned rfl (by simp [pureDs, pureD]) (h' := []) ?_ (by simp [pureD])
  have e1 : ∀ h, callN tab (n + 7) f_check_seats [iD s] h = some (.ok .non, h) := fun h => seats_ok (n := n + 3) hs
  have e2 : ∀ h, callN tab (n + 7) f_check_turn [iD s, tD t] h = some (.ok .non, h) := fun h => turn_ok' hs ht
  simp [b_check_turned, e1, e2]
theorem q_text (hs : s ∈ [2, 3, 4, 5]) (ht : Vt s t) : callN tab (n + 11) f_turn_text [iD s, tD t] h = some (.ok (.str (textN t)), h) := by
  refine callN_pu tf_turn_text rfl (by simp [pureDs, pureD]) (h' := []) ?_ (by simp [pureD])
  have e1 : ∀ h, callN tab (n + 10) f_check_turned [iD s, tD t] h = some (.ok .non, h) := fun h => turned_ok (n := n + 2) hs ht
  have e2 : ∀ h, callN tab (n + 10) f_row_of [tD t] h = some (.ok (.str (textN t)), h) := fun h => (text_ok hs ht).2.1 n h
  simp [b_turn_text, e1, e2]
theorem q_kind (hs : s ∈ [2, 3, 4, 5]) (ht : Vt s t) : callN tab (n + 11) f_kind_of [iD s, tD t] h = some (.ok (tD (kN t)), h) := by
  refine callN_pu tf_kind_of rfl (by simp [pureDs, pureD]) (h' := []) ?_ (by simp)
  have e1 : ∀ h, callN tab (n + 10) f_check_turned [iD s, tD t] h = some (.ok .non, h) := fun h => turned_ok (n := n + 2) hs ht
  have e2 : ∀ h, callN tab (n + 10) f_kind_by [tD t] h = some (.ok (tD (kN t)), h) := fun h => (num_ok hs ht).kind (n + 1) h
  simp [b_kind_of, e1, e2]
theorem q_sign (hs : s ∈ [2, 3, 4, 5]) (ht : Vt s t) : callN tab (n + 11) f_sign [iD s, tD t] h = some (.ok (.int (sgI t)), h) := by
  refine callN_pu tf_sign rfl (by simp [pureDs, pureD]) (h' := []) ?_ (by simp [pureD])
  have e1 : ∀ h, callN tab (n + 10) f_check_turned [iD s, tD t] h = some (.ok .non, h) := fun h => turned_ok (n := n + 2) hs ht
  have e2 : ∀ h, callN tab (n + 10) f_sign_by [tD t] h = some (.ok (.int (sgI t)), h) := fun h => (num_ok hs ht).sign (n + 1) h
  simp [b_sign, e1, e2]
theorem q_round (hs : s ∈ [2, 3, 4, 5]) (ht : Vt s t) : callN tab (n + 11) f_round_of [iD s, tD t] h = some (.ok (iD (rdN t)), h) := by
  refine callN_pu tf_round_of rfl (by simp [pureDs, pureD]) (h' := []) ?_ (by simp [pureD])
  have e1 : ∀ h, callN tab (n + 10) f_check_turned [iD s, tD t] h = some (.ok .non, h) := fun h => turned_ok (n := n + 2) hs ht
  have e2 : ∀ h, callN tab (n + 10) f_round_by [tD t] h = some (.ok (iD (rdN t)), h) := fun h => (num_ok hs ht).round (n + 1) h
  simp [b_round_of, e1, e2]
theorem q_few (hs : s ∈ [2, 3, 4, 5]) (ht : Vt s t) : callN tab (n + 11) f_fewest_exchanges [iD s, tD t] h = some (.ok (iD (fwN t)), h) := by
  refine callN_pu tf_fewest_exchanges rfl (by simp [pureDs, pureD]) (h' := []) ?_ (by simp [pureD])
  have e1 : ∀ h, callN tab (n + 10) f_check_turned [iD s, tD t] h = some (.ok .non, h) := fun h => turned_ok (n := n + 2) hs ht
  have e2 : ∀ h, callN tab (n + 10) f_fewest_by [tD t] h = some (.ok (iD (fwN t)), h) := fun h => (num_ok hs ht).few (n + 1) h
  simp [b_fewest_exchanges, e1, e2]
def shownD (t : List Nat) : List D := [.str (textN t), .str (kindS t), .str (intStr (sgI t)), .str (natStr (rdN t)), .str (natStr (fwN t))]
theorem eqD_shown (hs : s ∈ [2, 3, 4, 5]) (ht : Vt s t) : eqD (.lst (shownD t)) (.lst (shownD t)) = some true := by
  have N := num_ok hs ht
  refine eqD_self ?_ (by simp [dep, deps, shownD])
  have o0 := (text_ok hs ht).2.2
  have o1 := N.ok
  have o2 := ok_strS (t := t)
  have o3 := ok_strN N.rd
  have o4 := ok_strN N.fw
  unfold okS at o0 o1 o2 o3 o4
  simp only [eqable, eqables, shownD, o0, o1, o2, o3, o4, Bool.and_self]
theorem shown_ok (hs : s ∈ [2, 3, 4, 5]) (ht : Vt s t) (e : h[b]? = some (bc s t ds q)) : callN tab (n + 12) f_law_shown [.loc b] h = some (.ok (.lst (shownD t)), h ++ [.lst [.str (textN t), .str (kindS t)]]) := by
  refine callN_im tf_law_shown rfl ?_
  have N := num_ok hs ht
  have k0 : ∀ h, callN tab (n + 11) f_turn_text [iD s, tD t] h = some (.ok (.str (textN t)), h) := fun h => q_text hs ht
  have k1 : ∀ h, callN tab (n + 11) f_kind_of [iD s, tD t] h = some (.ok (tD (kN t)), h) := fun h => q_kind hs ht
  have k2 : ∀ h, callN tab (n + 11) f_sign [iD s, tD t] h = some (.ok (.int (sgI t)), h) := fun h => q_sign hs ht
  have k3 : ∀ h, callN tab (n + 11) f_round_of [iD s, tD t] h = some (.ok (iD (rdN t)), h) := fun h => q_round hs ht
  have k4 : ∀ h, callN tab (n + 11) f_fewest_exchanges [iD s, tD t] h = some (.ok (iD (fwN t)), h) := fun h => q_few hs ht
  have x2 : ∀ (h : Hd) (o : Option D), compB (cf tab (n + 11)) [2] (.nm 2) .tt e_law_shown_1 [some (.loc b), o, none] ((kN t).map iD) h = some (((kN t).map natStr).map .str, h) := fun h o => by
    rw [List.map_map]
    exact compB_map fun i hi => by simp [e_law_shown_1, bi_strN (N.kd i hi)]
  have x3 : ∀ h, itD h (tD (kN t)) = some ((kN t).map iD) := fun h => rfl
  have x4 : ∀ h, mbD .join (.str [32]) [.lst (((kN t).map natStr).map .str)] h = some (.ok (.str (kindS t)), h) := fun h => join_kind hs ht
  have xl : (((kN t).map natStr).map D.str).length ≤ szL := le_szL (by have := N.klen; simp; omega)
  have s2 : ∀ h, biD .str h [.int (sgI t)] = some (.str (intStr (sgI t))) := fun h => bi_strS
  have s3 : ∀ h, biD .str h [iD (rdN t)] = some (.str (natStr (rdN t))) := fun h => bi_strN N.rd
  have s4 : ∀ h, biD .str h [iD (fwN t)] = some (.str (natStr (fwN t))) := fun h => bi_strN N.fw
  have ta : tyMb .append (h ++ [.lst [.str (textN t)]]) (.loc h.length) = true := tm_append push_at
  have ma : mbD .append (.loc h.length) [.str (kindS t)] (h ++ [.lst [.str (textN t)]]) = some (.ok .non, h ++ [.lst [.str (textN t), .str (kindS t)]]) := by
    rw [mb_append push_at (lt_szL (by simp))]
    simp
  have e' : (h ++ [.lst [.str (textN t)]])[b]? = some (bc s t ds q) := push_off e
  have e'' : (h ++ [.lst [.str (textN t), .str (kindS t)]])[b]? = some (bc s t ds q) := push_off e
  have sr : see (h ++ [.lst [.str (textN t), .str (kindS t)]]) (.loc h.length) = .lst [.str (textN t), .str (kindS t)] := see_loc push_at
  generalize ((kN t).map natStr).map D.str = R2 at *
  simp [b_law_shown, bf_seats e, bf_turn e, k0, bf_seats e', bf_turn e', k1, x3, x2, xl, x4, ta, ma, bf_seats e'', bf_turn e'', k2, s2, k3, s3, k4, s4, sr, shownD]
/-- a led bench copied -/
theorem copy_led (hs : s ∈ [2, 3, 4, 5]) (B : Bn b q s led h) (g : Good s led) (hl : led.length < 1000) : ∃ h', callN tab (n + 9) f_copy_of [.loc b] h = some (.ok (.loc h.length), h') ∧ Bn h.length (h.length + 1) s led h' ∧ ∀ m, m < h.length → h'[m]? = h[m]? := by
  have e1 : mkD (cf tab (n + 8)) c_Bench f_Bench_init__ [iD s] h = _ := bench_mk (n := n + 3) (h := h) hs
  have hb := get_lt B.bench
  have g1 : (h ++ [bc s (stayL s) [] (h.length + 1), .lst []])[b]? = some (bc s (runT s led) (led.map dD) q) := by rw [List.getElem?_append_left hb]; exact B.bench
  have f1 := bf_deeds (n := n + 8) g1
  obtain ⟨σ', h', ef, o2, rfl, B', fr⟩ := forB_inv (C := cf tab (n + 8)) (g := .nm 2) (b := l_copy_of_1)
    (fun j σ h' => ∃ o2, σ = [some (.loc b), some (.loc h.length), o2] ∧ Bn h.length (h.length + 1) s (led.take j) h' ∧ ∀ m, m < h.length → h'[m]? = h[m]?)
    (xs := led.map dD) (σ := [some (.loc b), some (.loc h.length), none]) (h := h ++ [bc s (stayL s) [] (h.length + 1), .lst []])
    ⟨none, rfl, ⟨by simp [runT], by simp [pastT]⟩, fun m hm => List.getElem?_append_left hm⟩ (by
      intro j x σ h2 hx ⟨o2, es, B2, fr⟩
      subst es
      rw [List.getElem?_map] at hx
      obtain ⟨d, hd, rfl⟩ := Option.map_eq_some_iff.mp hx
      have hj := get_lt' hd
      have e : led.take (j + 1) = led.take j ++ [d] := by rw [List.take_succ, hd]; rfl
      have g2 : Good s (led.take j ++ [d]) := by rw [← e]; exact g.take
      obtain ⟨e3, B3⟩ := B2.do (n := n) hs g2 (by rw [List.length_take]; omega)
      refine ⟨_, nextH h2 h.length (h.length + 1) s (led.take j) d, ?_, some (dD d), rfl, by rw [e]; exact B3, fun m hm => ?_⟩
      · simp [l_copy_of_1, bi_do B2.bench, e3]
      · rw [nextH_off (by omega) (by omega)]; exact fr m hm)
  refine ⟨h', ?_, ?_, fr⟩
  · refine callN_im tf_copy_of rfl ?_
    simp [b_copy_of, bf_seats B.bench, e1, f1, ef]
  · rw [List.length_map, List.take_length] at B'
    exact B'
theorem console_led (hs : s ∈ [2, 3, 4, 5]) (B : Bn b q s led h) (g : Good s led) (hl : led.length < 1000) : ∃ h', mkD (cf tab (n + 10)) c_Console f_Console_init__ [.loc b] h = some (.ok (.loc h.length), h') ∧ h'[h.length]? = some (cc (h.length + 1)) ∧ Bn (h.length + 1) (h.length + 2) s led h' ∧ ∀ m, m < h.length → h'[m]? = h[m]? := by
  have B0 : Bn b q s led (h ++ [Cell.ins c_Console []]) := B.push
  have i1 : isiD (.cls c_Bench) (h ++ [Cell.ins c_Console []]) (.loc b) = some true := isi_ins B0.bench rfl
  obtain ⟨h1, e2, B1, fr⟩ := copy_led (n := n) hs B0 g hl
  simp only [List.length_append, List.length_cons, List.length_nil] at e2 B1 fr
  have c1 : h1[h.length]? = some (.ins c_Console []) := by rw [fr _ (by omega)]; simp
  have e1 : callN tab (n + 9) f_check_bench [.loc b] (h ++ [.ins c_Console []]) = some (.ok .non, h ++ [.ins c_Console []]) := by
    refine callN_im tf_check_bench rfl ?_
    simp [b_check_bench, i1]
  have z : setFD (cf tab (n + 9)) (.loc h.length) n_bench (.loc (h.length + 1)) h1 = some (.ok (), h1.set h.length (cc (h.length + 1))) := by
    rw [setf_loc (c := c_Console) (fs := []) c1 (show (tab.flds c_Console).contains n_bench = true by decide +kernel) (by simp)]
    simp [cc, putF]
  have key : callN tab (n + 10) f_Console_init__ [.loc h.length, .loc b] (h ++ [.ins c_Console []]) = some (.ok .non, h1.set h.length (cc (h.length + 1))) := by
    refine callN_im tf_Console_init__ rfl ?_
    simp [b_Console_init__, e1, e2, z]
  refine ⟨h1.set h.length (cc (h.length + 1)), ?_, get_set c1, B1.off (by omega) (by omega), fun m hm => ?_⟩
  · rw [mk_at]
    simp only [cf_call, key]
    simp
  · rw [set_off (by omega), fr m (by omega), List.getElem?_append_left hm]
end
end Ev.Pl

set_option linter.all false
set_option maxRecDepth 100000
namespace Ev.Pl
/-! ### k87: consoles beside benches -/
structure S7 (l c bA qA bB qB s j : Nat) (led : List Deed) (h : Hd) (p : Pool) : Prop where
  pool : h[l]? = some (pcell p)
  con : h[c]? = some (cc bB)
  A : Bn bA qA s led h
  B : Bn bB qB s led h
  lA : l ≠ qA
  lB : l ≠ qB
  ab : bA ≠ bB
  qq : qA ≠ qB
  good : Good s led
  len : led.length ≤ j
section
variable {l c bA qA bB qB s j n : Nat} {led : List Deed} {d : Deed} {h : Hd} {p p' : Pool}
theorem ne_bq {b q s : Nat} {t : List Nat} {ds xs : List D} {h : Hd} {q' : Nat} (e1 : h[b]? = some (bc s t ds q)) (e2 : h[q']? = some (.lst xs)) : b ≠ q' := fun z => by
  subst z; rw [e1] at e2; cases e2
theorem ne_cb {b c q s b' : Nat} {t : List Nat} {ds : List D} {h : Hd} (e2 : h[b]? = some (bc s t ds q)) (e1 : h[c]? = some (cc b')) : c ≠ b := fun z => by
  subst z; rw [e1] at e2
  have h3 := Option.some.inj e2
  simp only [cc, bc, Cell.ins.injEq] at h3
  exact absurd h3.1 (by decide)
theorem ne_lb {b l q s : Nat} {t : List Nat} {ds : List D} {h : Hd} (e2 : h[b]? = some (bc s t ds q)) (e1 : h[l]? = some (pcell p)) : l ≠ b := fun z => by
  subst z; rw [e1] at e2; cases e2
theorem ne_lc {c b l : Nat} {h : Hd} (e2 : h[c]? = some (cc b)) (e1 : h[l]? = some (pcell p)) : l ≠ c := fun z => by
  subst z; rw [e1] at e2; cases e2
theorem ne_cq {c b q : Nat} {xs : List D} {h : Hd} (e2 : h[c]? = some (cc b)) (e1 : h[q]? = some (.lst xs)) : c ≠ q := fun z => by
  subst z; rw [e1] at e2; cases e2
theorem S7.draw (S : S7 l c bA qA bB qB s j led h p) : S7 l c bA qA bB qB s j led (h.set l (pcell p')) p' :=
  ⟨get_set S.pool, by rw [set_off (ne_lc S.con S.pool)]; exact S.con, S.A.off (ne_lb S.A.bench S.pool) S.lA, S.B.off (ne_lb S.B.bench S.pool) S.lB, S.lA, S.lB, S.ab, S.qq, S.good, S.len⟩
theorem S7.same (S : S7 l c bA qA bB qB s j led h p) : S7 l c bA qA bB qB s (j + 1) led h p := ⟨S.pool, S.con, S.A, S.B, S.lA, S.lB, S.ab, S.qq, S.good, Nat.le_succ_of_le S.len⟩
theorem S7.push {e : Cell} (S : S7 l c bA qA bB qB s j led h p) : S7 l c bA qA bB qB s j led (h ++ [e]) p :=
  ⟨push_off S.pool, push_off S.con, S.A.push, S.B.push, S.lA, S.lB, S.ab, S.qq, S.good, S.len⟩
/-- the console's bench has done a deed, then the other one -/
theorem S7.mid (hs : s ∈ [2, 3, 4, 5]) (S : S7 l c bA qA bB qB s j led h p) : Bn bA qA s led (nextH h bB qB s led d) ∧ (nextH h bB qB s led d)[l]? = some (pcell p) ∧ (nextH h bB qB s led d)[c]? = some (cc bB) := by
  refine ⟨⟨?_, ?_⟩, ?_, ?_⟩
  · rw [nextH_off S.ab (ne_bq S.A.bench S.B.past)]; exact S.A.bench
  · rw [nextH_off (ne_bq S.B.bench S.A.past).symm S.qq]; exact S.A.past
  · rw [nextH_off (ne_lb S.B.bench S.pool) S.lB]; exact S.pool
  · rw [nextH_off (ne_cb S.B.bench S.con) (ne_cq S.con S.B.past)]; exact S.con
theorem S7.next (hs : s ∈ [2, 3, 4, 5]) (S : S7 l c bA qA bB qB s j led h p) (hj : j < 1000) (h1 : d.ok s) (h2 : reason (runT s led) d = none) : S7 l c bA qA bB qB s (j + 1) (led ++ [d]) (nextH (nextH h bB qB s led d) bA qA s led d) p := by
  have g := S.good.snoc h1 h2
  have hl : led.length < 1000 := by have := S.len; omega
  have B1 := (Bn.do (n := 0) hs S.B g hl).2
  obtain ⟨A1, p1, c1⟩ := S.mid (d := d) hs
  have A2 := (Bn.do (n := 0) hs A1 g hl).2
  refine ⟨?_, ?_, A2, ⟨?_, ?_⟩, S.lA, S.lB, S.ab, S.qq, g, by have := S.len; simp; omega⟩
  · rw [nextH_off (ne_lb S.A.bench S.pool) S.lA]; exact p1
  · rw [nextH_off (ne_cb S.A.bench S.con) (ne_cq S.con S.A.past)]; exact c1
  · rw [nextH_off S.ab.symm (ne_bq S.B.bench S.A.past)]; exact B1.bench
  · rw [nextH_off (ne_bq S.A.bench S.B.past).symm S.qq.symm]; exact B1.past
theorem say_ins {c b : Nat} (e : h[c]? = some (cc b)) : isIns h (.loc c) c_Console n_say = true := isIns_loc e rfl
theorem asks_1 {b q : Nat} {t : List Nat} {ds : List D} {σ : Sl} (hs : s ∈ [2, 3, 4, 5]) (v : Vt s t) (ec : h[c]? = some (cc b)) (e : h[b]? = some (bc s t ds q)) (hl : σ.length = 10) (h4 : σ[4]? = some (some (.loc c))) :
    compB (cf tab (n + 13)) [9] (.nm 9) .tt e_law_right_1 σ [.str S_turn, .str S_kind, .str S_sign, .str S_round, .str S_few] h = some (shownD t, h) := by
  have i3 := say_ins ec
  have q0 : callN tab (n + 13) f_Console_say [.loc c, .str S_turn] h = _ := say_turn (n := n + 1) hs v ec e
  have q1 : callN tab (n + 13) f_Console_say [.loc c, .str S_kind] h = _ := say_kind (n := n + 1) hs v ec e
  have q2 : callN tab (n + 13) f_Console_say [.loc c, .str S_sign] h = _ := say_sign (n := n + 1) hs v ec e
  have q3 : callN tab (n + 13) f_Console_say [.loc c, .str S_round] h = _ := say_round (n := n + 1) hs v ec e
  have q4 : callN tab (n + 13) f_Console_say [.loc c, .str S_few] h = _ := say_few (n := n + 1) hs v ec e
  match σ, hl, h4 with
  | [_, _, _, _, _, _, _, _, _, _], _, h4 =>
    simp at h4
    subst h4
    refine compB_cons (h1 := h) ?_ (compB_cons (h1 := h) ?_ (compB_cons (h1 := h) ?_ (compB_cons (h1 := h) ?_ (compB_cons (h1 := h) ?_ compB_nil))))
    · simp [e_law_right_1, i3, q0]
    · simp [e_law_right_1, i3, q1]
    · simp [e_law_right_1, i3, q2]
    · simp [e_law_right_1, i3, q3]
    · simp [e_law_right_1, i3, q4]
theorem asks_2 {b q : Nat} {t : List Nat} {ds : List D} {σ : Sl} (hs : s ∈ [2, 3, 4, 5]) (v : Vt s t) (ec : h[c]? = some (cc b)) (e : h[b]? = some (bc s t ds q)) (hl : σ.length = 10) (h4 : σ[7]? = some (some (.loc c))) :
    compB (cf tab (n + 13)) [9] (.nm 9) .tt e_law_right_2 σ [.str S_turn, .str S_kind, .str S_sign, .str S_round, .str S_few] h = some (shownD t, h) := by
  have i3 := say_ins ec
  have q0 : callN tab (n + 13) f_Console_say [.loc c, .str S_turn] h = _ := say_turn (n := n + 1) hs v ec e
  have q1 : callN tab (n + 13) f_Console_say [.loc c, .str S_kind] h = _ := say_kind (n := n + 1) hs v ec e
  have q2 : callN tab (n + 13) f_Console_say [.loc c, .str S_sign] h = _ := say_sign (n := n + 1) hs v ec e
  have q3 : callN tab (n + 13) f_Console_say [.loc c, .str S_round] h = _ := say_round (n := n + 1) hs v ec e
  have q4 : callN tab (n + 13) f_Console_say [.loc c, .str S_few] h = _ := say_few (n := n + 1) hs v ec e
  match σ, hl, h4 with
  | [_, _, _, _, _, _, _, _, _, _], _, h4 =>
    simp at h4
    subst h4
    refine compB_cons (h1 := h) ?_ (compB_cons (h1 := h) ?_ (compB_cons (h1 := h) ?_ (compB_cons (h1 := h) ?_ (compB_cons (h1 := h) ?_ compB_nil))))
    · simp [e_law_right_2, i3, q0]
    · simp [e_law_right_2, i3, q1]
    · simp [e_law_right_2, i3, q2]
    · simp [e_law_right_2, i3, q3]
    · simp [e_law_right_2, i3, q4]
end
def sg7 (l s bA c : Nat) (o2 o6 o7 o8 o9 : Option D) : Sl := [some (.loc l), some (iD s), o2, some (.loc bA), some (.loc c), some (.lst [.str S_turn, .str S_kind, .str S_sign, .str S_round, .str S_few]), o6, o7, o8, o9]
theorem shown_len {t : List Nat} : (shownD t).length = 5 := rfl
/-- one turn of the law's loop -/
theorem step_87 {l c bA qA bB qB s j n : Nat} {led : List Deed} {h : Hd} {p : Pool} {o2 o6 o7 o8 o9 : Option D} (hs : s ∈ [2, 3, 4, 5]) (S : S7 l c bA qA bB qB s j led h p) (hj : j < 1000) :
    ∃ h' p' led' o6', exSs (cf tab (n + 13)) l_law_right_1 (sg7 l s bA c o2 o6 o7 o8 o9) h = some (.nx (sg7 l s bA c o2 o6' o7 o8 o9) h') ∧ S7 l c bA qA bB qB s (j + 1) led' h' p' := by
  have e1 : callN tab (n + 13) f_law_deed [.loc l, iD s] h = _ := law_deed_ok (n := n + 10) hs S.pool
  have S1 := S.draw (p' := deedP p s)
  have hd := deedV_ok (p := p) hs
  generalize deedV p s = d at *
  generalize deedP p s = p2 at *
  generalize h.set l (pcell p2) = h1 at *
  have v := S1.good.vt hs _ rfl
  have hlen : led.length < 1000 := by have := S1.len; omega
  have e3 : ∀ h, callN tab (n + 13) f_law_said [dD d] h = some (.ok (.str (saidN d)), h) := fun h => (lineOk hs hd).said (n + 3) h
  have e4 : callN tab (n + 13) f_Console_say [.loc c, .str (saidN d)] h1 = some (.ok (.str (dueS (runT s led) d)), triedH h1 bB qB s (runT s led) (led.map dD) ((pastT s led).map tD) d) := say_deed (n := n + 1) hs v hd S1.con S1.B.bench S1.B.past (by simp; omega) (by simp [pastT]; omega)
  have i2 := say_ins S1.con
  have od : okS (dueS (runT s led) d) = true := okS_due
  have pl : ((pastT s led).map tD).length = led.length := by simp [pastT]
  have fin : ∃ h2 h3 led', triedH h1 bB qB s (runT s led) (led.map dD) ((pastT s led).map tD) d = h2 ∧ (∀ σ : Sl, σ[3]? = some (some (.loc bA)) → σ[6]? = some (some (dD d)) → evX (cf tab (n + 13)) (.tryl 0 (.me c_Bench f_Bench_do [100, 111] (.var 3) (.cons (.var 6) .nil))) σ h2 = some (.ok (.str (dueS (runT s led) d)), h3)) ∧ S7 l c bA qA bB qB s (j + 1) led' h3 p2 := by
    cases hx : reason (runT s led) d with
    | some r =>
      have d3 : ∀ h b q, triedH h b q s (runT s led) (led.map dD) ((pastT s led).map tD) d = h := fun h b q => by unfold triedH; rw [hx]
      refine ⟨h1, h1, led, d3 _ _ _, fun σ z3 z6 => ?_, S1.same⟩
      have SA : Sd l bA qA s j h1 p2 (runT s led) led ((pastT s led).map tD) := ⟨S1.pool, S1.A.bench, S1.A.past, S1.lA, v, S1.good.oks, S1.len, by rw [pl]; exact S1.len⟩
      have := ev_tried (n := n + 5) hs SA hj hd (bi_do SA.bench) z3 (xs := .cons (.var 6) .nil) (h := h1) (by simp [z6])
      rw [d3] at this
      exact this
    | none =>
      have d3 : ∀ h b q, triedH h b q s (runT s led) (led.map dD) ((pastT s led).map tD) d = nextH h b q s led d := fun h b q => by unfold triedH nextH; rw [hx]
      obtain ⟨A1, p1, c1⟩ := S1.mid (d := d) hs
      refine ⟨_, _, led ++ [d], d3 _ _ _, fun σ z3 z6 => ?_, S1.next hs hj hd hx⟩
      have SA : Sd l bA qA s j (nextH h1 bB qB s led d) p2 (runT s led) led ((pastT s led).map tD) := ⟨p1, A1.bench, A1.past, S1.lA, v, S1.good.oks, S1.len, by rw [pl]; exact S1.len⟩
      have := ev_tried (n := n + 5) hs SA hj hd (bi_do SA.bench) z3 (xs := .cons (.var 6) .nil) (h := nextH h1 bB qB s led d) (by simp [z6])
      rw [d3] at this
      exact this
  obtain ⟨h2, h3, led', d3, e5, S3⟩ := fin
  rw [d3] at e4
  have v' := S3.good.vt hs _ rfl
  have qq : ∀ (σ : Sl), σ.length = 10 → σ[4]? = some (some (.loc c)) → compB (cf tab (n + 13)) [9] (.nm 9) .tt e_law_right_1 σ [.str S_turn, .str S_kind, .str S_sign, .str S_round, .str S_few] h3 = some (shownD (runT s led'), h3) := fun σ hl h4 => asks_1 hs v' S3.con S3.B.bench hl h4
  have sh : callN tab (n + 13) f_law_shown [.loc bA] h3 = _ := shown_ok (n := n + 1) hs v' S3.A.bench
  have er := eqD_shown hs v'
  have rl := shown_len (t := runT s led')
  generalize dueS (runT s led) d = w at *
  refine ⟨_, p2, led', some (dD d), ?_, S3.push (e := .lst [.str (textN (runT s led')), .str (kindS (runT s led'))])⟩
  unfold sg7
  generalize shownD (runT s led') = R at *
  simp [-x_tryl, l_law_right_1, e1, e3, i2, e4, e5, eqD_str od od, qq, rl, sh, er]
end Ev.Pl

set_option linter.all false
set_option maxRecDepth 100000
namespace Ev.Pl
/-! ### k87: a console of a led bench -/
structure S8 (l c bA qA bL qL s k : Nat) (led : List Deed) (h : Hd) (p : Pool) : Prop where
  pool : h[l]? = some (pcell p)
  con : h[c]? = some (cc bL)
  A : Bn bA qA s led h
  L : Bn bL qL s (led.take k) h
  lL : l ≠ qL
  ab : bA ≠ bL
  qq : qA ≠ qL
section
variable {l c bA qA bL qL s k n : Nat} {led : List Deed} {h : Hd} {p : Pool}
theorem S8.push {e : Cell} (S : S8 l c bA qA bL qL s k led h p) : S8 l c bA qA bL qL s k led (h ++ [e]) p :=
  ⟨push_off S.pool, push_off S.con, S.A.push, S.L.push, S.lL, S.ab, S.qq⟩
theorem S8.undo (hk : k < led.length) (S : S8 l c bA qA bL qL s (k + 1) led h p) : callN tab (n + 12) f_Console_say [.loc c, .str S_undo] h = some (.ok (.str S_done), prevH h bL qL s (led.take k)) ∧ S8 l c bA qA bL qL s k led (prevH h bL qL s (led.take k)) p := by
  have e : led.take (k + 1) = led.take k ++ [led[k]] := by rw [List.take_succ, List.getElem?_eq_getElem hk]; rfl
  have L := S.L
  have Lb := S.L.bench
  have Lp := S.L.past
  rw [e] at L
  refine ⟨say_undo (n := n) L S.con, ?_, ?_, ⟨?_, ?_⟩, (Bn.undo (n := 0) L).2, S.lL, S.ab, S.qq⟩
  · rw [prevH_off (ne_lb Lb S.pool) S.lL]; exact S.pool
  · rw [prevH_off (ne_cb Lb S.con) (ne_cq S.con Lp)]; exact S.con
  · rw [prevH_off S.ab (ne_bq S.A.bench Lp)]; exact S.A.bench
  · rw [prevH_off (ne_bq Lb S.A.past).symm S.qq]; exact S.A.past
end
theorem stay_text {s : Nat} (hs : s ∈ [2, 3, 4, 5]) : textN (stayL s) = S_stay ∧ natStr (rdN (stayL s)) = [49] := by
  have key : ([2, 3, 4, 5].all fun s => decide (textN (stayL s) = S_stay) && decide (natStr (rdN (stayL s)) = [49])) = true := by decide +kernel
  have h1 := List.all_eq_true.mp key s hs
  simp only [Bool.and_eq_true, decide_eq_true_eq] at h1
  exact h1
theorem seen_87 {s : Nat} {led : List Deed} (hs : s ∈ [2, 3, 4, 5]) (g : Good s led) (hl : led.length < 1000) : ∃ u, (∀ h, biD .repr h [.lst [tD (runT s led), .tup (led.map dD)]] = some (.str u)) ∧ okS u = true := by
  have hs5 : s ≤ 5 := by simp at hs; omega
  have v := g.vt hs _ rfl
  have h1 : Rpx 100000 3 (.tup (led.map dD)) := (rp_tup (k := 70) (m := 2) fun x hx => by
    obtain ⟨d, hd, rfl⟩ := List.mem_map.mp hx
    exact rp_dD hs (g.oks d hd)).mono (by rw [List.length_map]; omega) (Nat.le_refl _)
  refine repr_of (k := 400000) (m := 4) ((rp_lst (k := 100000) (m := 3) fun x hx => ?_).mono (by simp) (Nat.le_refl _)) (by decide) (by decide)
  simp only [List.mem_cons, List.not_mem_nil, or_false] at hx
  rcases hx with rfl | rfl
  · exact (rp_tD hs5 v).mono (by decide) (by decide)
  · exact h1
theorem right_ok {n s l : Nat} {h : Hd} {p : Pool} (hs : s ∈ [2, 3, 4, 5]) (hl : h[l]? = some (pcell p)) : ∃ h' p', callN tab (n + 14) f_law_right [.loc l, iD s] h = some (.ok (.bl true), h') ∧ h'[l]? = some (pcell p') := by
  have hs' : s < 1000 := by simp at hs; omega
  have hlt := get_lt hl
  have e1 : ∀ {h : Hd}, mkD (cf tab (n + 13)) c_Bench f_Bench_init__ [iD s] h = some (.ok (.loc h.length), h ++ [bc s (stayL s) [] (h.length + 1), .lst []]) := bench_mk (n := n + 8) hs
  obtain ⟨h0, hh0⟩ : ∃ h0, h0 = h ++ [bc s (stayL s) [] (h.length + 1), .lst []] := ⟨_, rfl⟩
  have hl0 : h0.length = h.length + 2 := by rw [hh0]; simp
  have p0 : h0[l]? = some (pcell p) := by rw [hh0, List.getElem?_append_left hlt]; exact hl
  have A0 : Bn h.length (h.length + 1) s [] h0 := ⟨by rw [hh0]; simp [runT], by rw [hh0]; simp [pastT]⟩
  obtain ⟨h1, hh1⟩ : ∃ h1, h1 = h0 ++ [bc s (stayL s) [] (h0.length + 1), .lst []] := ⟨_, rfl⟩
  have hl1 : h1.length = h.length + 4 := by rw [hh1]; simp; omega
  have b1 : h1[h0.length]? = some (bc s (stayL s) [] (h0.length + 1)) := by rw [hh1]; simp
  have fr1 : ∀ m, m < h0.length → h1[m]? = h0[m]? := fun m hm => by rw [hh1, List.getElem?_append_left hm]
  have e2 : mkD (cf tab (n + 13)) c_Console f_Console_init__ [.loc h0.length] h1 = some (.ok (.loc h1.length), h1 ++ [cc (h1.length + 1), bc s (stayL s) [] (h1.length + 2), .lst []]) := console_mk (n := n + 5) hs b1
  obtain ⟨h2, hh2⟩ : ∃ h2, h2 = h1 ++ [cc (h1.length + 1), bc s (stayL s) [] (h1.length + 2), .lst []] := ⟨_, rfl⟩
  have fr2 : ∀ m, m < h0.length → h2[m]? = h0[m]? := fun m hm => by rw [hh2, List.getElem?_append_left (by omega)]; exact fr1 m hm
  have S0 : S7 l h1.length h.length (h.length + 1) (h1.length + 1) (h1.length + 2) s 0 [] h2 p := by
    refine ⟨?_, ?_, ⟨?_, ?_⟩, ⟨?_, ?_⟩, by omega, by omega, by omega, by omega, (fun i d e => by simp at e), Nat.le_refl _⟩
    · rw [fr2 _ (by omega)]; exact p0
    · rw [hh2]; simp
    · rw [fr2 _ (by omega)]; exact A0.bench
    · rw [fr2 _ (by omega)]; exact A0.past
    · rw [hh2, List.getElem?_append_right (by omega)]; simp [runT]
    · rw [hh2, List.getElem?_append_right (by omega)]; simp [pastT]
  have e20 : rngD [.int 20] = some ((List.range 20).map iD) := rngD_nat (n := 20) (by decide)
  obtain ⟨σ', h', ef, led, p', o2, o6, o7, o8, o9, rfl, S'⟩ := forB_inv (C := cf tab (n + 13)) (g := .nm 2) (b := l_law_right_1)
    (fun j σ h' => ∃ led p o2 o6 o7 o8 o9, σ = sg7 l s h.length h1.length o2 o6 o7 o8 o9 ∧ S7 l h1.length h.length (h.length + 1) (h1.length + 1) (h1.length + 2) s j led h' p)
    (xs := (List.range 20).map iD) (σ := sg7 l s h.length h1.length none none none none none) (h := h2)
    ⟨[], p, none, none, none, none, none, rfl, S0⟩ (by
      intro j x σ h2 hx ⟨led, p, o2, o6, o7, o8, o9, es, S⟩
      subst es
      have hj : j < 20 := by have := get_lt' hx; simpa using this
      obtain ⟨i, rfl⟩ : ∃ i, x = iD i := by
        rw [List.getElem?_map] at hx
        obtain ⟨i, _, e⟩ := Option.map_eq_some_iff.mp hx
        exact ⟨i, e.symm⟩
      obtain ⟨h', p', led', o6', e, S'⟩ := step_87 (n := n) (o2 := some (iD i)) (o6 := o6) (o7 := o7) (o8 := o8) (o9 := o9) hs S (by omega)
      refine ⟨_, h', ?_, led', p', some (iD i), o6', o7, o8, o9, rfl, S'⟩
      have z : evTg (cf tab (n + 13)) (.nm 2) (iD i) (sg7 l s h.length h1.length o2 o6 o7 o8 o9) h2 = some (.ok (sg7 l s h.length h1.length (some (iD i)) o6 o7 o8 o9), h2) := by simp [sg7]
      rw [z]
      exact e)
  have hlen : led.length < 1000 := by have := S'.len; simp at this; omega
  have v := S'.good.vt hs _ rfl
  obtain ⟨h3, e3, c3, L3, fr3⟩ := console_led (n := n + 3) hs S'.A S'.good hlen
  have T3 : S8 l h'.length h.length (h.length + 1) (h'.length + 1) (h'.length + 2) s led.length led h3 p' := by
    have z1 := get_lt S'.A.bench
    have z2 := get_lt S'.A.past
    have z3 := get_lt S'.pool
    refine ⟨?_, c3, ⟨?_, ?_⟩, by rw [List.take_length]; exact L3, by omega, by omega, by omega⟩
    · rw [fr3 _ z3]; exact S'.pool
    · rw [fr3 _ z1]; exact S'.A.bench
    · rw [fr3 _ z2]; exact S'.A.past
  obtain ⟨u, ru, ou⟩ := seen_87 hs S'.good hlen
  have g := S'.good
  have eLd := T3.L.bench
  rw [List.take_length] at eLd
  obtain ⟨cL, hcL⟩ : ∃ cL, cL = h'.length := ⟨_, rfl⟩
  rw [← hcL] at e3 c3 L3 T3 eLd
  have f3a := bf_turn (n := n + 13) T3.A.bench
  have f3b := bf_deeds (n := n + 13) T3.A.bench
  have qq : ∀ (σ : Sl), σ.length = 10 → σ[7]? = some (some (.loc cL)) → compB (cf tab (n + 13)) [9] (.nm 9) .tt e_law_right_2 σ [.str S_turn, .str S_kind, .str S_sign, .str S_round, .str S_few] h3 = some (shownD (runT s led), h3) := fun σ hl h4 => asks_2 hs v T3.con eLd hl h4
  have sh : callN tab (n + 13) f_law_shown [.loc h.length] h3 = some (.ok (.lst (shownD (runT s led))), h3 ++ [.lst [.str (textN (runT s led)), .str (kindS (runT s led))]]) := shown_ok (n := n + 1) hs v T3.A.bench
  have er := eqD_shown hs v
  have rl := shown_len (t := runT s led)
  have T4 := T3.push (e := .lst [.str (textN (runT s led)), .str (kindS (runT s led))])
  have f4 := bf_deeds (n := n + 13) T4.A.bench
  obtain ⟨h4, hh4⟩ : ∃ h4, h4 = h3 ++ [.lst [.str (textN (runT s led)), .str (kindS (runT s led))]] := ⟨_, rfl⟩
  rw [← hh4] at sh T4 f4
  have el : lenK (.tup (led.map dD)) = some (iD led.length) := by simp
  have ern : rngD [iD led.length] = some ((List.range led.length).map iD) := rngD_nat (by omega)
  obtain ⟨σ'', h5, ef2, o2', rfl, T5⟩ := forB_inv (C := cf tab (n + 13)) (g := .nm 2) (b := l_law_right_2)
    (fun j σ hh => ∃ o2, σ = sg7 l s h.length h1.length o2 o6 (some (.loc cL)) (some (.str u)) o9 ∧ S8 l cL h.length (h.length + 1) (cL + 1) (cL + 2) s (led.length - j) led hh p')
    (xs := (List.range led.length).map iD) (σ := sg7 l s h.length h1.length o2 o6 (some (.loc cL)) (some (.str u)) o9) (h := h4)
    ⟨o2, rfl, by rw [Nat.sub_zero]; exact T4⟩ (by
      intro j x σ hh hx ⟨o2, es, S⟩
      subst es
      have hj : j < led.length := by have := get_lt' hx; simpa using this
      have ej : led.length - j = (led.length - (j + 1)) + 1 := by omega
      rw [ej] at S
      obtain ⟨e, S'⟩ := S.undo (n := n + 1) (by omega)
      refine ⟨_, _, ?_, some x, rfl, S'⟩
      have i1 := say_ins S.con
      simp [sg7, l_law_right_2, i1, e, eqD_str, okS])
  rw [List.length_map, List.length_range, Nat.sub_self] at T5
  have i5 := say_ins T5.con
  have w1 : callN tab (n + 13) f_Console_say [.loc cL, .str S_undo] h5 = some (.ok (.str S_nothing), h5) := say_nothing (n := n + 1) T5.L T5.con
  have w2 : callN tab (n + 13) f_Console_say [.loc cL, .str S_turn] h5 = some (.ok (.str (textN (stayL s))), h5) := say_turn (n := n + 1) hs (vt_stay s) T5.con T5.L.bench
  have w3 : callN tab (n + 13) f_Console_say [.loc cL, .str S_round] h5 = some (.ok (.str (natStr (rdN (stayL s)))), h5) := say_round (n := n + 1) hs (vt_stay s) T5.con T5.L.bench
  rw [(stay_text hs).1] at w2
  rw [(stay_text hs).2] at w3
  have f5a := bf_turn (n := n + 13) T5.A.bench
  have f5b := bf_deeds (n := n + 13) T5.A.bench
  have e1h : mkD (cf tab (n + 13)) c_Bench f_Bench_init__ [iD s] h = some (.ok (.loc h.length), h0) := by rw [hh0]; exact e1
  have e1h' : mkD (cf tab (n + 13)) c_Bench f_Bench_init__ [iD s] h0 = some (.ok (.loc h0.length), h1) := by rw [hh1]; exact e1
  have e2h : mkD (cf tab (n + 13)) c_Console f_Console_init__ [.loc h0.length] h1 = some (.ok (.loc h1.length), h2) := by rw [hh2]; exact e2
  refine ⟨h5, p', ?_, T5.pool⟩
  refine callN_im tf_law_right rfl ?_
  have ss : eqD (.str u) (.str u) = some true := by rw [eqD_str ou ou]; simp
  unfold sg7 at ef ef2
  generalize shownD (runT s led) = R at *
  generalize led.map dD = ds at *
  simp [b_law_right, e1h, e1h', e2h, e20, ef, e3, f3a, f3b, ru, qq, rl, sh, er, f4, el, ern, ef2, i5, w1, w2, w3, eqD_str, okS, f5a, f5b]
  simp [ss]
end Ev.Pl

set_option linter.all false
set_option maxRecDepth 100000
namespace Ev.Pl
/-! ### the law: two or three pools, four sizes each -/
theorem law_ok {n : Nat} {ns : List Int} (hl : ns.length < 1000000) (R : ∀ (s l : Nat) (h : Hd) (p : Pool), s ∈ [2, 3, 4, 5] → h[l]? = some (pcell p) → ∃ h' p', callN tab (n + 1) f_law_right [.loc l, iD s] h = some (.ok (.bl true), h') ∧ h'[l]? = some (pcell p')) :
    ∃ h, callN tab (n + 2) f_law [.ro (ns.map .int)] [] = some (.ok (.bl true), h) := by
  have inner : ∀ (l : Nat) (h : Hd) (p : Pool) (o0 o1 o3 : Option D), h[l]? = some (pcell p) → ∃ h' o3', forB (cf tab (n + 1)) (.nm 3) l_law_1 [.int 3, .int 5, .int 2, .int 4] [o0, o1, some (.loc l), o3] h = some (.nx [o0, o1, some (.loc l), o3'] h') := fun l h p o0 o1 o3 hp => by
    have one : ∀ (s : Nat) (h : Hd) (p : Pool) (o3 : Option D), s ∈ [2, 3, 4, 5] → h[l]? = some (pcell p) → ∃ h' p', thenS (evTg (cf tab (n + 1)) (.nm 3) (iD s) [o0, o1, some (.loc l), o3] h) [o0, o1, some (.loc l), o3] (fun σ1 h2 => exSs (cf tab (n + 1)) l_law_1 σ1 h2) = some (.nx [o0, o1, some (.loc l), some (iD s)] h') ∧ h'[l]? = some (pcell p') := fun s h p o3 hs hp => by
      obtain ⟨h', p', e, hp'⟩ := R s l h p hs hp
      refine ⟨h', p', ?_, hp'⟩
      simp [l_law_1, e]
    obtain ⟨h1, p1, e1, q1⟩ := one 3 h p o3 (by decide) hp
    obtain ⟨h2, p2, e2, q2⟩ := one 5 h1 p1 (some (iD 3)) (by decide) q1
    obtain ⟨h3, p3, e3, q3⟩ := one 2 h2 p2 (some (iD 5)) (by decide) q2
    obtain ⟨h4, p4, e4, q4⟩ := one 4 h3 p3 (some (iD 2)) (by decide) q3
    refine ⟨h4, some (iD 4), ?_⟩
    have := forB_cons (xs := [.int 5, .int 2, .int 4]) e1
    rw [show [D.int 3, D.int 5, D.int 2, D.int 4] = iD 3 :: [.int 5, .int 2, .int 4] from rfl, this]
    have := forB_cons (xs := [.int 2, .int 4]) e2
    rw [show [D.int 5, D.int 2, D.int 4] = iD 5 :: [.int 2, .int 4] from rfl, this]
    have := forB_cons (xs := [.int 4]) e3
    rw [show [D.int 2, D.int 4] = iD 2 :: [.int 4] from rfl, this]
    have := forB_cons (xs := []) e4
    rw [show [D.int 4] = iD 4 :: [] from rfl, this]
    rfl
  have m : ∃ m, m < 4 ∧ biD .max [] [.int 2, .int (if (3 : Int) < (ns.length : Int) then 3 else (ns.length : Int))] = some (iD m) := by
    rw [bi_max2]
    by_cases h1 : (3 : Int) < (ns.length : Int)
    · exact ⟨3, by decide, by simp [h1]⟩
    · rw [if_neg h1]
      by_cases h2 : (ns.length : Int) > 2
      · exact ⟨ns.length, by omega, by rw [if_pos h2]⟩
      · exact ⟨2, by decide, by rw [if_neg h2]; rfl⟩
  obtain ⟨m, hm, em⟩ := m
  have er : rngD [iD m] = some ((List.range m).map iD) := rngD_nat (by omega)
  obtain ⟨σ', h', ef, o1, o2, o3, rfl⟩ := forB_inv (C := cf tab (n + 1)) (g := .nm 1) (b := l_law_2) (fun j σ h' => ∃ o1 o2 o3, σ = [some (.ro (ns.map .int)), o1, o2, o3]) (xs := (List.range m).map iD) (σ := [some (.ro (ns.map .int)), none, none, none]) (h := [])
    ⟨none, none, none, rfl⟩ (by
      intro j x σ h2 hx ⟨o1, o2, o3, es⟩
      subst es
      obtain ⟨k, rfl⟩ : ∃ k, x = iD k := by
        rw [List.getElem?_map] at hx
        obtain ⟨i, _, e⟩ := Option.map_eq_some_iff.mp hx
        exact ⟨i, e.symm⟩
      obtain ⟨p, ep⟩ := pool_ok (n := n) (h := h2) (ns := ns) (k := k)
      obtain ⟨h3, o3', e3⟩ := inner h2.length (h2 ++ [pcell p]) p (some (.ro (ns.map .int))) (some (iD k)) o3 push_at
      refine ⟨_, h3, ?_, some (iD k), some (.loc h2.length), o3', rfl⟩
      simp [l_law_2, ep, e3])
  refine ⟨h', callN_im tf_law rfl ?_⟩
  have hlz : ns.length ≤ szL := le_szL hl
  have el : lenK (.ro (ns.map .int)) = some (.int ns.length) := by simp
  simp [b_law, em, er, ef]
end Ev.Pl

set_option maxHeartbeats 0
namespace Ev
def top (i : Nat) : PySem.Stmt := PySem.Challenge.pw_turnproducts_k87_whole_consoles_beside_b.main.body.getD i (.Pass ⟨0, 0, 0, 0⟩)
def mth (i j : Nat) : PySem.Stmt := match top i with
  | .ClassDef _ _ _ b .. => b.getD j (.Pass ⟨0, 0, 0, 0⟩)
  | _ => .Pass ⟨0, 0, 0, 0⟩
def N_wall : List PySem.Str := [("k" : PySem.Str)]
abbrev s_wall : PySem.Stmt := top 0
def N_is_whole : List PySem.Str := [("value" : PySem.Str)]
abbrev s_is_whole : PySem.Stmt := top 12
def N_is_between : List PySem.Str := [("value" : PySem.Str), ("least" : PySem.Str), ("most" : PySem.Str)]
abbrev s_is_between : PySem.Stmt := top 13
def N_is_string : List PySem.Str := [("value" : PySem.Str)]
abbrev s_is_string : PySem.Stmt := top 14
def N_is_made_of : List PySem.Str := [("text" : PySem.Str), ("signs" : PySem.Str), ("sign" : PySem.Str)]
abbrev s_is_made_of : PySem.Stmt := top 15
def N_is_tuple_of : List PySem.Str := [("value" : PySem.Str), ("many" : PySem.Str)]
abbrev s_is_tuple_of : PySem.Stmt := top 16
def N_words_of : List PySem.Str := [("line" : PySem.Str), ("words" : PySem.Str)]
abbrev s_words_of : PySem.Stmt := top 17
def N_number_in : List PySem.Str := [("word" : PySem.Str), ("found" : PySem.Str), ("sign" : PySem.Str)]
abbrev s_number_in : PySem.Stmt := top 18
def N_numbers_in : List PySem.Str := [("words" : PySem.Str), ("found" : PySem.Str), ("word" : PySem.Str)]
abbrev s_numbers_in : PySem.Stmt := top 19
def N_is_seats : List PySem.Str := [("value" : PySem.Str)]
abbrev s_is_seats : PySem.Stmt := top 23
def N_check_seats : List PySem.Str := [("seats" : PySem.Str)]
abbrev s_check_seats : PySem.Stmt := top 24
def N_is_seat : List PySem.Str := [("seats" : PySem.Str), ("value" : PySem.Str)]
abbrev s_is_seat : PySem.Stmt := top 25
def N_is_turn : List PySem.Str := [("seats" : PySem.Str), ("value" : PySem.Str), ("own" : PySem.Str)]
abbrev s_is_turn : PySem.Stmt := top 26
def N_check_turn : List PySem.Str := [("seats" : PySem.Str), ("value" : PySem.Str)]
abbrev s_check_turn : PySem.Stmt := top 27
def N_check_turned : List PySem.Str := [("seats" : PySem.Str), ("turn" : PySem.Str)]
abbrev s_check_turned : PySem.Stmt := top 28
def N_stay_of : List PySem.Str := [("seats" : PySem.Str), ("seat" : PySem.Str)]
abbrev s_stay_of : PySem.Stmt := top 29
def N_then_by : List PySem.Str := [("turn" : PySem.Str), ("second" : PySem.Str), ("own" : PySem.Str)]
abbrev s_then_by : PySem.Stmt := top 30
def N_back_by : List PySem.Str := [("turn" : PySem.Str), ("seat" : PySem.Str)]
abbrev s_back_by : PySem.Stmt := top 31
def N_power_by : List PySem.Str := [("turn" : PySem.Str), ("times" : PySem.Str), ("found" : PySem.Str), ("lap" : PySem.Str)]
abbrev s_power_by : PySem.Stmt := top 32
def N_exchange_of : List PySem.Str := [("seats" : PySem.Str), ("one" : PySem.Str), ("other" : PySem.Str), ("found" : PySem.Str)]
abbrev s_exchange_of : PySem.Stmt := top 33
def N_ring_at : List PySem.Str := [("turn" : PySem.Str), ("seat" : PySem.Str), ("found" : PySem.Str)]
abbrev s_ring_at : PySem.Stmt := top 34
def N_rings_by : List PySem.Str := [("turn" : PySem.Str), ("told" : PySem.Str), ("seat" : PySem.Str), ("ring" : PySem.Str)]
abbrev s_rings_by : PySem.Stmt := top 35
def N_kind_by : List PySem.Str := [("turn" : PySem.Str), ("ring" : PySem.Str)]
abbrev s_kind_by : PySem.Stmt := top 36
def N_sign_by : List PySem.Str := [("turn" : PySem.Str)]
abbrev s_sign_by : PySem.Stmt := top 37
def N_round_by : List PySem.Str := [("turn" : PySem.Str), ("times" : PySem.Str)]
abbrev s_round_by : PySem.Stmt := top 38
def N_fewest_by : List PySem.Str := [("turn" : PySem.Str)]
abbrev s_fewest_by : PySem.Stmt := top 39
def N_kind_of : List PySem.Str := [("seats" : PySem.Str), ("turn" : PySem.Str)]
abbrev s_kind_of : PySem.Stmt := top 40
def N_sign : List PySem.Str := [("seats" : PySem.Str), ("turn" : PySem.Str)]
abbrev s_sign : PySem.Stmt := top 41
def N_round_of : List PySem.Str := [("seats" : PySem.Str), ("turn" : PySem.Str)]
abbrev s_round_of : PySem.Stmt := top 42
def N_fewest_exchanges : List PySem.Str := [("seats" : PySem.Str), ("turn" : PySem.Str)]
abbrev s_fewest_exchanges : PySem.Stmt := top 43
def N_has_form : List PySem.Str := [("value" : PySem.Str)]
abbrev s_has_form : PySem.Stmt := top 48
def N_check_exchange : List PySem.Str := [("seats" : PySem.Str), ("value" : PySem.Str)]
abbrev s_check_exchange : PySem.Stmt := top 49
def N_check_deed : List PySem.Str := [("seats" : PySem.Str), ("value" : PySem.Str)]
abbrev s_check_deed : PySem.Stmt := top 50
def N_reason_against : List PySem.Str := [("turn" : PySem.Str), ("deed" : PySem.Str)]
abbrev s_reason_against : PySem.Stmt := top 51
def N_turn_behind : List PySem.Str := [("turn" : PySem.Str), ("deed" : PySem.Str)]
abbrev s_turn_behind : PySem.Stmt := top 52
def N_check_bench : List PySem.Str := [("value" : PySem.Str)]
abbrev s_check_bench : PySem.Stmt := top 54
def N_copy_of : List PySem.Str := [("bench" : PySem.Str), ("found" : PySem.Str), ("deed" : PySem.Str)]
abbrev s_copy_of : PySem.Stmt := top 55
def N_row_of : List PySem.Str := [("turn" : PySem.Str), ("rings" : PySem.Str), ("ring" : PySem.Str), ("seat" : PySem.Str)]
abbrev s_row_of : PySem.Stmt := top 60
def N_ring_in : List PySem.Str := [("seats" : PySem.Str), ("text" : PySem.Str), ("ring" : PySem.Str), ("seat" : PySem.Str)]
abbrev s_ring_in : PySem.Stmt := top 61
def N_turn_of_rings : List PySem.Str := [("seats" : PySem.Str), ("rings" : PySem.Str), ("found" : PySem.Str), ("ring" : PySem.Str), ("seat" : PySem.Str), ("there" : PySem.Str)]
abbrev s_turn_of_rings : PySem.Stmt := top 62
def N_turn_in : List PySem.Str := [("seats" : PySem.Str), ("text" : PySem.Str), ("rings" : PySem.Str), ("turn" : PySem.Str), ("told" : PySem.Str), ("part" : PySem.Str), ("ring" : PySem.Str), ("seat" : PySem.Str)]
abbrev s_turn_in : PySem.Stmt := top 63
def N_turn_text : List PySem.Str := [("seats" : PySem.Str), ("turn" : PySem.Str)]
abbrev s_turn_text : PySem.Stmt := top 64
def N_said_of_deed : List PySem.Str := [("bench" : PySem.Str), ("deed" : PySem.Str), ("barred" : PySem.Str)]
abbrev s_said_of_deed : PySem.Stmt := top 69
def N_said_of_undo : List PySem.Str := [("bench" : PySem.Str)]
abbrev s_said_of_undo : PySem.Stmt := top 70
def N_said_of_word : List PySem.Str := [("bench" : PySem.Str), ("word" : PySem.Str), ("own" : PySem.Str)]
abbrev s_said_of_word : PySem.Stmt := top 71
def N_said_of_number : List PySem.Str := [("bench" : PySem.Str), ("word" : PySem.Str)]
abbrev s_said_of_number : PySem.Stmt := top 72
def N_law_pool : List PySem.Str := [("script" : PySem.Str), ("k" : PySem.Str), ("wide" : PySem.Str), ("each" : PySem.Str), ("cell" : PySem.Str), ("mixed" : PySem.Str)]
abbrev s_law_pool : PySem.Stmt := top 75
def N_law_take : List PySem.Str := [("pool" : PySem.Str), ("many" : PySem.Str), ("stirred" : PySem.Str), ("digit" : PySem.Str)]
abbrev s_law_take : PySem.Stmt := top 76
def N_law_of : List PySem.Str := [("pool" : PySem.Str), ("some" : PySem.Str)]
abbrev s_law_of : PySem.Stmt := top 77
def N_law_turns : List PySem.Str := [("seats" : PySem.Str), ("found" : PySem.Str), ("place" : PySem.Str), ("longer" : PySem.Str), ("some" : PySem.Str), ("seat" : PySem.Str)]
abbrev s_law_turns : PySem.Stmt := top 78
def N_law_rings : List PySem.Str := [("turn" : PySem.Str), ("left" : PySem.Str), ("found" : PySem.Str), ("ring" : PySem.Str), ("here" : PySem.Str), ("seat" : PySem.Str)]
abbrev s_law_rings : PySem.Stmt := top 79
def N_law_deed : List PySem.Str := [("pool" : PySem.Str), ("seats" : PySem.Str), ("kind" : PySem.Str), ("one" : PySem.Str)]
abbrev s_law_deed : PySem.Stmt := top 80
def N_law_text : List PySem.Str := [("turn" : PySem.Str), ("rings" : PySem.Str), ("parts" : PySem.Str), ("ring" : PySem.Str), ("seat" : PySem.Str)]
abbrev s_law_text : PySem.Stmt := top 82
def N_law_said : List PySem.Str := [("deed" : PySem.Str), ("each" : PySem.Str)]
abbrev s_law_said : PySem.Stmt := top 83
def N_law_shown : List PySem.Str := [("bench" : PySem.Str), ("told" : PySem.Str), ("length" : PySem.Str)]
abbrev s_law_shown : PySem.Stmt := top 84
def N_law_right : List PySem.Str := [("pool" : PySem.Str), ("seats" : PySem.Str), ("time" : PySem.Str), ("bench" : PySem.Str), ("console" : PySem.Str), ("words" : PySem.Str), ("deed" : PySem.Str), ("later" : PySem.Str), ("seen" : PySem.Str), ("word" : PySem.Str)]
abbrev s_law_right : PySem.Stmt := top 85
def N_law : List PySem.Str := [("script" : PySem.Str), ("k" : PySem.Str), ("pool" : PySem.Str), ("most" : PySem.Str)]
abbrev s_law : PySem.Stmt := top 86
def N_Bench_init__ : List PySem.Str := [("self" : PySem.Str), ("seats" : PySem.Str)]
abbrev s_Bench_init__ : PySem.Stmt := mth 53 0
def N_Bench_do : List PySem.Str := [("self" : PySem.Str), ("deed" : PySem.Str), ("reason" : PySem.Str)]
abbrev s_Bench_do : PySem.Stmt := mth 53 1
def N_Bench_undo : List PySem.Str := [("self" : PySem.Str)]
abbrev s_Bench_undo : PySem.Stmt := mth 53 2
def N_Bench_rings : List PySem.Str := [("self" : PySem.Str)]
abbrev s_Bench_rings : PySem.Stmt := mth 53 3
def N_Bench_is_stay : List PySem.Str := [("self" : PySem.Str)]
abbrev s_Bench_is_stay : PySem.Stmt := mth 53 4
def N_Bench_eq__ : List PySem.Str := [("self" : PySem.Str), ("other" : PySem.Str)]
abbrev s_Bench_eq__ : PySem.Stmt := mth 53 5
def N_Console_init__ : List PySem.Str := [("self" : PySem.Str), ("bench" : PySem.Str)]
abbrev s_Console_init__ : PySem.Stmt := mth 73 0
def N_Console_say : List PySem.Str := [("self" : PySem.Str), ("line" : PySem.Str), ("words" : PySem.Str), ("numbers" : PySem.Str)]
abbrev s_Console_say : PySem.Stmt := mth 73 1
def ti : Ti where
  G := [(("_wall" : PySem.Str), GV.fn f_wall), (("is_whole" : PySem.Str), GV.fn f_is_whole), (("is_between" : PySem.Str), GV.fn f_is_between), (("is_string" : PySem.Str), GV.fn f_is_string), (("is_made_of" : PySem.Str), GV.fn f_is_made_of), (("is_tuple_of" : PySem.Str), GV.fn f_is_tuple_of), (("words_of" : PySem.Str), GV.fn f_words_of), (("number_in" : PySem.Str), GV.fn f_number_in), (("numbers_in" : PySem.Str), GV.fn f_numbers_in), (("is_seats" : PySem.Str), GV.fn f_is_seats), (("check_seats" : PySem.Str), GV.fn f_check_seats), (("is_seat" : PySem.Str), GV.fn f_is_seat), (("is_turn" : PySem.Str), GV.fn f_is_turn), (("check_turn" : PySem.Str), GV.fn f_check_turn), (("check_turned" : PySem.Str), GV.fn f_check_turned), (("stay_of" : PySem.Str), GV.fn f_stay_of), (("then_by" : PySem.Str), GV.fn f_then_by), (("back_by" : PySem.Str), GV.fn f_back_by), (("power_by" : PySem.Str), GV.fn f_power_by), (("exchange_of" : PySem.Str), GV.fn f_exchange_of), (("ring_at" : PySem.Str), GV.fn f_ring_at), (("rings_by" : PySem.Str), GV.fn f_rings_by), (("kind_by" : PySem.Str), GV.fn f_kind_by), (("sign_by" : PySem.Str), GV.fn f_sign_by), (("round_by" : PySem.Str), GV.fn f_round_by), (("fewest_by" : PySem.Str), GV.fn f_fewest_by), (("kind_of" : PySem.Str), GV.fn f_kind_of), (("sign" : PySem.Str), GV.fn f_sign), (("round_of" : PySem.Str), GV.fn f_round_of), (("fewest_exchanges" : PySem.Str), GV.fn f_fewest_exchanges), (("has_form" : PySem.Str), GV.fn f_has_form), (("check_exchange" : PySem.Str), GV.fn f_check_exchange), (("check_deed" : PySem.Str), GV.fn f_check_deed), (("reason_against" : PySem.Str), GV.fn f_reason_against), (("turn_behind" : PySem.Str), GV.fn f_turn_behind), (("check_bench" : PySem.Str), GV.fn f_check_bench), (("copy_of" : PySem.Str), GV.fn f_copy_of), (("row_of" : PySem.Str), GV.fn f_row_of), (("ring_in" : PySem.Str), GV.fn f_ring_in), (("turn_of_rings" : PySem.Str), GV.fn f_turn_of_rings), (("turn_in" : PySem.Str), GV.fn f_turn_in), (("turn_text" : PySem.Str), GV.fn f_turn_text), (("said_of_deed" : PySem.Str), GV.fn f_said_of_deed), (("said_of_undo" : PySem.Str), GV.fn f_said_of_undo), (("said_of_word" : PySem.Str), GV.fn f_said_of_word), (("said_of_number" : PySem.Str), GV.fn f_said_of_number), (("_law_pool" : PySem.Str), GV.fn f_law_pool), (("_law_take" : PySem.Str), GV.fn f_law_take), (("_law_of" : PySem.Str), GV.fn f_law_of), (("_law_turns" : PySem.Str), GV.fn f_law_turns), (("_law_rings" : PySem.Str), GV.fn f_law_rings), (("_law_deed" : PySem.Str), GV.fn f_law_deed), (("_law_text" : PySem.Str), GV.fn f_law_text), (("_law_said" : PySem.Str), GV.fn f_law_said), (("_law_shown" : PySem.Str), GV.fn f_law_shown), (("_law_right" : PySem.Str), GV.fn f_law_right), (("law" : PySem.Str), GV.fn f_law), (("Bench" : PySem.Str), GV.cls 8 f_Bench_init__), (("Console" : PySem.Str), GV.cls 9 f_Console_init__), (("TurnError" : PySem.Str), GV.exc 0), (("InvalidNumber" : PySem.Str), GV.exc 1), (("InvalidTurn" : PySem.Str), GV.exc 2), (("InvalidLine" : PySem.Str), GV.exc 3), (("NotABench" : PySem.Str), GV.exc 4), (("InvalidDeed" : PySem.Str), GV.exc 5), (("Barred" : PySem.Str), GV.exc 6), (("NothingToUndo" : PySem.Str), GV.exc 7), (("FIGURES" : PySem.Str), GV.cst 0), (("FEWEST_SEATS" : PySem.Str), GV.cst 1), (("MOST_SEATS" : PySem.Str), GV.cst 2), (("STAY_benches" : PySem.Str), GV.cst 3), (("MIRROR" : PySem.Str), GV.cst 4), (("STAY_turntexts" : PySem.Str), GV.cst 5), (("BEGIN" : PySem.Str), GV.cst 6), (("END" : PySem.Str), GV.cst 7), (("LOST" : PySem.Str), GV.cst 8), (("DONE" : PySem.Str), GV.cst 9), (("NOTHING" : PySem.Str), GV.cst 10), (("SIZES" : PySem.Str), GV.dct 0), (("_law_tried" : PySem.Str), GV.told 0)]
  bl := [("abs" : PySem.Str), ("all" : PySem.Str), ("bool" : PySem.Str), ("divmod" : PySem.Str), ("int" : PySem.Str), ("isinstance" : PySem.Str), ("len" : PySem.Str), ("list" : PySem.Str), ("max" : PySem.Str), ("min" : PySem.Str), ("range" : PySem.Str), ("repr" : PySem.Str), ("set" : PySem.Str), ("sorted" : PySem.Str), ("str" : PySem.Str), ("sum" : PySem.Str), ("tuple" : PySem.Str), ("zip" : PySem.Str)]
  fs := [⟨[("k" : PySem.Str)], false⟩, ⟨[("value" : PySem.Str)], false⟩, ⟨[("value" : PySem.Str), ("least" : PySem.Str), ("most" : PySem.Str)], false⟩, ⟨[("value" : PySem.Str)], false⟩, ⟨[("text" : PySem.Str), ("signs" : PySem.Str)], false⟩, ⟨[("value" : PySem.Str), ("many" : PySem.Str)], false⟩, ⟨[("line" : PySem.Str)], false⟩, ⟨[("word" : PySem.Str)], false⟩, ⟨[("words" : PySem.Str)], false⟩, ⟨[("value" : PySem.Str)], false⟩, ⟨[("seats" : PySem.Str)], false⟩, ⟨[("seats" : PySem.Str), ("value" : PySem.Str)], false⟩, ⟨[("seats" : PySem.Str), ("value" : PySem.Str)], false⟩, ⟨[("seats" : PySem.Str), ("value" : PySem.Str)], false⟩, ⟨[("seats" : PySem.Str), ("turn" : PySem.Str)], false⟩, ⟨[("seats" : PySem.Str)], false⟩, ⟨[("turn" : PySem.Str), ("second" : PySem.Str)], false⟩, ⟨[("turn" : PySem.Str)], false⟩, ⟨[("turn" : PySem.Str), ("times" : PySem.Str)], false⟩, ⟨[("seats" : PySem.Str), ("one" : PySem.Str), ("other" : PySem.Str)], false⟩, ⟨[("turn" : PySem.Str), ("seat" : PySem.Str)], false⟩, ⟨[("turn" : PySem.Str)], false⟩, ⟨[("turn" : PySem.Str)], false⟩, ⟨[("turn" : PySem.Str)], false⟩, ⟨[("turn" : PySem.Str)], false⟩, ⟨[("turn" : PySem.Str)], false⟩, ⟨[("seats" : PySem.Str), ("turn" : PySem.Str)], false⟩, ⟨[("seats" : PySem.Str), ("turn" : PySem.Str)], false⟩, ⟨[("seats" : PySem.Str), ("turn" : PySem.Str)], false⟩, ⟨[("seats" : PySem.Str), ("turn" : PySem.Str)], false⟩, ⟨[("value" : PySem.Str)], false⟩, ⟨[("seats" : PySem.Str), ("value" : PySem.Str)], false⟩, ⟨[("seats" : PySem.Str), ("value" : PySem.Str)], false⟩, ⟨[("turn" : PySem.Str), ("deed" : PySem.Str)], false⟩, ⟨[("turn" : PySem.Str), ("deed" : PySem.Str)], false⟩, ⟨[("value" : PySem.Str)], false⟩, ⟨[("bench" : PySem.Str)], false⟩, ⟨[("turn" : PySem.Str)], false⟩, ⟨[("seats" : PySem.Str), ("text" : PySem.Str)], false⟩, ⟨[("seats" : PySem.Str), ("rings" : PySem.Str)], false⟩, ⟨[("seats" : PySem.Str), ("text" : PySem.Str)], false⟩, ⟨[("seats" : PySem.Str), ("turn" : PySem.Str)], false⟩, ⟨[("bench" : PySem.Str), ("deed" : PySem.Str)], false⟩, ⟨[("bench" : PySem.Str)], false⟩, ⟨[("bench" : PySem.Str), ("word" : PySem.Str)], false⟩, ⟨[("bench" : PySem.Str), ("word" : PySem.Str)], false⟩, ⟨[("script" : PySem.Str), ("k" : PySem.Str)], false⟩, ⟨[("pool" : PySem.Str), ("many" : PySem.Str)], false⟩, ⟨[("pool" : PySem.Str), ("some" : PySem.Str)], false⟩, ⟨[("seats" : PySem.Str)], false⟩, ⟨[("turn" : PySem.Str)], false⟩, ⟨[("pool" : PySem.Str), ("seats" : PySem.Str)], false⟩, ⟨[("turn" : PySem.Str)], false⟩, ⟨[("deed" : PySem.Str)], false⟩, ⟨[("bench" : PySem.Str)], false⟩, ⟨[("pool" : PySem.Str), ("seats" : PySem.Str)], true⟩, ⟨[("script" : PySem.Str)], true⟩, ⟨[("self" : PySem.Str), ("seats" : PySem.Str)], false⟩, ⟨[("self" : PySem.Str), ("deed" : PySem.Str)], false⟩, ⟨[("self" : PySem.Str)], false⟩, ⟨[("self" : PySem.Str)], false⟩, ⟨[("self" : PySem.Str)], false⟩, ⟨[("self" : PySem.Str), ("other" : PySem.Str)], false⟩, ⟨[("self" : PySem.Str), ("bench" : PySem.Str)], false⟩, ⟨[("self" : PySem.Str), ("line" : PySem.Str)], false⟩]
  ms := [(8, [100, 111], 58), (8, [117, 110, 100, 111], 59), (9, [115, 97, 121], 64)]
  kw := []
  km := []
  ci := [8]
  hn := [("Barred", 6), ("InvalidDeed", 5), ("NothingToUndo", 7)]
  tf := [(6, [114, 101, 97, 115, 111, 110])]
  eqc := []
  rti := []
theorem ck_wall : mSs tab ⟨ti, N_wall, L2.defScope s_wall, L2.defScope s_wall, false, false⟩ b_wall (L2.defBody s_wall) = true := by decide +kernel
theorem sc_wall : L2.FnScope N_wall [("k" : PySem.Str)] (L2.defScope s_wall) := ⟨rfl, rfl, rfl, by decide +kernel, rfl, by decide +kernel, by decide +kernel⟩
theorem ck_is_whole : mSs tab ⟨ti, N_is_whole, L2.defScope s_is_whole, L2.defScope s_is_whole, false, false⟩ b_is_whole (L2.defBody s_is_whole) = true := by decide +kernel
theorem sc_is_whole : L2.FnScope N_is_whole [("value" : PySem.Str)] (L2.defScope s_is_whole) := ⟨rfl, rfl, rfl, by decide +kernel, rfl, by decide +kernel, by decide +kernel⟩
theorem ck_is_between : mSs tab ⟨ti, N_is_between, L2.defScope s_is_between, L2.defScope s_is_between, false, false⟩ b_is_between (L2.defBody s_is_between) = true := by decide +kernel
theorem sc_is_between : L2.FnScope N_is_between [("value" : PySem.Str), ("least" : PySem.Str), ("most" : PySem.Str)] (L2.defScope s_is_between) := ⟨rfl, rfl, rfl, by decide +kernel, rfl, by decide +kernel, by decide +kernel⟩
theorem ck_is_string : mSs tab ⟨ti, N_is_string, L2.defScope s_is_string, L2.defScope s_is_string, false, false⟩ b_is_string (L2.defBody s_is_string) = true := by decide +kernel
theorem sc_is_string : L2.FnScope N_is_string [("value" : PySem.Str)] (L2.defScope s_is_string) := ⟨rfl, rfl, rfl, by decide +kernel, rfl, by decide +kernel, by decide +kernel⟩
theorem ck_is_made_of : mSs tab ⟨ti, N_is_made_of, L2.defScope s_is_made_of, L2.defScope s_is_made_of, false, false⟩ b_is_made_of (L2.defBody s_is_made_of) = true := by decide +kernel
theorem sc_is_made_of : L2.FnScope N_is_made_of [("text" : PySem.Str), ("signs" : PySem.Str)] (L2.defScope s_is_made_of) := ⟨rfl, rfl, rfl, by decide +kernel, rfl, by decide +kernel, by decide +kernel⟩
theorem ck_is_tuple_of : mSs tab ⟨ti, N_is_tuple_of, L2.defScope s_is_tuple_of, L2.defScope s_is_tuple_of, false, false⟩ b_is_tuple_of (L2.defBody s_is_tuple_of) = true := by decide +kernel
theorem sc_is_tuple_of : L2.FnScope N_is_tuple_of [("value" : PySem.Str), ("many" : PySem.Str)] (L2.defScope s_is_tuple_of) := ⟨rfl, rfl, rfl, by decide +kernel, rfl, by decide +kernel, by decide +kernel⟩
theorem ck_words_of : mSs tab ⟨ti, N_words_of, L2.defScope s_words_of, L2.defScope s_words_of, false, false⟩ b_words_of (L2.defBody s_words_of) = true := by decide +kernel
theorem sc_words_of : L2.FnScope N_words_of [("line" : PySem.Str)] (L2.defScope s_words_of) := ⟨rfl, rfl, rfl, by decide +kernel, rfl, by decide +kernel, by decide +kernel⟩
theorem ck_number_in : mSs tab ⟨ti, N_number_in, L2.defScope s_number_in, L2.defScope s_number_in, false, false⟩ b_number_in (L2.defBody s_number_in) = true := by decide +kernel
theorem sc_number_in : L2.FnScope N_number_in [("word" : PySem.Str)] (L2.defScope s_number_in) := ⟨rfl, rfl, rfl, by decide +kernel, rfl, by decide +kernel, by decide +kernel⟩
theorem ck_numbers_in : mSs tab ⟨ti, N_numbers_in, L2.defScope s_numbers_in, L2.defScope s_numbers_in, false, false⟩ b_numbers_in (L2.defBody s_numbers_in) = true := by decide +kernel
theorem sc_numbers_in : L2.FnScope N_numbers_in [("words" : PySem.Str)] (L2.defScope s_numbers_in) := ⟨rfl, rfl, rfl, by decide +kernel, rfl, by decide +kernel, by decide +kernel⟩
theorem ck_is_seats : mSs tab ⟨ti, N_is_seats, L2.defScope s_is_seats, L2.defScope s_is_seats, false, false⟩ b_is_seats (L2.defBody s_is_seats) = true := by decide +kernel
theorem sc_is_seats : L2.FnScope N_is_seats [("value" : PySem.Str)] (L2.defScope s_is_seats) := ⟨rfl, rfl, rfl, by decide +kernel, rfl, by decide +kernel, by decide +kernel⟩
theorem ck_check_seats : mSs tab ⟨ti, N_check_seats, L2.defScope s_check_seats, L2.defScope s_check_seats, false, false⟩ b_check_seats (L2.defBody s_check_seats) = true := by decide +kernel
theorem sc_check_seats : L2.FnScope N_check_seats [("seats" : PySem.Str)] (L2.defScope s_check_seats) := ⟨rfl, rfl, rfl, by decide +kernel, rfl, by decide +kernel, by decide +kernel⟩
theorem ck_is_seat : mSs tab ⟨ti, N_is_seat, L2.defScope s_is_seat, L2.defScope s_is_seat, false, false⟩ b_is_seat (L2.defBody s_is_seat) = true := by decide +kernel
theorem sc_is_seat : L2.FnScope N_is_seat [("seats" : PySem.Str), ("value" : PySem.Str)] (L2.defScope s_is_seat) := ⟨rfl, rfl, rfl, by decide +kernel, rfl, by decide +kernel, by decide +kernel⟩
theorem ck_is_turn : mSs tab ⟨ti, N_is_turn, L2.defScope s_is_turn, L2.defScope s_is_turn, false, false⟩ b_is_turn (L2.defBody s_is_turn) = true := by decide +kernel
theorem sc_is_turn : L2.FnScope N_is_turn [("seats" : PySem.Str), ("value" : PySem.Str)] (L2.defScope s_is_turn) := ⟨rfl, rfl, rfl, by decide +kernel, rfl, by decide +kernel, by decide +kernel⟩
theorem ck_check_turn : mSs tab ⟨ti, N_check_turn, L2.defScope s_check_turn, L2.defScope s_check_turn, false, false⟩ b_check_turn (L2.defBody s_check_turn) = true := by decide +kernel
theorem sc_check_turn : L2.FnScope N_check_turn [("seats" : PySem.Str), ("value" : PySem.Str)] (L2.defScope s_check_turn) := ⟨rfl, rfl, rfl, by decide +kernel, rfl, by decide +kernel, by decide +kernel⟩
theorem ck_check_turned : mSs tab ⟨ti, N_check_turned, L2.defScope s_check_turned, L2.defScope s_check_turned, false, false⟩ b_check_turned (L2.defBody s_check_turned) = true := by decide +kernel
theorem sc_check_turned : L2.FnScope N_check_turned [("seats" : PySem.Str), ("turn" : PySem.Str)] (L2.defScope s_check_turned) := ⟨rfl, rfl, rfl, by decide +kernel, rfl, by decide +kernel, by decide +kernel⟩
theorem ck_stay_of : mSs tab ⟨ti, N_stay_of, L2.defScope s_stay_of, L2.defScope s_stay_of, false, false⟩ b_stay_of (L2.defBody s_stay_of) = true := by decide +kernel
theorem sc_stay_of : L2.FnScope N_stay_of [("seats" : PySem.Str)] (L2.defScope s_stay_of) := ⟨rfl, rfl, rfl, by decide +kernel, rfl, by decide +kernel, by decide +kernel⟩
theorem ck_then_by : mSs tab ⟨ti, N_then_by, L2.defScope s_then_by, L2.defScope s_then_by, false, false⟩ b_then_by (L2.defBody s_then_by) = true := by decide +kernel
theorem sc_then_by : L2.FnScope N_then_by [("turn" : PySem.Str), ("second" : PySem.Str)] (L2.defScope s_then_by) := ⟨rfl, rfl, rfl, by decide +kernel, rfl, by decide +kernel, by decide +kernel⟩
theorem ck_back_by : mSs tab ⟨ti, N_back_by, L2.defScope s_back_by, L2.defScope s_back_by, false, false⟩ b_back_by (L2.defBody s_back_by) = true := by decide +kernel
theorem sc_back_by : L2.FnScope N_back_by [("turn" : PySem.Str)] (L2.defScope s_back_by) := ⟨rfl, rfl, rfl, by decide +kernel, rfl, by decide +kernel, by decide +kernel⟩
theorem ck_power_by : mSs tab ⟨ti, N_power_by, L2.defScope s_power_by, L2.defScope s_power_by, false, false⟩ b_power_by (L2.defBody s_power_by) = true := by decide +kernel
theorem sc_power_by : L2.FnScope N_power_by [("turn" : PySem.Str), ("times" : PySem.Str)] (L2.defScope s_power_by) := ⟨rfl, rfl, rfl, by decide +kernel, rfl, by decide +kernel, by decide +kernel⟩
theorem ck_exchange_of : mSs tab ⟨ti, N_exchange_of, L2.defScope s_exchange_of, L2.defScope s_exchange_of, false, false⟩ b_exchange_of (L2.defBody s_exchange_of) = true := by decide +kernel
theorem sc_exchange_of : L2.FnScope N_exchange_of [("seats" : PySem.Str), ("one" : PySem.Str), ("other" : PySem.Str)] (L2.defScope s_exchange_of) := ⟨rfl, rfl, rfl, by decide +kernel, rfl, by decide +kernel, by decide +kernel⟩
theorem ck_ring_at : mSs tab ⟨ti, N_ring_at, L2.defScope s_ring_at, L2.defScope s_ring_at, false, false⟩ b_ring_at (L2.defBody s_ring_at) = true := by decide +kernel
theorem sc_ring_at : L2.FnScope N_ring_at [("turn" : PySem.Str), ("seat" : PySem.Str)] (L2.defScope s_ring_at) := ⟨rfl, rfl, rfl, by decide +kernel, rfl, by decide +kernel, by decide +kernel⟩
theorem ck_rings_by : mSs tab ⟨ti, N_rings_by, L2.defScope s_rings_by, L2.defScope s_rings_by, false, false⟩ b_rings_by (L2.defBody s_rings_by) = true := by decide +kernel
theorem sc_rings_by : L2.FnScope N_rings_by [("turn" : PySem.Str)] (L2.defScope s_rings_by) := ⟨rfl, rfl, rfl, by decide +kernel, rfl, by decide +kernel, by decide +kernel⟩
theorem ck_kind_by : mSs tab ⟨ti, N_kind_by, L2.defScope s_kind_by, L2.defScope s_kind_by, false, false⟩ b_kind_by (L2.defBody s_kind_by) = true := by decide +kernel
theorem sc_kind_by : L2.FnScope N_kind_by [("turn" : PySem.Str)] (L2.defScope s_kind_by) := ⟨rfl, rfl, rfl, by decide +kernel, rfl, by decide +kernel, by decide +kernel⟩
theorem ck_sign_by : mSs tab ⟨ti, N_sign_by, L2.defScope s_sign_by, L2.defScope s_sign_by, false, false⟩ b_sign_by (L2.defBody s_sign_by) = true := by decide +kernel
theorem sc_sign_by : L2.FnScope N_sign_by [("turn" : PySem.Str)] (L2.defScope s_sign_by) := ⟨rfl, rfl, rfl, by decide +kernel, rfl, by decide +kernel, by decide +kernel⟩
theorem ck_round_by : mSs tab ⟨ti, N_round_by, L2.defScope s_round_by, L2.defScope s_round_by, false, false⟩ b_round_by (L2.defBody s_round_by) = true := by decide +kernel
theorem sc_round_by : L2.FnScope N_round_by [("turn" : PySem.Str)] (L2.defScope s_round_by) := ⟨rfl, rfl, rfl, by decide +kernel, rfl, by decide +kernel, by decide +kernel⟩
theorem ck_fewest_by : mSs tab ⟨ti, N_fewest_by, L2.defScope s_fewest_by, L2.defScope s_fewest_by, false, false⟩ b_fewest_by (L2.defBody s_fewest_by) = true := by decide +kernel
theorem sc_fewest_by : L2.FnScope N_fewest_by [("turn" : PySem.Str)] (L2.defScope s_fewest_by) := ⟨rfl, rfl, rfl, by decide +kernel, rfl, by decide +kernel, by decide +kernel⟩
theorem ck_kind_of : mSs tab ⟨ti, N_kind_of, L2.defScope s_kind_of, L2.defScope s_kind_of, false, false⟩ b_kind_of (L2.defBody s_kind_of) = true := by decide +kernel
theorem sc_kind_of : L2.FnScope N_kind_of [("seats" : PySem.Str), ("turn" : PySem.Str)] (L2.defScope s_kind_of) := ⟨rfl, rfl, rfl, by decide +kernel, rfl, by decide +kernel, by decide +kernel⟩
theorem ck_sign : mSs tab ⟨ti, N_sign, L2.defScope s_sign, L2.defScope s_sign, false, false⟩ b_sign (L2.defBody s_sign) = true := by decide +kernel
theorem sc_sign : L2.FnScope N_sign [("seats" : PySem.Str), ("turn" : PySem.Str)] (L2.defScope s_sign) := ⟨rfl, rfl, rfl, by decide +kernel, rfl, by decide +kernel, by decide +kernel⟩
theorem ck_round_of : mSs tab ⟨ti, N_round_of, L2.defScope s_round_of, L2.defScope s_round_of, false, false⟩ b_round_of (L2.defBody s_round_of) = true := by decide +kernel
theorem sc_round_of : L2.FnScope N_round_of [("seats" : PySem.Str), ("turn" : PySem.Str)] (L2.defScope s_round_of) := ⟨rfl, rfl, rfl, by decide +kernel, rfl, by decide +kernel, by decide +kernel⟩
theorem ck_fewest_exchanges : mSs tab ⟨ti, N_fewest_exchanges, L2.defScope s_fewest_exchanges, L2.defScope s_fewest_exchanges, false, false⟩ b_fewest_exchanges (L2.defBody s_fewest_exchanges) = true := by decide +kernel
theorem sc_fewest_exchanges : L2.FnScope N_fewest_exchanges [("seats" : PySem.Str), ("turn" : PySem.Str)] (L2.defScope s_fewest_exchanges) := ⟨rfl, rfl, rfl, by decide +kernel, rfl, by decide +kernel, by decide +kernel⟩
theorem ck_has_form : mSs tab ⟨ti, N_has_form, L2.defScope s_has_form, L2.defScope s_has_form, false, false⟩ b_has_form (L2.defBody s_has_form) = true := by decide +kernel
theorem sc_has_form : L2.FnScope N_has_form [("value" : PySem.Str)] (L2.defScope s_has_form) := ⟨rfl, rfl, rfl, by decide +kernel, rfl, by decide +kernel, by decide +kernel⟩
theorem ck_check_exchange : mSs tab ⟨ti, N_check_exchange, L2.defScope s_check_exchange, L2.defScope s_check_exchange, false, false⟩ b_check_exchange (L2.defBody s_check_exchange) = true := by decide +kernel
theorem sc_check_exchange : L2.FnScope N_check_exchange [("seats" : PySem.Str), ("value" : PySem.Str)] (L2.defScope s_check_exchange) := ⟨rfl, rfl, rfl, by decide +kernel, rfl, by decide +kernel, by decide +kernel⟩
theorem ck_check_deed : mSs tab ⟨ti, N_check_deed, L2.defScope s_check_deed, L2.defScope s_check_deed, false, false⟩ b_check_deed (L2.defBody s_check_deed) = true := by decide +kernel
theorem sc_check_deed : L2.FnScope N_check_deed [("seats" : PySem.Str), ("value" : PySem.Str)] (L2.defScope s_check_deed) := ⟨rfl, rfl, rfl, by decide +kernel, rfl, by decide +kernel, by decide +kernel⟩
theorem ck_reason_against : mSs tab ⟨ti, N_reason_against, L2.defScope s_reason_against, L2.defScope s_reason_against, false, false⟩ b_reason_against (L2.defBody s_reason_against) = true := by decide +kernel
theorem sc_reason_against : L2.FnScope N_reason_against [("turn" : PySem.Str), ("deed" : PySem.Str)] (L2.defScope s_reason_against) := ⟨rfl, rfl, rfl, by decide +kernel, rfl, by decide +kernel, by decide +kernel⟩
theorem ck_turn_behind : mSs tab ⟨ti, N_turn_behind, L2.defScope s_turn_behind, L2.defScope s_turn_behind, false, false⟩ b_turn_behind (L2.defBody s_turn_behind) = true := by decide +kernel
theorem sc_turn_behind : L2.FnScope N_turn_behind [("turn" : PySem.Str), ("deed" : PySem.Str)] (L2.defScope s_turn_behind) := ⟨rfl, rfl, rfl, by decide +kernel, rfl, by decide +kernel, by decide +kernel⟩
theorem ck_check_bench : mSs tab ⟨ti, N_check_bench, L2.defScope s_check_bench, L2.defScope s_check_bench, false, false⟩ b_check_bench (L2.defBody s_check_bench) = true := by decide +kernel
theorem sc_check_bench : L2.FnScope N_check_bench [("value" : PySem.Str)] (L2.defScope s_check_bench) := ⟨rfl, rfl, rfl, by decide +kernel, rfl, by decide +kernel, by decide +kernel⟩
theorem ck_copy_of : mSs tab ⟨ti, N_copy_of, L2.defScope s_copy_of, L2.defScope s_copy_of, false, false⟩ b_copy_of (L2.defBody s_copy_of) = true := by decide +kernel
theorem sc_copy_of : L2.FnScope N_copy_of [("bench" : PySem.Str)] (L2.defScope s_copy_of) := ⟨rfl, rfl, rfl, by decide +kernel, rfl, by decide +kernel, by decide +kernel⟩
theorem ck_row_of : mSs tab ⟨ti, N_row_of, L2.defScope s_row_of, L2.defScope s_row_of, false, false⟩ b_row_of (L2.defBody s_row_of) = true := by decide +kernel
theorem sc_row_of : L2.FnScope N_row_of [("turn" : PySem.Str)] (L2.defScope s_row_of) := ⟨rfl, rfl, rfl, by decide +kernel, rfl, by decide +kernel, by decide +kernel⟩
theorem ck_ring_in : mSs tab ⟨ti, N_ring_in, L2.defScope s_ring_in, L2.defScope s_ring_in, false, false⟩ b_ring_in (L2.defBody s_ring_in) = true := by decide +kernel
theorem sc_ring_in : L2.FnScope N_ring_in [("seats" : PySem.Str), ("text" : PySem.Str)] (L2.defScope s_ring_in) := ⟨rfl, rfl, rfl, by decide +kernel, rfl, by decide +kernel, by decide +kernel⟩
theorem ck_turn_of_rings : mSs tab ⟨ti, N_turn_of_rings, L2.defScope s_turn_of_rings, L2.defScope s_turn_of_rings, false, false⟩ b_turn_of_rings (L2.defBody s_turn_of_rings) = true := by decide +kernel
theorem sc_turn_of_rings : L2.FnScope N_turn_of_rings [("seats" : PySem.Str), ("rings" : PySem.Str)] (L2.defScope s_turn_of_rings) := ⟨rfl, rfl, rfl, by decide +kernel, rfl, by decide +kernel, by decide +kernel⟩
theorem ck_turn_in : mSs tab ⟨ti, N_turn_in, L2.defScope s_turn_in, L2.defScope s_turn_in, false, false⟩ b_turn_in (L2.defBody s_turn_in) = true := by decide +kernel
theorem sc_turn_in : L2.FnScope N_turn_in [("seats" : PySem.Str), ("text" : PySem.Str)] (L2.defScope s_turn_in) := ⟨rfl, rfl, rfl, by decide +kernel, rfl, by decide +kernel, by decide +kernel⟩
theorem ck_turn_text : mSs tab ⟨ti, N_turn_text, L2.defScope s_turn_text, L2.defScope s_turn_text, false, false⟩ b_turn_text (L2.defBody s_turn_text) = true := by decide +kernel
theorem sc_turn_text : L2.FnScope N_turn_text [("seats" : PySem.Str), ("turn" : PySem.Str)] (L2.defScope s_turn_text) := ⟨rfl, rfl, rfl, by decide +kernel, rfl, by decide +kernel, by decide +kernel⟩
theorem ck_said_of_deed : mSs tab ⟨ti, N_said_of_deed, L2.defScope s_said_of_deed, L2.defScope s_said_of_deed, false, false⟩ b_said_of_deed (L2.defBody s_said_of_deed) = true := by decide +kernel
theorem sc_said_of_deed : L2.FnScope N_said_of_deed [("bench" : PySem.Str), ("deed" : PySem.Str)] (L2.defScope s_said_of_deed) := ⟨rfl, rfl, rfl, by decide +kernel, rfl, by decide +kernel, by decide +kernel⟩
theorem ck_said_of_undo : mSs tab ⟨ti, N_said_of_undo, L2.defScope s_said_of_undo, L2.defScope s_said_of_undo, false, false⟩ b_said_of_undo (L2.defBody s_said_of_undo) = true := by decide +kernel
theorem sc_said_of_undo : L2.FnScope N_said_of_undo [("bench" : PySem.Str)] (L2.defScope s_said_of_undo) := ⟨rfl, rfl, rfl, by decide +kernel, rfl, by decide +kernel, by decide +kernel⟩
theorem ck_said_of_word : mSs tab ⟨ti, N_said_of_word, L2.defScope s_said_of_word, L2.defScope s_said_of_word, false, false⟩ b_said_of_word (L2.defBody s_said_of_word) = true := by decide +kernel
theorem sc_said_of_word : L2.FnScope N_said_of_word [("bench" : PySem.Str), ("word" : PySem.Str)] (L2.defScope s_said_of_word) := ⟨rfl, rfl, rfl, by decide +kernel, rfl, by decide +kernel, by decide +kernel⟩
theorem ck_said_of_number : mSs tab ⟨ti, N_said_of_number, L2.defScope s_said_of_number, L2.defScope s_said_of_number, false, false⟩ b_said_of_number (L2.defBody s_said_of_number) = true := by decide +kernel
theorem sc_said_of_number : L2.FnScope N_said_of_number [("bench" : PySem.Str), ("word" : PySem.Str)] (L2.defScope s_said_of_number) := ⟨rfl, rfl, rfl, by decide +kernel, rfl, by decide +kernel, by decide +kernel⟩
theorem ck_law_pool : mSs tab ⟨ti, N_law_pool, L2.defScope s_law_pool, L2.defScope s_law_pool, false, false⟩ b_law_pool (L2.defBody s_law_pool) = true := by decide +kernel
theorem sc_law_pool : L2.FnScope N_law_pool [("script" : PySem.Str), ("k" : PySem.Str)] (L2.defScope s_law_pool) := ⟨rfl, rfl, rfl, by decide +kernel, rfl, by decide +kernel, by decide +kernel⟩
theorem ck_law_take : mSs tab ⟨ti, N_law_take, L2.defScope s_law_take, L2.defScope s_law_take, false, false⟩ b_law_take (L2.defBody s_law_take) = true := by decide +kernel
theorem sc_law_take : L2.FnScope N_law_take [("pool" : PySem.Str), ("many" : PySem.Str)] (L2.defScope s_law_take) := ⟨rfl, rfl, rfl, by decide +kernel, rfl, by decide +kernel, by decide +kernel⟩
theorem ck_law_of : mSs tab ⟨ti, N_law_of, L2.defScope s_law_of, L2.defScope s_law_of, false, false⟩ b_law_of (L2.defBody s_law_of) = true := by decide +kernel
theorem sc_law_of : L2.FnScope N_law_of [("pool" : PySem.Str), ("some" : PySem.Str)] (L2.defScope s_law_of) := ⟨rfl, rfl, rfl, by decide +kernel, rfl, by decide +kernel, by decide +kernel⟩
theorem ck_law_turns : mSs tab ⟨ti, N_law_turns, L2.defScope s_law_turns, L2.defScope s_law_turns, false, false⟩ b_law_turns (L2.defBody s_law_turns) = true := by decide +kernel
theorem sc_law_turns : L2.FnScope N_law_turns [("seats" : PySem.Str)] (L2.defScope s_law_turns) := ⟨rfl, rfl, rfl, by decide +kernel, rfl, by decide +kernel, by decide +kernel⟩
theorem ck_law_rings : mSs tab ⟨ti, N_law_rings, L2.defScope s_law_rings, L2.defScope s_law_rings, false, false⟩ b_law_rings (L2.defBody s_law_rings) = true := by decide +kernel
theorem sc_law_rings : L2.FnScope N_law_rings [("turn" : PySem.Str)] (L2.defScope s_law_rings) := ⟨rfl, rfl, rfl, by decide +kernel, rfl, by decide +kernel, by decide +kernel⟩
theorem ck_law_deed : mSs tab ⟨ti, N_law_deed, L2.defScope s_law_deed, L2.defScope s_law_deed, false, false⟩ b_law_deed (L2.defBody s_law_deed) = true := by decide +kernel
theorem sc_law_deed : L2.FnScope N_law_deed [("pool" : PySem.Str), ("seats" : PySem.Str)] (L2.defScope s_law_deed) := ⟨rfl, rfl, rfl, by decide +kernel, rfl, by decide +kernel, by decide +kernel⟩
theorem ck_law_text : mSs tab ⟨ti, N_law_text, L2.defScope s_law_text, L2.defScope s_law_text, false, false⟩ b_law_text (L2.defBody s_law_text) = true := by decide +kernel
theorem sc_law_text : L2.FnScope N_law_text [("turn" : PySem.Str)] (L2.defScope s_law_text) := ⟨rfl, rfl, rfl, by decide +kernel, rfl, by decide +kernel, by decide +kernel⟩
theorem ck_law_said : mSs tab ⟨ti, N_law_said, L2.defScope s_law_said, L2.defScope s_law_said, false, false⟩ b_law_said (L2.defBody s_law_said) = true := by decide +kernel
theorem sc_law_said : L2.FnScope N_law_said [("deed" : PySem.Str)] (L2.defScope s_law_said) := ⟨rfl, rfl, rfl, by decide +kernel, rfl, by decide +kernel, by decide +kernel⟩
theorem ck_law_shown : mSs tab ⟨ti, N_law_shown, L2.defScope s_law_shown, L2.defScope s_law_shown, false, false⟩ b_law_shown (L2.defBody s_law_shown) = true := by decide +kernel
theorem sc_law_shown : L2.FnScope N_law_shown [("bench" : PySem.Str)] (L2.defScope s_law_shown) := ⟨rfl, rfl, rfl, by decide +kernel, rfl, by decide +kernel, by decide +kernel⟩
theorem ck_law_right : mSs tab ⟨ti, N_law_right, L2.defScope s_law_right, L2.defScope s_law_right, true, true⟩ b_law_right (L2.defBody s_law_right) = true := by decide +kernel
theorem sc_law_right : L2.FnScope N_law_right [("pool" : PySem.Str), ("seats" : PySem.Str)] (L2.defScope s_law_right) := ⟨rfl, rfl, rfl, by decide +kernel, rfl, by decide +kernel, by decide +kernel⟩
theorem ck_law : mSs tab ⟨ti, N_law, L2.defScope s_law, L2.defScope s_law, true, false⟩ b_law (L2.defBody s_law) = true := by decide +kernel
theorem sc_law : L2.FnScope N_law [("script" : PySem.Str)] (L2.defScope s_law) := ⟨rfl, rfl, rfl, by decide +kernel, rfl, by decide +kernel, by decide +kernel⟩
theorem ck_Bench_init__ : mSs tab ⟨ti, N_Bench_init__, L2.defScope s_Bench_init__, L2.defScope s_Bench_init__, false, false⟩ b_Bench_init__ (L2.defBody s_Bench_init__) = true := by decide +kernel
theorem sc_Bench_init__ : L2.FnScope N_Bench_init__ [("self" : PySem.Str), ("seats" : PySem.Str)] (L2.defScope s_Bench_init__) := ⟨rfl, rfl, rfl, by decide +kernel, rfl, by decide +kernel, by decide +kernel⟩
theorem ck_Bench_do : mSs tab ⟨ti, N_Bench_do, L2.defScope s_Bench_do, L2.defScope s_Bench_do, false, false⟩ b_Bench_do (L2.defBody s_Bench_do) = true := by decide +kernel
theorem sc_Bench_do : L2.FnScope N_Bench_do [("self" : PySem.Str), ("deed" : PySem.Str)] (L2.defScope s_Bench_do) := ⟨rfl, rfl, rfl, by decide +kernel, rfl, by decide +kernel, by decide +kernel⟩
theorem ck_Bench_undo : mSs tab ⟨ti, N_Bench_undo, L2.defScope s_Bench_undo, L2.defScope s_Bench_undo, false, false⟩ b_Bench_undo (L2.defBody s_Bench_undo) = true := by decide +kernel
theorem sc_Bench_undo : L2.FnScope N_Bench_undo [("self" : PySem.Str)] (L2.defScope s_Bench_undo) := ⟨rfl, rfl, rfl, by decide +kernel, rfl, by decide +kernel, by decide +kernel⟩
theorem ck_Bench_rings : mSs tab ⟨ti, N_Bench_rings, L2.defScope s_Bench_rings, L2.defScope s_Bench_rings, false, false⟩ b_Bench_rings (L2.defBody s_Bench_rings) = true := by decide +kernel
theorem sc_Bench_rings : L2.FnScope N_Bench_rings [("self" : PySem.Str)] (L2.defScope s_Bench_rings) := ⟨rfl, rfl, rfl, by decide +kernel, rfl, by decide +kernel, by decide +kernel⟩
theorem ck_Bench_is_stay : mSs tab ⟨ti, N_Bench_is_stay, L2.defScope s_Bench_is_stay, L2.defScope s_Bench_is_stay, false, false⟩ b_Bench_is_stay (L2.defBody s_Bench_is_stay) = true := by decide +kernel
theorem sc_Bench_is_stay : L2.FnScope N_Bench_is_stay [("self" : PySem.Str)] (L2.defScope s_Bench_is_stay) := ⟨rfl, rfl, rfl, by decide +kernel, rfl, by decide +kernel, by decide +kernel⟩
theorem ck_Bench_eq__ : mSs tab ⟨ti, N_Bench_eq__, L2.defScope s_Bench_eq__, L2.defScope s_Bench_eq__, false, false⟩ b_Bench_eq__ (L2.defBody s_Bench_eq__) = true := by decide +kernel
theorem sc_Bench_eq__ : L2.FnScope N_Bench_eq__ [("self" : PySem.Str), ("other" : PySem.Str)] (L2.defScope s_Bench_eq__) := ⟨rfl, rfl, rfl, by decide +kernel, rfl, by decide +kernel, by decide +kernel⟩
theorem ck_Console_init__ : mSs tab ⟨ti, N_Console_init__, L2.defScope s_Console_init__, L2.defScope s_Console_init__, false, false⟩ b_Console_init__ (L2.defBody s_Console_init__) = true := by decide +kernel
theorem sc_Console_init__ : L2.FnScope N_Console_init__ [("self" : PySem.Str), ("bench" : PySem.Str)] (L2.defScope s_Console_init__) := ⟨rfl, rfl, rfl, by decide +kernel, rfl, by decide +kernel, by decide +kernel⟩
theorem ck_Console_say : mSs tab ⟨ti, N_Console_say, L2.defScope s_Console_say, L2.defScope s_Console_say, false, false⟩ b_Console_say (L2.defBody s_Console_say) = true := by decide +kernel
theorem sc_Console_say : L2.FnScope N_Console_say [("self" : PySem.Str), ("line" : PySem.Str)] (L2.defScope s_Console_say) := ⟨rfl, rfl, rfl, by decide +kernel, rfl, by decide +kernel, by decide +kernel⟩
def tf : List He.Defn := [(("_law_right" : PySem.Str), (none : Option PySem.Str))]
def lq : PySem.Str := "_law_right.<locals>.<lambda>"
def d_wall : He.DefD := ⟨(("_wall" : PySem.Str), none), "_wall", "_wall", L2.defArgs s_wall, L2.defBody s_wall, L2.defScope s_wall, [], []⟩
theorem dk_wall : DOk tab ti tf lq d_wall ⟨[("k" : PySem.Str)], false⟩ ⟨1, 1, false, b_wall⟩ where
  bi := fun _ _ _ _ _ _ us hl => match us, hl with | [_], _ => rfl
  nd := ⟨rfl, rfl⟩
  go := ⟨N_wall, false, sc_wall, ck_wall, rfl, fun z => Bool.noConfusion z⟩
  np := rfl
  le := by decide
def d_is_whole : He.DefD := ⟨(("is_whole" : PySem.Str), none), "is_whole", "is_whole", L2.defArgs s_is_whole, L2.defBody s_is_whole, L2.defScope s_is_whole, [], []⟩
theorem dk_is_whole : DOk tab ti tf lq d_is_whole ⟨[("value" : PySem.Str)], false⟩ ⟨1, 1, true, b_is_whole⟩ where
  bi := fun _ _ _ _ _ _ us hl => match us, hl with | [_], _ => rfl
  nd := ⟨rfl, rfl⟩
  go := ⟨N_is_whole, false, sc_is_whole, ck_is_whole, rfl, fun z => Bool.noConfusion z⟩
  np := rfl
  le := by decide
def d_is_between : He.DefD := ⟨(("is_between" : PySem.Str), none), "is_between", "is_between", L2.defArgs s_is_between, L2.defBody s_is_between, L2.defScope s_is_between, [], []⟩
theorem dk_is_between : DOk tab ti tf lq d_is_between ⟨[("value" : PySem.Str), ("least" : PySem.Str), ("most" : PySem.Str)], false⟩ ⟨3, 3, true, b_is_between⟩ where
  bi := fun _ _ _ _ _ _ us hl => match us, hl with | [_, _, _], _ => rfl
  nd := ⟨rfl, rfl⟩
  go := ⟨N_is_between, false, sc_is_between, ck_is_between, rfl, fun z => Bool.noConfusion z⟩
  np := rfl
  le := by decide
def d_is_string : He.DefD := ⟨(("is_string" : PySem.Str), none), "is_string", "is_string", L2.defArgs s_is_string, L2.defBody s_is_string, L2.defScope s_is_string, [], []⟩
theorem dk_is_string : DOk tab ti tf lq d_is_string ⟨[("value" : PySem.Str)], false⟩ ⟨1, 1, true, b_is_string⟩ where
  bi := fun _ _ _ _ _ _ us hl => match us, hl with | [_], _ => rfl
  nd := ⟨rfl, rfl⟩
  go := ⟨N_is_string, false, sc_is_string, ck_is_string, rfl, fun z => Bool.noConfusion z⟩
  np := rfl
  le := by decide
def d_is_made_of : He.DefD := ⟨(("is_made_of" : PySem.Str), none), "is_made_of", "is_made_of", L2.defArgs s_is_made_of, L2.defBody s_is_made_of, L2.defScope s_is_made_of, [], []⟩
theorem dk_is_made_of : DOk tab ti tf lq d_is_made_of ⟨[("text" : PySem.Str), ("signs" : PySem.Str)], false⟩ ⟨2, 3, true, b_is_made_of⟩ where
  bi := fun _ _ _ _ _ _ us hl => match us, hl with | [_, _], _ => rfl
  nd := ⟨rfl, rfl⟩
  go := ⟨N_is_made_of, false, sc_is_made_of, ck_is_made_of, rfl, fun z => Bool.noConfusion z⟩
  np := rfl
  le := by decide
def d_is_tuple_of : He.DefD := ⟨(("is_tuple_of" : PySem.Str), none), "is_tuple_of", "is_tuple_of", L2.defArgs s_is_tuple_of, L2.defBody s_is_tuple_of, L2.defScope s_is_tuple_of, [], []⟩
theorem dk_is_tuple_of : DOk tab ti tf lq d_is_tuple_of ⟨[("value" : PySem.Str), ("many" : PySem.Str)], false⟩ ⟨2, 2, true, b_is_tuple_of⟩ where
  bi := fun _ _ _ _ _ _ us hl => match us, hl with | [_, _], _ => rfl
  nd := ⟨rfl, rfl⟩
  go := ⟨N_is_tuple_of, false, sc_is_tuple_of, ck_is_tuple_of, rfl, fun z => Bool.noConfusion z⟩
  np := rfl
  le := by decide
def d_words_of : He.DefD := ⟨(("words_of" : PySem.Str), none), "words_of", "words_of", L2.defArgs s_words_of, L2.defBody s_words_of, L2.defScope s_words_of, [], []⟩
theorem dk_words_of : DOk tab ti tf lq d_words_of ⟨[("line" : PySem.Str)], false⟩ ⟨1, 2, true, b_words_of⟩ where
  bi := fun _ _ _ _ _ _ us hl => match us, hl with | [_], _ => rfl
  nd := ⟨rfl, rfl⟩
  go := ⟨N_words_of, false, sc_words_of, ck_words_of, rfl, fun z => Bool.noConfusion z⟩
  np := rfl
  le := by decide
def d_number_in : He.DefD := ⟨(("number_in" : PySem.Str), none), "number_in", "number_in", L2.defArgs s_number_in, L2.defBody s_number_in, L2.defScope s_number_in, [], []⟩
theorem dk_number_in : DOk tab ti tf lq d_number_in ⟨[("word" : PySem.Str)], false⟩ ⟨1, 3, true, b_number_in⟩ where
  bi := fun _ _ _ _ _ _ us hl => match us, hl with | [_], _ => rfl
  nd := ⟨rfl, rfl⟩
  go := ⟨N_number_in, false, sc_number_in, ck_number_in, rfl, fun z => Bool.noConfusion z⟩
  np := rfl
  le := by decide
def d_numbers_in : He.DefD := ⟨(("numbers_in" : PySem.Str), none), "numbers_in", "numbers_in", L2.defArgs s_numbers_in, L2.defBody s_numbers_in, L2.defScope s_numbers_in, [], []⟩
theorem dk_numbers_in : DOk tab ti tf lq d_numbers_in ⟨[("words" : PySem.Str)], false⟩ ⟨1, 3, true, b_numbers_in⟩ where
  bi := fun _ _ _ _ _ _ us hl => match us, hl with | [_], _ => rfl
  nd := ⟨rfl, rfl⟩
  go := ⟨N_numbers_in, false, sc_numbers_in, ck_numbers_in, rfl, fun z => Bool.noConfusion z⟩
  np := rfl
  le := by decide
def d_is_seats : He.DefD := ⟨(("is_seats" : PySem.Str), none), "is_seats", "is_seats", L2.defArgs s_is_seats, L2.defBody s_is_seats, L2.defScope s_is_seats, [], []⟩
theorem dk_is_seats : DOk tab ti tf lq d_is_seats ⟨[("value" : PySem.Str)], false⟩ ⟨1, 1, true, b_is_seats⟩ where
  bi := fun _ _ _ _ _ _ us hl => match us, hl with | [_], _ => rfl
  nd := ⟨rfl, rfl⟩
  go := ⟨N_is_seats, false, sc_is_seats, ck_is_seats, rfl, fun z => Bool.noConfusion z⟩
  np := rfl
  le := by decide
def d_check_seats : He.DefD := ⟨(("check_seats" : PySem.Str), none), "check_seats", "check_seats", L2.defArgs s_check_seats, L2.defBody s_check_seats, L2.defScope s_check_seats, [], []⟩
theorem dk_check_seats : DOk tab ti tf lq d_check_seats ⟨[("seats" : PySem.Str)], false⟩ ⟨1, 1, true, b_check_seats⟩ where
  bi := fun _ _ _ _ _ _ us hl => match us, hl with | [_], _ => rfl
  nd := ⟨rfl, rfl⟩
  go := ⟨N_check_seats, false, sc_check_seats, ck_check_seats, rfl, fun z => Bool.noConfusion z⟩
  np := rfl
  le := by decide
def d_is_seat : He.DefD := ⟨(("is_seat" : PySem.Str), none), "is_seat", "is_seat", L2.defArgs s_is_seat, L2.defBody s_is_seat, L2.defScope s_is_seat, [], []⟩
theorem dk_is_seat : DOk tab ti tf lq d_is_seat ⟨[("seats" : PySem.Str), ("value" : PySem.Str)], false⟩ ⟨2, 2, true, b_is_seat⟩ where
  bi := fun _ _ _ _ _ _ us hl => match us, hl with | [_, _], _ => rfl
  nd := ⟨rfl, rfl⟩
  go := ⟨N_is_seat, false, sc_is_seat, ck_is_seat, rfl, fun z => Bool.noConfusion z⟩
  np := rfl
  le := by decide
def d_is_turn : He.DefD := ⟨(("is_turn" : PySem.Str), none), "is_turn", "is_turn", L2.defArgs s_is_turn, L2.defBody s_is_turn, L2.defScope s_is_turn, [], []⟩
theorem dk_is_turn : DOk tab ti tf lq d_is_turn ⟨[("seats" : PySem.Str), ("value" : PySem.Str)], false⟩ ⟨2, 3, true, b_is_turn⟩ where
  bi := fun _ _ _ _ _ _ us hl => match us, hl with | [_, _], _ => rfl
  nd := ⟨rfl, rfl⟩
  go := ⟨N_is_turn, false, sc_is_turn, ck_is_turn, rfl, fun z => Bool.noConfusion z⟩
  np := rfl
  le := by decide
def d_check_turn : He.DefD := ⟨(("check_turn" : PySem.Str), none), "check_turn", "check_turn", L2.defArgs s_check_turn, L2.defBody s_check_turn, L2.defScope s_check_turn, [], []⟩
theorem dk_check_turn : DOk tab ti tf lq d_check_turn ⟨[("seats" : PySem.Str), ("value" : PySem.Str)], false⟩ ⟨2, 2, true, b_check_turn⟩ where
  bi := fun _ _ _ _ _ _ us hl => match us, hl with | [_, _], _ => rfl
  nd := ⟨rfl, rfl⟩
  go := ⟨N_check_turn, false, sc_check_turn, ck_check_turn, rfl, fun z => Bool.noConfusion z⟩
  np := rfl
  le := by decide
def d_check_turned : He.DefD := ⟨(("check_turned" : PySem.Str), none), "check_turned", "check_turned", L2.defArgs s_check_turned, L2.defBody s_check_turned, L2.defScope s_check_turned, [], []⟩
theorem dk_check_turned : DOk tab ti tf lq d_check_turned ⟨[("seats" : PySem.Str), ("turn" : PySem.Str)], false⟩ ⟨2, 2, true, b_check_turned⟩ where
  bi := fun _ _ _ _ _ _ us hl => match us, hl with | [_, _], _ => rfl
  nd := ⟨rfl, rfl⟩
  go := ⟨N_check_turned, false, sc_check_turned, ck_check_turned, rfl, fun z => Bool.noConfusion z⟩
  np := rfl
  le := by decide
def d_stay_of : He.DefD := ⟨(("stay_of" : PySem.Str), none), "stay_of", "stay_of", L2.defArgs s_stay_of, L2.defBody s_stay_of, L2.defScope s_stay_of, [], []⟩
theorem dk_stay_of : DOk tab ti tf lq d_stay_of ⟨[("seats" : PySem.Str)], false⟩ ⟨1, 2, true, b_stay_of⟩ where
  bi := fun _ _ _ _ _ _ us hl => match us, hl with | [_], _ => rfl
  nd := ⟨rfl, rfl⟩
  go := ⟨N_stay_of, false, sc_stay_of, ck_stay_of, rfl, fun z => Bool.noConfusion z⟩
  np := rfl
  le := by decide
def d_then_by : He.DefD := ⟨(("then_by" : PySem.Str), none), "then_by", "then_by", L2.defArgs s_then_by, L2.defBody s_then_by, L2.defScope s_then_by, [], []⟩
theorem dk_then_by : DOk tab ti tf lq d_then_by ⟨[("turn" : PySem.Str), ("second" : PySem.Str)], false⟩ ⟨2, 3, true, b_then_by⟩ where
  bi := fun _ _ _ _ _ _ us hl => match us, hl with | [_, _], _ => rfl
  nd := ⟨rfl, rfl⟩
  go := ⟨N_then_by, false, sc_then_by, ck_then_by, rfl, fun z => Bool.noConfusion z⟩
  np := rfl
  le := by decide
def d_back_by : He.DefD := ⟨(("back_by" : PySem.Str), none), "back_by", "back_by", L2.defArgs s_back_by, L2.defBody s_back_by, L2.defScope s_back_by, [], []⟩
theorem dk_back_by : DOk tab ti tf lq d_back_by ⟨[("turn" : PySem.Str)], false⟩ ⟨1, 2, true, b_back_by⟩ where
  bi := fun _ _ _ _ _ _ us hl => match us, hl with | [_], _ => rfl
  nd := ⟨rfl, rfl⟩
  go := ⟨N_back_by, false, sc_back_by, ck_back_by, rfl, fun z => Bool.noConfusion z⟩
  np := rfl
  le := by decide
def d_power_by : He.DefD := ⟨(("power_by" : PySem.Str), none), "power_by", "power_by", L2.defArgs s_power_by, L2.defBody s_power_by, L2.defScope s_power_by, [], []⟩
theorem dk_power_by : DOk tab ti tf lq d_power_by ⟨[("turn" : PySem.Str), ("times" : PySem.Str)], false⟩ ⟨2, 4, true, b_power_by⟩ where
  bi := fun _ _ _ _ _ _ us hl => match us, hl with | [_, _], _ => rfl
  nd := ⟨rfl, rfl⟩
  go := ⟨N_power_by, false, sc_power_by, ck_power_by, rfl, fun z => Bool.noConfusion z⟩
  np := rfl
  le := by decide
def d_exchange_of : He.DefD := ⟨(("exchange_of" : PySem.Str), none), "exchange_of", "exchange_of", L2.defArgs s_exchange_of, L2.defBody s_exchange_of, L2.defScope s_exchange_of, [], []⟩
theorem dk_exchange_of : DOk tab ti tf lq d_exchange_of ⟨[("seats" : PySem.Str), ("one" : PySem.Str), ("other" : PySem.Str)], false⟩ ⟨3, 4, true, b_exchange_of⟩ where
  bi := fun _ _ _ _ _ _ us hl => match us, hl with | [_, _, _], _ => rfl
  nd := ⟨rfl, rfl⟩
  go := ⟨N_exchange_of, false, sc_exchange_of, ck_exchange_of, rfl, fun z => Bool.noConfusion z⟩
  np := rfl
  le := by decide
def d_ring_at : He.DefD := ⟨(("ring_at" : PySem.Str), none), "ring_at", "ring_at", L2.defArgs s_ring_at, L2.defBody s_ring_at, L2.defScope s_ring_at, [], []⟩
theorem dk_ring_at : DOk tab ti tf lq d_ring_at ⟨[("turn" : PySem.Str), ("seat" : PySem.Str)], false⟩ ⟨2, 3, true, b_ring_at⟩ where
  bi := fun _ _ _ _ _ _ us hl => match us, hl with | [_, _], _ => rfl
  nd := ⟨rfl, rfl⟩
  go := ⟨N_ring_at, false, sc_ring_at, ck_ring_at, rfl, fun z => Bool.noConfusion z⟩
  np := rfl
  le := by decide
def d_rings_by : He.DefD := ⟨(("rings_by" : PySem.Str), none), "rings_by", "rings_by", L2.defArgs s_rings_by, L2.defBody s_rings_by, L2.defScope s_rings_by, [], []⟩
theorem dk_rings_by : DOk tab ti tf lq d_rings_by ⟨[("turn" : PySem.Str)], false⟩ ⟨1, 4, true, b_rings_by⟩ where
  bi := fun _ _ _ _ _ _ us hl => match us, hl with | [_], _ => rfl
  nd := ⟨rfl, rfl⟩
  go := ⟨N_rings_by, false, sc_rings_by, ck_rings_by, rfl, fun z => Bool.noConfusion z⟩
  np := rfl
  le := by decide
def d_kind_by : He.DefD := ⟨(("kind_by" : PySem.Str), none), "kind_by", "kind_by", L2.defArgs s_kind_by, L2.defBody s_kind_by, L2.defScope s_kind_by, [], []⟩
theorem dk_kind_by : DOk tab ti tf lq d_kind_by ⟨[("turn" : PySem.Str)], false⟩ ⟨1, 2, true, b_kind_by⟩ where
  bi := fun _ _ _ _ _ _ us hl => match us, hl with | [_], _ => rfl
  nd := ⟨rfl, rfl⟩
  go := ⟨N_kind_by, false, sc_kind_by, ck_kind_by, rfl, fun z => Bool.noConfusion z⟩
  np := rfl
  le := by decide
def d_sign_by : He.DefD := ⟨(("sign_by" : PySem.Str), none), "sign_by", "sign_by", L2.defArgs s_sign_by, L2.defBody s_sign_by, L2.defScope s_sign_by, [], []⟩
theorem dk_sign_by : DOk tab ti tf lq d_sign_by ⟨[("turn" : PySem.Str)], false⟩ ⟨1, 1, true, b_sign_by⟩ where
  bi := fun _ _ _ _ _ _ us hl => match us, hl with | [_], _ => rfl
  nd := ⟨rfl, rfl⟩
  go := ⟨N_sign_by, false, sc_sign_by, ck_sign_by, rfl, fun z => Bool.noConfusion z⟩
  np := rfl
  le := by decide
def d_round_by : He.DefD := ⟨(("round_by" : PySem.Str), none), "round_by", "round_by", L2.defArgs s_round_by, L2.defBody s_round_by, L2.defScope s_round_by, [], []⟩
theorem dk_round_by : DOk tab ti tf lq d_round_by ⟨[("turn" : PySem.Str)], false⟩ ⟨1, 2, true, b_round_by⟩ where
  bi := fun _ _ _ _ _ _ us hl => match us, hl with | [_], _ => rfl
  nd := ⟨rfl, rfl⟩
  go := ⟨N_round_by, false, sc_round_by, ck_round_by, rfl, fun z => Bool.noConfusion z⟩
  np := rfl
  le := by decide
def d_fewest_by : He.DefD := ⟨(("fewest_by" : PySem.Str), none), "fewest_by", "fewest_by", L2.defArgs s_fewest_by, L2.defBody s_fewest_by, L2.defScope s_fewest_by, [], []⟩
theorem dk_fewest_by : DOk tab ti tf lq d_fewest_by ⟨[("turn" : PySem.Str)], false⟩ ⟨1, 1, true, b_fewest_by⟩ where
  bi := fun _ _ _ _ _ _ us hl => match us, hl with | [_], _ => rfl
  nd := ⟨rfl, rfl⟩
  go := ⟨N_fewest_by, false, sc_fewest_by, ck_fewest_by, rfl, fun z => Bool.noConfusion z⟩
  np := rfl
  le := by decide
def d_kind_of : He.DefD := ⟨(("kind_of" : PySem.Str), none), "kind_of", "kind_of", L2.defArgs s_kind_of, L2.defBody s_kind_of, L2.defScope s_kind_of, [], []⟩
theorem dk_kind_of : DOk tab ti tf lq d_kind_of ⟨[("seats" : PySem.Str), ("turn" : PySem.Str)], false⟩ ⟨2, 2, true, b_kind_of⟩ where
  bi := fun _ _ _ _ _ _ us hl => match us, hl with | [_, _], _ => rfl
  nd := ⟨rfl, rfl⟩
  go := ⟨N_kind_of, false, sc_kind_of, ck_kind_of, rfl, fun z => Bool.noConfusion z⟩
  np := rfl
  le := by decide
def d_sign : He.DefD := ⟨(("sign" : PySem.Str), none), "sign", "sign", L2.defArgs s_sign, L2.defBody s_sign, L2.defScope s_sign, [], []⟩
theorem dk_sign : DOk tab ti tf lq d_sign ⟨[("seats" : PySem.Str), ("turn" : PySem.Str)], false⟩ ⟨2, 2, true, b_sign⟩ where
  bi := fun _ _ _ _ _ _ us hl => match us, hl with | [_, _], _ => rfl
  nd := ⟨rfl, rfl⟩
  go := ⟨N_sign, false, sc_sign, ck_sign, rfl, fun z => Bool.noConfusion z⟩
  np := rfl
  le := by decide
def d_round_of : He.DefD := ⟨(("round_of" : PySem.Str), none), "round_of", "round_of", L2.defArgs s_round_of, L2.defBody s_round_of, L2.defScope s_round_of, [], []⟩
theorem dk_round_of : DOk tab ti tf lq d_round_of ⟨[("seats" : PySem.Str), ("turn" : PySem.Str)], false⟩ ⟨2, 2, true, b_round_of⟩ where
  bi := fun _ _ _ _ _ _ us hl => match us, hl with | [_, _], _ => rfl
  nd := ⟨rfl, rfl⟩
  go := ⟨N_round_of, false, sc_round_of, ck_round_of, rfl, fun z => Bool.noConfusion z⟩
  np := rfl
  le := by decide
def d_fewest_exchanges : He.DefD := ⟨(("fewest_exchanges" : PySem.Str), none), "fewest_exchanges", "fewest_exchanges", L2.defArgs s_fewest_exchanges, L2.defBody s_fewest_exchanges, L2.defScope s_fewest_exchanges, [], []⟩
theorem dk_fewest_exchanges : DOk tab ti tf lq d_fewest_exchanges ⟨[("seats" : PySem.Str), ("turn" : PySem.Str)], false⟩ ⟨2, 2, true, b_fewest_exchanges⟩ where
  bi := fun _ _ _ _ _ _ us hl => match us, hl with | [_, _], _ => rfl
  nd := ⟨rfl, rfl⟩
  go := ⟨N_fewest_exchanges, false, sc_fewest_exchanges, ck_fewest_exchanges, rfl, fun z => Bool.noConfusion z⟩
  np := rfl
  le := by decide
def d_has_form : He.DefD := ⟨(("has_form" : PySem.Str), none), "has_form", "has_form", L2.defArgs s_has_form, L2.defBody s_has_form, L2.defScope s_has_form, [], []⟩
theorem dk_has_form : DOk tab ti tf lq d_has_form ⟨[("value" : PySem.Str)], false⟩ ⟨1, 1, true, b_has_form⟩ where
  bi := fun _ _ _ _ _ _ us hl => match us, hl with | [_], _ => rfl
  nd := ⟨rfl, rfl⟩
  go := ⟨N_has_form, false, sc_has_form, ck_has_form, rfl, fun z => Bool.noConfusion z⟩
  np := rfl
  le := by decide
def d_check_exchange : He.DefD := ⟨(("check_exchange" : PySem.Str), none), "check_exchange", "check_exchange", L2.defArgs s_check_exchange, L2.defBody s_check_exchange, L2.defScope s_check_exchange, [], []⟩
theorem dk_check_exchange : DOk tab ti tf lq d_check_exchange ⟨[("seats" : PySem.Str), ("value" : PySem.Str)], false⟩ ⟨2, 2, true, b_check_exchange⟩ where
  bi := fun _ _ _ _ _ _ us hl => match us, hl with | [_, _], _ => rfl
  nd := ⟨rfl, rfl⟩
  go := ⟨N_check_exchange, false, sc_check_exchange, ck_check_exchange, rfl, fun z => Bool.noConfusion z⟩
  np := rfl
  le := by decide
def d_check_deed : He.DefD := ⟨(("check_deed" : PySem.Str), none), "check_deed", "check_deed", L2.defArgs s_check_deed, L2.defBody s_check_deed, L2.defScope s_check_deed, [], []⟩
theorem dk_check_deed : DOk tab ti tf lq d_check_deed ⟨[("seats" : PySem.Str), ("value" : PySem.Str)], false⟩ ⟨2, 2, true, b_check_deed⟩ where
  bi := fun _ _ _ _ _ _ us hl => match us, hl with | [_, _], _ => rfl
  nd := ⟨rfl, rfl⟩
  go := ⟨N_check_deed, false, sc_check_deed, ck_check_deed, rfl, fun z => Bool.noConfusion z⟩
  np := rfl
  le := by decide
def d_reason_against : He.DefD := ⟨(("reason_against" : PySem.Str), none), "reason_against", "reason_against", L2.defArgs s_reason_against, L2.defBody s_reason_against, L2.defScope s_reason_against, [], []⟩
theorem dk_reason_against : DOk tab ti tf lq d_reason_against ⟨[("turn" : PySem.Str), ("deed" : PySem.Str)], false⟩ ⟨2, 2, true, b_reason_against⟩ where
  bi := fun _ _ _ _ _ _ us hl => match us, hl with | [_, _], _ => rfl
  nd := ⟨rfl, rfl⟩
  go := ⟨N_reason_against, false, sc_reason_against, ck_reason_against, rfl, fun z => Bool.noConfusion z⟩
  np := rfl
  le := by decide
def d_turn_behind : He.DefD := ⟨(("turn_behind" : PySem.Str), none), "turn_behind", "turn_behind", L2.defArgs s_turn_behind, L2.defBody s_turn_behind, L2.defScope s_turn_behind, [], []⟩
theorem dk_turn_behind : DOk tab ti tf lq d_turn_behind ⟨[("turn" : PySem.Str), ("deed" : PySem.Str)], false⟩ ⟨2, 2, true, b_turn_behind⟩ where
  bi := fun _ _ _ _ _ _ us hl => match us, hl with | [_, _], _ => rfl
  nd := ⟨rfl, rfl⟩
  go := ⟨N_turn_behind, false, sc_turn_behind, ck_turn_behind, rfl, fun z => Bool.noConfusion z⟩
  np := rfl
  le := by decide
def d_check_bench : He.DefD := ⟨(("check_bench" : PySem.Str), none), "check_bench", "check_bench", L2.defArgs s_check_bench, L2.defBody s_check_bench, L2.defScope s_check_bench, [], []⟩
theorem dk_check_bench : DOk tab ti tf lq d_check_bench ⟨[("value" : PySem.Str)], false⟩ ⟨1, 1, false, b_check_bench⟩ where
  bi := fun _ _ _ _ _ _ us hl => match us, hl with | [_], _ => rfl
  nd := ⟨rfl, rfl⟩
  go := ⟨N_check_bench, false, sc_check_bench, ck_check_bench, rfl, fun z => Bool.noConfusion z⟩
  np := rfl
  le := by decide
def d_copy_of : He.DefD := ⟨(("copy_of" : PySem.Str), none), "copy_of", "copy_of", L2.defArgs s_copy_of, L2.defBody s_copy_of, L2.defScope s_copy_of, [], []⟩
theorem dk_copy_of : DOk tab ti tf lq d_copy_of ⟨[("bench" : PySem.Str)], false⟩ ⟨1, 3, false, b_copy_of⟩ where
  bi := fun _ _ _ _ _ _ us hl => match us, hl with | [_], _ => rfl
  nd := ⟨rfl, rfl⟩
  go := ⟨N_copy_of, false, sc_copy_of, ck_copy_of, rfl, fun z => Bool.noConfusion z⟩
  np := rfl
  le := by decide
def d_row_of : He.DefD := ⟨(("row_of" : PySem.Str), none), "row_of", "row_of", L2.defArgs s_row_of, L2.defBody s_row_of, L2.defScope s_row_of, [], []⟩
theorem dk_row_of : DOk tab ti tf lq d_row_of ⟨[("turn" : PySem.Str)], false⟩ ⟨1, 4, true, b_row_of⟩ where
  bi := fun _ _ _ _ _ _ us hl => match us, hl with | [_], _ => rfl
  nd := ⟨rfl, rfl⟩
  go := ⟨N_row_of, false, sc_row_of, ck_row_of, rfl, fun z => Bool.noConfusion z⟩
  np := rfl
  le := by decide
def d_ring_in : He.DefD := ⟨(("ring_in" : PySem.Str), none), "ring_in", "ring_in", L2.defArgs s_ring_in, L2.defBody s_ring_in, L2.defScope s_ring_in, [], []⟩
theorem dk_ring_in : DOk tab ti tf lq d_ring_in ⟨[("seats" : PySem.Str), ("text" : PySem.Str)], false⟩ ⟨2, 4, true, b_ring_in⟩ where
  bi := fun _ _ _ _ _ _ us hl => match us, hl with | [_, _], _ => rfl
  nd := ⟨rfl, rfl⟩
  go := ⟨N_ring_in, false, sc_ring_in, ck_ring_in, rfl, fun z => Bool.noConfusion z⟩
  np := rfl
  le := by decide
def d_turn_of_rings : He.DefD := ⟨(("turn_of_rings" : PySem.Str), none), "turn_of_rings", "turn_of_rings", L2.defArgs s_turn_of_rings, L2.defBody s_turn_of_rings, L2.defScope s_turn_of_rings, [], []⟩
theorem dk_turn_of_rings : DOk tab ti tf lq d_turn_of_rings ⟨[("seats" : PySem.Str), ("rings" : PySem.Str)], false⟩ ⟨2, 6, true, b_turn_of_rings⟩ where
  bi := fun _ _ _ _ _ _ us hl => match us, hl with | [_, _], _ => rfl
  nd := ⟨rfl, rfl⟩
  go := ⟨N_turn_of_rings, false, sc_turn_of_rings, ck_turn_of_rings, rfl, fun z => Bool.noConfusion z⟩
  np := rfl
  le := by decide
def d_turn_in : He.DefD := ⟨(("turn_in" : PySem.Str), none), "turn_in", "turn_in", L2.defArgs s_turn_in, L2.defBody s_turn_in, L2.defScope s_turn_in, [], []⟩
theorem dk_turn_in : DOk tab ti tf lq d_turn_in ⟨[("seats" : PySem.Str), ("text" : PySem.Str)], false⟩ ⟨2, 8, true, b_turn_in⟩ where
  bi := fun _ _ _ _ _ _ us hl => match us, hl with | [_, _], _ => rfl
  nd := ⟨rfl, rfl⟩
  go := ⟨N_turn_in, false, sc_turn_in, ck_turn_in, rfl, fun z => Bool.noConfusion z⟩
  np := rfl
  le := by decide
def d_turn_text : He.DefD := ⟨(("turn_text" : PySem.Str), none), "turn_text", "turn_text", L2.defArgs s_turn_text, L2.defBody s_turn_text, L2.defScope s_turn_text, [], []⟩
theorem dk_turn_text : DOk tab ti tf lq d_turn_text ⟨[("seats" : PySem.Str), ("turn" : PySem.Str)], false⟩ ⟨2, 2, true, b_turn_text⟩ where
  bi := fun _ _ _ _ _ _ us hl => match us, hl with | [_, _], _ => rfl
  nd := ⟨rfl, rfl⟩
  go := ⟨N_turn_text, false, sc_turn_text, ck_turn_text, rfl, fun z => Bool.noConfusion z⟩
  np := rfl
  le := by decide
def d_said_of_deed : He.DefD := ⟨(("said_of_deed" : PySem.Str), none), "said_of_deed", "said_of_deed", L2.defArgs s_said_of_deed, L2.defBody s_said_of_deed, L2.defScope s_said_of_deed, [], []⟩
theorem dk_said_of_deed : DOk tab ti tf lq d_said_of_deed ⟨[("bench" : PySem.Str), ("deed" : PySem.Str)], false⟩ ⟨2, 3, false, b_said_of_deed⟩ where
  bi := fun _ _ _ _ _ _ us hl => match us, hl with | [_, _], _ => rfl
  nd := ⟨rfl, rfl⟩
  go := ⟨N_said_of_deed, false, sc_said_of_deed, ck_said_of_deed, rfl, fun z => Bool.noConfusion z⟩
  np := rfl
  le := by decide
def d_said_of_undo : He.DefD := ⟨(("said_of_undo" : PySem.Str), none), "said_of_undo", "said_of_undo", L2.defArgs s_said_of_undo, L2.defBody s_said_of_undo, L2.defScope s_said_of_undo, [], []⟩
theorem dk_said_of_undo : DOk tab ti tf lq d_said_of_undo ⟨[("bench" : PySem.Str)], false⟩ ⟨1, 1, false, b_said_of_undo⟩ where
  bi := fun _ _ _ _ _ _ us hl => match us, hl with | [_], _ => rfl
  nd := ⟨rfl, rfl⟩
  go := ⟨N_said_of_undo, false, sc_said_of_undo, ck_said_of_undo, rfl, fun z => Bool.noConfusion z⟩
  np := rfl
  le := by decide
def d_said_of_word : He.DefD := ⟨(("said_of_word" : PySem.Str), none), "said_of_word", "said_of_word", L2.defArgs s_said_of_word, L2.defBody s_said_of_word, L2.defScope s_said_of_word, [], []⟩
theorem dk_said_of_word : DOk tab ti tf lq d_said_of_word ⟨[("bench" : PySem.Str), ("word" : PySem.Str)], false⟩ ⟨2, 3, false, b_said_of_word⟩ where
  bi := fun _ _ _ _ _ _ us hl => match us, hl with | [_, _], _ => rfl
  nd := ⟨rfl, rfl⟩
  go := ⟨N_said_of_word, false, sc_said_of_word, ck_said_of_word, rfl, fun z => Bool.noConfusion z⟩
  np := rfl
  le := by decide
def d_said_of_number : He.DefD := ⟨(("said_of_number" : PySem.Str), none), "said_of_number", "said_of_number", L2.defArgs s_said_of_number, L2.defBody s_said_of_number, L2.defScope s_said_of_number, [], []⟩
theorem dk_said_of_number : DOk tab ti tf lq d_said_of_number ⟨[("bench" : PySem.Str), ("word" : PySem.Str)], false⟩ ⟨2, 2, false, b_said_of_number⟩ where
  bi := fun _ _ _ _ _ _ us hl => match us, hl with | [_, _], _ => rfl
  nd := ⟨rfl, rfl⟩
  go := ⟨N_said_of_number, false, sc_said_of_number, ck_said_of_number, rfl, fun z => Bool.noConfusion z⟩
  np := rfl
  le := by decide
def d_law_pool : He.DefD := ⟨(("_law_pool" : PySem.Str), none), "_law_pool", "_law_pool", L2.defArgs s_law_pool, L2.defBody s_law_pool, L2.defScope s_law_pool, [], []⟩
theorem dk_law_pool : DOk tab ti tf lq d_law_pool ⟨[("script" : PySem.Str), ("k" : PySem.Str)], false⟩ ⟨2, 6, false, b_law_pool⟩ where
  bi := fun _ _ _ _ _ _ us hl => match us, hl with | [_, _], _ => rfl
  nd := ⟨rfl, rfl⟩
  go := ⟨N_law_pool, false, sc_law_pool, ck_law_pool, rfl, fun z => Bool.noConfusion z⟩
  np := rfl
  le := by decide
def d_law_take : He.DefD := ⟨(("_law_take" : PySem.Str), none), "_law_take", "_law_take", L2.defArgs s_law_take, L2.defBody s_law_take, L2.defScope s_law_take, [], []⟩
theorem dk_law_take : DOk tab ti tf lq d_law_take ⟨[("pool" : PySem.Str), ("many" : PySem.Str)], false⟩ ⟨2, 4, false, b_law_take⟩ where
  bi := fun _ _ _ _ _ _ us hl => match us, hl with | [_, _], _ => rfl
  nd := ⟨rfl, rfl⟩
  go := ⟨N_law_take, false, sc_law_take, ck_law_take, rfl, fun z => Bool.noConfusion z⟩
  np := rfl
  le := by decide
def d_law_of : He.DefD := ⟨(("_law_of" : PySem.Str), none), "_law_of", "_law_of", L2.defArgs s_law_of, L2.defBody s_law_of, L2.defScope s_law_of, [], []⟩
theorem dk_law_of : DOk tab ti tf lq d_law_of ⟨[("pool" : PySem.Str), ("some" : PySem.Str)], false⟩ ⟨2, 2, false, b_law_of⟩ where
  bi := fun _ _ _ _ _ _ us hl => match us, hl with | [_, _], _ => rfl
  nd := ⟨rfl, rfl⟩
  go := ⟨N_law_of, false, sc_law_of, ck_law_of, rfl, fun z => Bool.noConfusion z⟩
  np := rfl
  le := by decide
def d_law_turns : He.DefD := ⟨(("_law_turns" : PySem.Str), none), "_law_turns", "_law_turns", L2.defArgs s_law_turns, L2.defBody s_law_turns, L2.defScope s_law_turns, [], []⟩
theorem dk_law_turns : DOk tab ti tf lq d_law_turns ⟨[("seats" : PySem.Str)], false⟩ ⟨1, 6, true, b_law_turns⟩ where
  bi := fun _ _ _ _ _ _ us hl => match us, hl with | [_], _ => rfl
  nd := ⟨rfl, rfl⟩
  go := ⟨N_law_turns, false, sc_law_turns, ck_law_turns, rfl, fun z => Bool.noConfusion z⟩
  np := rfl
  le := by decide
def d_law_rings : He.DefD := ⟨(("_law_rings" : PySem.Str), none), "_law_rings", "_law_rings", L2.defArgs s_law_rings, L2.defBody s_law_rings, L2.defScope s_law_rings, [], []⟩
theorem dk_law_rings : DOk tab ti tf lq d_law_rings ⟨[("turn" : PySem.Str)], false⟩ ⟨1, 6, true, b_law_rings⟩ where
  bi := fun _ _ _ _ _ _ us hl => match us, hl with | [_], _ => rfl
  nd := ⟨rfl, rfl⟩
  go := ⟨N_law_rings, false, sc_law_rings, ck_law_rings, rfl, fun z => Bool.noConfusion z⟩
  np := rfl
  le := by decide
def d_law_deed : He.DefD := ⟨(("_law_deed" : PySem.Str), none), "_law_deed", "_law_deed", L2.defArgs s_law_deed, L2.defBody s_law_deed, L2.defScope s_law_deed, [], []⟩
theorem dk_law_deed : DOk tab ti tf lq d_law_deed ⟨[("pool" : PySem.Str), ("seats" : PySem.Str)], false⟩ ⟨2, 4, false, b_law_deed⟩ where
  bi := fun _ _ _ _ _ _ us hl => match us, hl with | [_, _], _ => rfl
  nd := ⟨rfl, rfl⟩
  go := ⟨N_law_deed, false, sc_law_deed, ck_law_deed, rfl, fun z => Bool.noConfusion z⟩
  np := rfl
  le := by decide
def d_law_text : He.DefD := ⟨(("_law_text" : PySem.Str), none), "_law_text", "_law_text", L2.defArgs s_law_text, L2.defBody s_law_text, L2.defScope s_law_text, [], []⟩
theorem dk_law_text : DOk tab ti tf lq d_law_text ⟨[("turn" : PySem.Str)], false⟩ ⟨1, 5, true, b_law_text⟩ where
  bi := fun _ _ _ _ _ _ us hl => match us, hl with | [_], _ => rfl
  nd := ⟨rfl, rfl⟩
  go := ⟨N_law_text, false, sc_law_text, ck_law_text, rfl, fun z => Bool.noConfusion z⟩
  np := rfl
  le := by decide
def d_law_said : He.DefD := ⟨(("_law_said" : PySem.Str), none), "_law_said", "_law_said", L2.defArgs s_law_said, L2.defBody s_law_said, L2.defScope s_law_said, [], []⟩
theorem dk_law_said : DOk tab ti tf lq d_law_said ⟨[("deed" : PySem.Str)], false⟩ ⟨1, 2, true, b_law_said⟩ where
  bi := fun _ _ _ _ _ _ us hl => match us, hl with | [_], _ => rfl
  nd := ⟨rfl, rfl⟩
  go := ⟨N_law_said, false, sc_law_said, ck_law_said, rfl, fun z => Bool.noConfusion z⟩
  np := rfl
  le := by decide
def d_law_shown : He.DefD := ⟨(("_law_shown" : PySem.Str), none), "_law_shown", "_law_shown", L2.defArgs s_law_shown, L2.defBody s_law_shown, L2.defScope s_law_shown, [], []⟩
theorem dk_law_shown : DOk tab ti tf lq d_law_shown ⟨[("bench" : PySem.Str)], false⟩ ⟨1, 3, false, b_law_shown⟩ where
  bi := fun _ _ _ _ _ _ us hl => match us, hl with | [_], _ => rfl
  nd := ⟨rfl, rfl⟩
  go := ⟨N_law_shown, false, sc_law_shown, ck_law_shown, rfl, fun z => Bool.noConfusion z⟩
  np := rfl
  le := by decide
def d_law_right : He.DefD := ⟨(("_law_right" : PySem.Str), none), "_law_right", "_law_right", L2.defArgs s_law_right, L2.defBody s_law_right, L2.defScope s_law_right, [], []⟩
theorem dk_law_right : DOk tab ti tf lq d_law_right ⟨[("pool" : PySem.Str), ("seats" : PySem.Str)], true⟩ ⟨2, 10, false, b_law_right⟩ where
  bi := fun _ _ _ _ _ _ us hl => match us, hl with | [_, _], _ => rfl
  nd := ⟨rfl, rfl⟩
  go := ⟨N_law_right, true, sc_law_right, ck_law_right, rfl, fun _ => ⟨rfl, by decide +kernel⟩⟩
  np := rfl
  le := by decide
def d_law : He.DefD := ⟨(("law" : PySem.Str), none), "law", "law", L2.defArgs s_law, L2.defBody s_law, L2.defScope s_law, [], []⟩
theorem dk_law : DOk tab ti tf lq d_law ⟨[("script" : PySem.Str)], true⟩ ⟨1, 4, false, b_law⟩ where
  bi := fun _ _ _ _ _ _ us hl => match us, hl with | [_], _ => rfl
  nd := ⟨rfl, rfl⟩
  go := ⟨N_law, false, sc_law, ck_law, rfl, fun z => Bool.noConfusion z⟩
  np := rfl
  le := by decide
def d_Bench_init__ : He.DefD := ⟨(("Bench" : PySem.Str), some ("__init__" : PySem.Str)), "__init__", "Bench.__init__", L2.defArgs s_Bench_init__, L2.defBody s_Bench_init__, L2.defScope s_Bench_init__, [], []⟩
theorem dk_Bench_init__ : DOk tab ti tf lq d_Bench_init__ ⟨[("self" : PySem.Str), ("seats" : PySem.Str)], false⟩ ⟨2, 2, false, b_Bench_init__⟩ where
  bi := fun _ _ _ _ _ _ us hl => match us, hl with | [_, _], _ => rfl
  nd := ⟨rfl, rfl⟩
  go := ⟨N_Bench_init__, false, sc_Bench_init__, ck_Bench_init__, rfl, fun z => Bool.noConfusion z⟩
  np := rfl
  le := by decide
def d_Bench_do : He.DefD := ⟨(("Bench" : PySem.Str), some ("do" : PySem.Str)), "do", "Bench.do", L2.defArgs s_Bench_do, L2.defBody s_Bench_do, L2.defScope s_Bench_do, [], []⟩
theorem dk_Bench_do : DOk tab ti tf lq d_Bench_do ⟨[("self" : PySem.Str), ("deed" : PySem.Str)], false⟩ ⟨2, 3, false, b_Bench_do⟩ where
  bi := fun _ _ _ _ _ _ us hl => match us, hl with | [_, _], _ => rfl
  nd := ⟨rfl, rfl⟩
  go := ⟨N_Bench_do, false, sc_Bench_do, ck_Bench_do, rfl, fun z => Bool.noConfusion z⟩
  np := rfl
  le := by decide
def d_Bench_undo : He.DefD := ⟨(("Bench" : PySem.Str), some ("undo" : PySem.Str)), "undo", "Bench.undo", L2.defArgs s_Bench_undo, L2.defBody s_Bench_undo, L2.defScope s_Bench_undo, [], []⟩
theorem dk_Bench_undo : DOk tab ti tf lq d_Bench_undo ⟨[("self" : PySem.Str)], false⟩ ⟨1, 1, false, b_Bench_undo⟩ where
  bi := fun _ _ _ _ _ _ us hl => match us, hl with | [_], _ => rfl
  nd := ⟨rfl, rfl⟩
  go := ⟨N_Bench_undo, false, sc_Bench_undo, ck_Bench_undo, rfl, fun z => Bool.noConfusion z⟩
  np := rfl
  le := by decide
def d_Bench_rings : He.DefD := ⟨(("Bench" : PySem.Str), some ("rings" : PySem.Str)), "rings", "Bench.rings", L2.defArgs s_Bench_rings, L2.defBody s_Bench_rings, L2.defScope s_Bench_rings, [], []⟩
theorem dk_Bench_rings : DOk tab ti tf lq d_Bench_rings ⟨[("self" : PySem.Str)], false⟩ ⟨1, 1, false, b_Bench_rings⟩ where
  bi := fun _ _ _ _ _ _ us hl => match us, hl with | [_], _ => rfl
  nd := ⟨rfl, rfl⟩
  go := ⟨N_Bench_rings, false, sc_Bench_rings, ck_Bench_rings, rfl, fun z => Bool.noConfusion z⟩
  np := rfl
  le := by decide
def d_Bench_is_stay : He.DefD := ⟨(("Bench" : PySem.Str), some ("is_stay" : PySem.Str)), "is_stay", "Bench.is_stay", L2.defArgs s_Bench_is_stay, L2.defBody s_Bench_is_stay, L2.defScope s_Bench_is_stay, [], []⟩
theorem dk_Bench_is_stay : DOk tab ti tf lq d_Bench_is_stay ⟨[("self" : PySem.Str)], false⟩ ⟨1, 1, false, b_Bench_is_stay⟩ where
  bi := fun _ _ _ _ _ _ us hl => match us, hl with | [_], _ => rfl
  nd := ⟨rfl, rfl⟩
  go := ⟨N_Bench_is_stay, false, sc_Bench_is_stay, ck_Bench_is_stay, rfl, fun z => Bool.noConfusion z⟩
  np := rfl
  le := by decide
def d_Bench_eq__ : He.DefD := ⟨(("Bench" : PySem.Str), some ("__eq__" : PySem.Str)), "__eq__", "Bench.__eq__", L2.defArgs s_Bench_eq__, L2.defBody s_Bench_eq__, L2.defScope s_Bench_eq__, [], []⟩
theorem dk_Bench_eq__ : DOk tab ti tf lq d_Bench_eq__ ⟨[("self" : PySem.Str), ("other" : PySem.Str)], false⟩ ⟨2, 2, false, b_Bench_eq__⟩ where
  bi := fun _ _ _ _ _ _ us hl => match us, hl with | [_, _], _ => rfl
  nd := ⟨rfl, rfl⟩
  go := ⟨N_Bench_eq__, false, sc_Bench_eq__, ck_Bench_eq__, rfl, fun z => Bool.noConfusion z⟩
  np := rfl
  le := by decide
def d_Console_init__ : He.DefD := ⟨(("Console" : PySem.Str), some ("__init__" : PySem.Str)), "__init__", "Console.__init__", L2.defArgs s_Console_init__, L2.defBody s_Console_init__, L2.defScope s_Console_init__, [], []⟩
theorem dk_Console_init__ : DOk tab ti tf lq d_Console_init__ ⟨[("self" : PySem.Str), ("bench" : PySem.Str)], false⟩ ⟨2, 2, false, b_Console_init__⟩ where
  bi := fun _ _ _ _ _ _ us hl => match us, hl with | [_, _], _ => rfl
  nd := ⟨rfl, rfl⟩
  go := ⟨N_Console_init__, false, sc_Console_init__, ck_Console_init__, rfl, fun z => Bool.noConfusion z⟩
  np := rfl
  le := by decide
def d_Console_say : He.DefD := ⟨(("Console" : PySem.Str), some ("say" : PySem.Str)), "say", "Console.say", L2.defArgs s_Console_say, L2.defBody s_Console_say, L2.defScope s_Console_say, [], []⟩
theorem dk_Console_say : DOk tab ti tf lq d_Console_say ⟨[("self" : PySem.Str), ("line" : PySem.Str)], false⟩ ⟨2, 4, false, b_Console_say⟩ where
  bi := fun _ _ _ _ _ _ us hl => match us, hl with | [_, _], _ => rfl
  nd := ⟨rfl, rfl⟩
  go := ⟨N_Console_say, false, sc_Console_say, ck_Console_say, rfl, fun z => Bool.noConfusion z⟩
  np := rfl
  le := by decide
abbrev s_InvalidNumber_init : PySem.Stmt := mth 3 0
def d_InvalidNumber_init : He.DefD := ⟨(("InvalidNumber" : PySem.Str), some ("__init__" : PySem.Str)), "__init__", "InvalidNumber.__init__", L2.defArgs s_InvalidNumber_init, L2.defBody s_InvalidNumber_init, L2.defScope s_InvalidNumber_init, [], []⟩
theorem xk_InvalidNumber_init : XOk d_InvalidNumber_init ("InvalidNumber" : PySem.Str) [103, 105, 118, 101, 110] := ⟨rfl, ⟨rfl, rfl⟩, _, _, _, _, _, _, rfl, ⟨rfl, rfl, rfl, by decide +kernel, rfl, by decide +kernel, by decide +kernel⟩, rfl, rfl, fun _ _ _ _ _ _ us hl => match us, hl with | [_, _], _ => rfl⟩
abbrev s_InvalidTurn_init : PySem.Stmt := mth 4 0
def d_InvalidTurn_init : He.DefD := ⟨(("InvalidTurn" : PySem.Str), some ("__init__" : PySem.Str)), "__init__", "InvalidTurn.__init__", L2.defArgs s_InvalidTurn_init, L2.defBody s_InvalidTurn_init, L2.defScope s_InvalidTurn_init, [], []⟩
theorem xk_InvalidTurn_init : XOk d_InvalidTurn_init ("InvalidTurn" : PySem.Str) [103, 105, 118, 101, 110] := ⟨rfl, ⟨rfl, rfl⟩, _, _, _, _, _, _, rfl, ⟨rfl, rfl, rfl, by decide +kernel, rfl, by decide +kernel, by decide +kernel⟩, rfl, rfl, fun _ _ _ _ _ _ us hl => match us, hl with | [_, _], _ => rfl⟩
abbrev s_InvalidLine_init : PySem.Stmt := mth 5 0
def d_InvalidLine_init : He.DefD := ⟨(("InvalidLine" : PySem.Str), some ("__init__" : PySem.Str)), "__init__", "InvalidLine.__init__", L2.defArgs s_InvalidLine_init, L2.defBody s_InvalidLine_init, L2.defScope s_InvalidLine_init, [], []⟩
theorem xk_InvalidLine_init : XOk d_InvalidLine_init ("InvalidLine" : PySem.Str) [103, 105, 118, 101, 110] := ⟨rfl, ⟨rfl, rfl⟩, _, _, _, _, _, _, rfl, ⟨rfl, rfl, rfl, by decide +kernel, rfl, by decide +kernel, by decide +kernel⟩, rfl, rfl, fun _ _ _ _ _ _ us hl => match us, hl with | [_, _], _ => rfl⟩
abbrev s_NotABench_init : PySem.Stmt := mth 6 0
def d_NotABench_init : He.DefD := ⟨(("NotABench" : PySem.Str), some ("__init__" : PySem.Str)), "__init__", "NotABench.__init__", L2.defArgs s_NotABench_init, L2.defBody s_NotABench_init, L2.defScope s_NotABench_init, [], []⟩
theorem xk_NotABench_init : XOk d_NotABench_init ("NotABench" : PySem.Str) [103, 105, 118, 101, 110] := ⟨rfl, ⟨rfl, rfl⟩, _, _, _, _, _, _, rfl, ⟨rfl, rfl, rfl, by decide +kernel, rfl, by decide +kernel, by decide +kernel⟩, rfl, rfl, fun _ _ _ _ _ _ us hl => match us, hl with | [_, _], _ => rfl⟩
abbrev s_InvalidDeed_init : PySem.Stmt := mth 7 0
def d_InvalidDeed_init : He.DefD := ⟨(("InvalidDeed" : PySem.Str), some ("__init__" : PySem.Str)), "__init__", "InvalidDeed.__init__", L2.defArgs s_InvalidDeed_init, L2.defBody s_InvalidDeed_init, L2.defScope s_InvalidDeed_init, [], []⟩
theorem xk_InvalidDeed_init : XOk d_InvalidDeed_init ("InvalidDeed" : PySem.Str) [105, 110, 100, 101, 120] := ⟨rfl, ⟨rfl, rfl⟩, _, _, _, _, _, _, rfl, ⟨rfl, rfl, rfl, by decide +kernel, rfl, by decide +kernel, by decide +kernel⟩, rfl, rfl, fun _ _ _ _ _ _ us hl => match us, hl with | [_, _], _ => rfl⟩
abbrev s_Barred_init : PySem.Stmt := mth 8 0
def d_Barred_init : He.DefD := ⟨(("Barred" : PySem.Str), some ("__init__" : PySem.Str)), "__init__", "Barred.__init__", L2.defArgs s_Barred_init, L2.defBody s_Barred_init, L2.defScope s_Barred_init, [], []⟩
theorem xk_Barred_init : XOk d_Barred_init ("Barred" : PySem.Str) [114, 101, 97, 115, 111, 110] := ⟨rfl, ⟨rfl, rfl⟩, _, _, _, _, _, _, rfl, ⟨rfl, rfl, rfl, by decide +kernel, rfl, by decide +kernel, by decide +kernel⟩, rfl, rfl, fun _ _ _ _ _ _ us hl => match us, hl with | [_, _], _ => rfl⟩
abbrev s_told_law_tried : PySem.Stmt := top 81
def d_told_law_tried : He.DefD := ⟨(("_law_tried" : PySem.Str), none), "_law_tried", "_law_tried", L2.defArgs s_told_law_tried, L2.defBody s_told_law_tried, L2.defScope s_told_law_tried, [], []⟩
def L : LD where
  ti := ti
  B := tab
  cn := [("TurnError" : PySem.Str), ("InvalidNumber" : PySem.Str), ("InvalidTurn" : PySem.Str), ("InvalidLine" : PySem.Str), ("NotABench" : PySem.Str), ("InvalidDeed" : PySem.Str), ("Barred" : PySem.Str), ("NothingToUndo" : PySem.Str), ("Bench" : PySem.Str), ("Console" : PySem.Str)]
  ds := [d_wall, d_is_whole, d_is_between, d_is_string, d_is_made_of, d_is_tuple_of, d_words_of, d_number_in, d_numbers_in, d_is_seats, d_check_seats, d_is_seat, d_is_turn, d_check_turn, d_check_turned, d_stay_of, d_then_by, d_back_by, d_power_by, d_exchange_of, d_ring_at, d_rings_by, d_kind_by, d_sign_by, d_round_by, d_fewest_by, d_kind_of, d_sign, d_round_of, d_fewest_exchanges, d_has_form, d_check_exchange, d_check_deed, d_reason_against, d_turn_behind, d_check_bench, d_copy_of, d_row_of, d_ring_in, d_turn_of_rings, d_turn_in, d_turn_text, d_said_of_deed, d_said_of_undo, d_said_of_word, d_said_of_number, d_law_pool, d_law_take, d_law_of, d_law_turns, d_law_rings, d_law_deed, d_law_text, d_law_said, d_law_shown, d_law_right, d_law, d_Bench_init__, d_Bench_do, d_Bench_undo, d_Bench_rings, d_Bench_is_stay, d_Bench_eq__, d_Console_init__, d_Console_say]
  xd := [("InvalidNumber", 1, d_InvalidNumber_init), ("InvalidTurn", 2, d_InvalidTurn_init), ("InvalidLine", 3, d_InvalidLine_init), ("NotABench", 4, d_NotABench_init), ("InvalidDeed", 5, d_InvalidDeed_init), ("Barred", 6, d_Barred_init)]
  td := [("_law_tried", 0, d_told_law_tried)]
  sb := [[some true, some false, some false, some false, some false, some false, some false, some false, none, none], [some true, some true, some false, some false, some false, some false, some false, some false, none, none], [some true, some false, some true, some false, some false, some false, some false, some false, none, none], [some true, some false, some false, some true, some false, some false, some false, some false, none, none], [some true, some false, some false, some false, some true, some false, some false, some false, none, none], [some true, some false, some false, some false, some false, some true, some false, some false, none, none], [some true, some false, some false, some false, some false, some false, some true, some false, none, none], [some true, some false, some false, some false, some false, some false, some false, some true, none, none], [none, none, none, none, none, none, none, none, none, none], [none, none, none, none, none, none, none, none, none, none]]
  fl := [[], [], [], [], [], [], [], [], [[115, 101, 97, 116, 115], [116, 117, 114, 110], [100, 101, 101, 100, 115], [112, 97, 115, 116]], [[98, 101, 110, 99, 104]]]
  xf := [[], [[103, 105, 118, 101, 110]], [[103, 105, 118, 101, 110]], [[103, 105, 118, 101, 110]], [[103, 105, 118, 101, 110]], [[105, 110, 100, 101, 120]], [[114, 101, 97, 115, 111, 110]], [], [], []]
  dt := dcts
  dn := [("SIZES" : PySem.Str)]
theorem tk_told_law_tried : TOk L d_told_law_tried ("_law_tried" : PySem.Str) 0 := ⟨rfl, ⟨rfl, rfl⟩, ⟨rfl, rfl⟩, rfl, _, _, _, _, _, _, _, _, _, _, _, _, _, _, _, _, _, _, rfl, rfl, by decide +kernel, rfl, rfl, ⟨rfl, rfl, rfl, by decide +kernel, rfl, by decide +kernel, by decide +kernel⟩, rfl, rfl, rfl, rfl, rfl, by decide +kernel, rfl, rfl, .inl rfl, fun _ => rfl, fun _ _ _ _ _ _ us hl => match us, hl with | [_], _ => rfl⟩
theorem all3 : All3 tab ti tf lq L.ds ti.fs tab.fns := .cons dk_wall (.cons dk_is_whole (.cons dk_is_between (.cons dk_is_string (.cons dk_is_made_of (.cons dk_is_tuple_of (.cons dk_words_of (.cons dk_number_in (.cons dk_numbers_in (.cons dk_is_seats (.cons dk_check_seats (.cons dk_is_seat (.cons dk_is_turn (.cons dk_check_turn (.cons dk_check_turned (.cons dk_stay_of (.cons dk_then_by (.cons dk_back_by (.cons dk_power_by (.cons dk_exchange_of (.cons dk_ring_at (.cons dk_rings_by (.cons dk_kind_by (.cons dk_sign_by (.cons dk_round_by (.cons dk_fewest_by (.cons dk_kind_of (.cons dk_sign (.cons dk_round_of (.cons dk_fewest_exchanges (.cons dk_has_form (.cons dk_check_exchange (.cons dk_check_deed (.cons dk_reason_against (.cons dk_turn_behind (.cons dk_check_bench (.cons dk_copy_of (.cons dk_row_of (.cons dk_ring_in (.cons dk_turn_of_rings (.cons dk_turn_in (.cons dk_turn_text (.cons dk_said_of_deed (.cons dk_said_of_undo (.cons dk_said_of_word (.cons dk_said_of_number (.cons dk_law_pool (.cons dk_law_take (.cons dk_law_of (.cons dk_law_turns (.cons dk_law_rings (.cons dk_law_deed (.cons dk_law_text (.cons dk_law_said (.cons dk_law_shown (.cons dk_law_right (.cons dk_law (.cons dk_Bench_init__ (.cons dk_Bench_do (.cons dk_Bench_undo (.cons dk_Bench_rings (.cons dk_Bench_is_stay (.cons dk_Bench_eq__ (.cons dk_Console_init__ (.cons dk_Console_say (.nil)))))))))))))))))))))))))))))))))))))))))))))))))))))))))))))))))
theorem lok : LOk L tf lq where
  sb := rfl
  fl := rfl
  xf := rfl
  dc := rfl
  data := by decide +kernel
  len := ⟨rfl, rfl⟩
  defs := all3.at
  xs := fun q hq f hf => by
    simp only [L, List.mem_cons, List.not_mem_nil, or_false] at hq
    rcases hq with rfl | rfl | rfl | rfl | rfl | rfl
    · cases hf; exact xk_InvalidNumber_init
    · cases hf; exact xk_InvalidTurn_init
    · cases hf; exact xk_InvalidLine_init
    · cases hf; exact xk_NotABench_init
    · cases hf; exact xk_InvalidDeed_init
    · cases hf; exact xk_Barred_init
  ts := fun q hq => by
    simp only [L, List.mem_cons, List.not_mem_nil, or_false] at hq
    rcases hq with rfl
    · exact tk_told_law_tried
  kw := fun f p ks pm h => by
    cases h
  km := fun f ks pm h => by
    cases h
def tabs : List He.Tab := [(fun K => He.ga K ("SIZES" : PySem.Str), [("then" : PySem.Str), ("exchange" : PySem.Str), ("back" : PySem.Str)])]
def lo0 : List PySem.Str := [("_wall" : PySem.Str), ("TurnError" : PySem.Str), ("InvalidNumber" : PySem.Str), ("InvalidTurn" : PySem.Str), ("InvalidLine" : PySem.Str), ("NotABench" : PySem.Str), ("InvalidDeed" : PySem.Str), ("Barred" : PySem.Str), ("NothingToUndo" : PySem.Str), ("FIGURES" : PySem.Str), ("is_whole" : PySem.Str), ("is_between" : PySem.Str), ("is_string" : PySem.Str), ("is_made_of" : PySem.Str), ("is_tuple_of" : PySem.Str), ("words_of" : PySem.Str), ("number_in" : PySem.Str), ("numbers_in" : PySem.Str), ("FEWEST_SEATS" : PySem.Str), ("MOST_SEATS" : PySem.Str), ("is_seats" : PySem.Str), ("check_seats" : PySem.Str), ("is_seat" : PySem.Str), ("is_turn" : PySem.Str), ("check_turn" : PySem.Str), ("check_turned" : PySem.Str), ("stay_of" : PySem.Str), ("then_by" : PySem.Str), ("back_by" : PySem.Str), ("power_by" : PySem.Str), ("exchange_of" : PySem.Str), ("ring_at" : PySem.Str), ("rings_by" : PySem.Str), ("kind_by" : PySem.Str), ("sign_by" : PySem.Str), ("round_by" : PySem.Str), ("fewest_by" : PySem.Str), ("kind_of" : PySem.Str), ("sign" : PySem.Str), ("round_of" : PySem.Str)]
def lo1 : List PySem.Str := [("fewest_exchanges" : PySem.Str), ("SIZES" : PySem.Str), ("STAY_benches" : PySem.Str), ("MIRROR" : PySem.Str), ("has_form" : PySem.Str), ("check_exchange" : PySem.Str), ("check_deed" : PySem.Str), ("reason_against" : PySem.Str), ("turn_behind" : PySem.Str), ("Bench" : PySem.Str), ("check_bench" : PySem.Str), ("copy_of" : PySem.Str), ("STAY_turntexts" : PySem.Str), ("BEGIN" : PySem.Str), ("END" : PySem.Str), ("row_of" : PySem.Str), ("ring_in" : PySem.Str), ("turn_of_rings" : PySem.Str), ("turn_in" : PySem.Str), ("turn_text" : PySem.Str), ("LOST" : PySem.Str), ("DONE" : PySem.Str), ("NOTHING" : PySem.Str), ("said_of_deed" : PySem.Str), ("said_of_undo" : PySem.Str), ("said_of_word" : PySem.Str), ("said_of_number" : PySem.Str), ("Console" : PySem.Str), ("_law_pool" : PySem.Str), ("_law_take" : PySem.Str), ("_law_of" : PySem.Str), ("_law_turns" : PySem.Str), ("_law_rings" : PySem.Str), ("_law_deed" : PySem.Str), ("_law_tried" : PySem.Str), ("_law_text" : PySem.Str), ("_law_said" : PySem.Str), ("_law_shown" : PySem.Str), ("_law_right" : PySem.Str)]
abbrev loose : List PySem.Str := lo0 ++ lo1
abbrev R : PySem.W.OpenRow := PySem.W.OpenLaw.row PySem.Challenge.rw_turnproducts_k87_whole_consoles_beside_b
abbrev hk : PySem.W.Hook := hookM 6 L.fn tabs tf (exK L)
def ob (s : PySem.W.SharedT) : He.AlX := obsM 6 L.fn tabs tf (exK L) (HandSHeadRun.getT s)
theorem ob_eq (s : PySem.W.SharedT) : ob s = hk.obs s.abs := obsM_eq (HandSHeadRun.getT_eq s)
open PySem PySem.W PySem.Calls PyProof.Rows HandSHeadRun in
theorem runF1 (w : PySem.World) (os : OsState) : (endF (stepQ (denQ tabQ) R.prog (w.withFollow "special-get-raises" false)) 9000 R.prog (w.withFollow "special-get-raises" false) os).map (fun s => (looksF R.prog (boot_heap (w.withFollow "special-get-raises" false).params) s.abs, seenQ (PySem.W.view R.prog [86]) loose (importedModules R.prog.main.body) (fun s => xlAt (PySem.W.view R.prog [86]) [] s && recOk R.toRowW.records s) s.abs)) = some (true, openGood (PySem.W.view R.prog [86]) loose) := by
  kernel_rfl
open PySem PySem.W PySem.Calls PyProof.Rows HandSHeadRun in
theorem runF2 (w : PySem.World) (os : OsState) : (endF (stepQ (denQ tabQ) R.prog (w.withFollow "special-get-raises" false)) 9000 R.prog (w.withFollow "special-get-raises" false) os).map (fun s => ob s) = some (hk.val (w.withFollow "special-get-raises" false)) := by
  kernel_rfl
theorem runF (w : PySem.World) : (fun w => HandSHeadRun.RunEq R (PySem.W.view R.prog [86]) hk ob 9000 loose w) (w.withFollow "special-get-raises" false) := fun os => looks2 (runF1 w os) (runF2 w os)
open PySem PySem.W PySem.Calls PyProof.Rows HandSHeadRun in
theorem runT1 (w : PySem.World) (os : OsState) : (endF (stepQ (denQ tabQ) R.prog (w.withFollow "special-get-raises" true)) 9000 R.prog (w.withFollow "special-get-raises" true) os).map (fun s => (looksF R.prog (boot_heap (w.withFollow "special-get-raises" true).params) s.abs, seenQ (PySem.W.view R.prog [86]) loose (importedModules R.prog.main.body) (fun s => xlAt (PySem.W.view R.prog [86]) [] s && recOk R.toRowW.records s) s.abs)) = some (true, openGood (PySem.W.view R.prog [86]) loose) := by
  kernel_rfl
open PySem PySem.W PySem.Calls PyProof.Rows HandSHeadRun in
theorem runT2 (w : PySem.World) (os : OsState) : (endF (stepQ (denQ tabQ) R.prog (w.withFollow "special-get-raises" true)) 9000 R.prog (w.withFollow "special-get-raises" true) os).map (fun s => ob s) = some (hk.val (w.withFollow "special-get-raises" true)) := by
  kernel_rfl
theorem runT (w : PySem.World) : (fun w => HandSHeadRun.RunEq R (PySem.W.view R.prog [86]) hk ob 9000 loose w) (w.withFollow "special-get-raises" true) := fun os => looks2 (runT1 w os) (runT2 w os)
theorem run (w : PySem.World) : HandSHeadRun.RunEq R (PySem.W.view R.prog [86]) hk ob 9000 loose w := PySem.W.byRow2 "special-get-raises" (P := fun w => HandSHeadRun.RunEq R (PySem.W.view R.prog [86]) hk ob 9000 loose w) runF runT w
end Ev

namespace Ev
abbrev depth : Nat := 15
theorem plain : PlainLaw tab depth f_law 63 := fun ns hl _ => Pl.law_ok (n := 13) (Nat.lt_of_le_of_lt hl (by decide)) fun s l h p hs hp => Pl.right_ok (n := 0) hs hp
end Ev

open PySem PySem.W PySem.Calls PyProof.Rows
set_option maxRecDepth 100000 in
set_option maxHeartbeats 0 in
theorem PySem.Challenge.cw_turnproducts_k87_whole_consoles_beside_b_holds : PySem.Challenge.rw_turnproducts_k87_whole_consoles_beside_b.Holds := by
  w_on; o_law
  refine HandSHeadRun.head_any (r := OpenLaw.row PySem.Challenge.rw_turnproducts_k87_whole_consoles_beside_b) (q := view (OpenLaw.row PySem.Challenge.rw_turnproducts_k87_whole_consoles_beside_b).prog [86]) (H := Ev.hk) (ob := Ev.ob) (M := 9000) (loose := Ev.loose) (d := HandSHeadRun.topDef (OpenLaw.row PySem.Challenge.rw_turnproducts_k87_whole_consoles_beside_b).prog 86) (kwd := []) Ev.ob_eq
    (by kernel_rfl) (fun s => by kernel_rfl) Ev.run (by kernel_rfl) (by kernel_rfl) (by kernel_rfl) (by rfl) (by first | assumption | decide +kernel) (by decide +kernel) ⟨rfl, rfl, rfl, rfl, rfl, by decide +kernel⟩ ?hw ?hc
  case hw => w_witness2
  case hc =>
    refine Ev.walkE' (l := PySem.Challenge.rw_turnproducts_k87_whole_consoles_beside_b) (n := 63) (k := Ev.lev Ev.depth) (x := "script") rfl (by decide) (by kernel_rfl) ⟨rfl, by decide, by decide⟩ ?F
    intro w mg fa h Y G hmg0
    obtain ⟨K, KX, c⟩ := Y
    have hmg : mg ("law" : PySem.Str) = some (.ref fa) := by
      have e : (HandSHeadRun.topDef (OpenLaw.row PySem.Challenge.rw_turnproducts_k87_whole_consoles_beside_b).prog 86).name = ("law" : PySem.Str) := by kernel_rfl
      rw [← e]
      exact hmg0
    exact ⟨K, KX, Ev.lawE_of (f := Ev.f_law) (gz := true) rfl Ev.lok KX G c (fun k x e => match k, e with | 0, e => by cases e; exact c.t.tab 0 rfl | _ + 1, e => by cases e) rfl rfl hmg Ev.plain⟩

