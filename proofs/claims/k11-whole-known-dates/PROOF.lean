import PyProof.Rows.All
import HandS.Codes
import HandS.Conv
import HandS.Deep
import HandS.ExcIs
import HandS.ExcOwn
import HandS.Flow
import HandS.ForMost
import HandS.HotCalls
import HandS.IsInst
import HandS.Iter
import HandS.More
import HandS.Replace
import HandS.SetFor
import HandS.SetKeys
import HandS.StrMore
import HandS.Style
import HandS.TryOnly
import HandS.TupAny
import HandS.TupMul
import HandS.Wide
import HandS.WordsExc
import HandS.Zip
import KE.DataMinMax
import KE.DatumOrd
import KE.GoesMore
import KE.GoesNew
import KE.KIntText
import KE.SortData
import PyProof.ListOps
import PyProof.SumAny
import PySem.Challenge.RW_datepattern_k11_whole_known_dates
set_option autoImplicit false
set_option linter.all false
namespace PyI
abbrev Txt := List Nat
/-- values: tuples are values, lists and dicts are places of the store -/
inductive PV where
  | non | bl (b : Bool) | int (i : Int) | str (s : Txt) | tup (l : List PV) | ref (n : Nat)
inductive PO where
  | lst (xs : List PV) | scr (xs : List PV) | dic (kvs : List (Txt × PV)) | ldc (kvs : List (Txt × PV)) | ins (c : Nat) (fs : List (Nat × PV))
abbrev Store := List PO
abbrev Env := List (Option PV)
abbrev PQ := PV → Store → Prop
abbrev PR := Nat → Store → Prop
abbrev Ct := List PV → Store → PQ → PR → Prop
abbrev big : Nat := 16777216

inductive BOp where | add | sub | mul | div | mod | pow
inductive COp where | eq | ne | lt | le | gt | ge | is | isn | isin | nin
inductive ItK where | seq | rng1 | rng2 | rng3 | enm | zip2 | zip3 | vals | keys
inductive BI where | dictP | len | str | int | tuple | list | lrange | sum | all | any | min | max | min2 | max2 | isInt | isBool | isStr | isTup | isSeq | lenset | minD | maxD | sumL | sortD
  deriving DecidableEq
def lngT : List (Txt × Int) := [([68], 2), ([68, 68], 2), ([77], 2), ([77, 77], 2), ([89, 89], 2), ([89, 89, 89, 89], 4), ([74], 3), ([74, 74, 74], 3)]
inductive MI where | append | extend | pop | popAt | index | insert | join | isalpha | split | partition | startswith | sindex | get | setdefault | lcount
  deriving DecidableEq
inductive Tg where | nm (i : Nat) | tp (l : List Nat)

/-- expressions; argument lists are made of nil and cons -/
inductive IE where
  | var (i : Nat) | glb (k : Nat) | int (i : Int) | str (s : Txt) | bl (b : Bool) | non
  | bin (op : BOp) (a b : IE) | cmp (op : COp) (a b : IE) | chain (o1 o2 : COp) (a b c : IE) | neg (a : IE)
  | and (a b : IE) | or (a b : IE) | not (a : IE) | ite (c a b : IE)
  | nil | cons (a b : IE)
  | tup (a : IE) | lst (a : IE) | dic0
  | sub (a i : IE) | slice (a lo hi : IE) | rev (a : IE)
  | call (f : Nat) (a : IE) | blt (b : BI) (a : IE) | meth (m : MI) (o a : IE)
  | comp (t : Tg) (k : ItK) (its : IE) (own : List Nat) (c e : IE)
  | fld (o : IE) (f : Nat) | newc (f : Nat) (a : IE) | mcl (f : Nat) (o a : IE) | lenc (f : Nat) (o : IE) | orv (a b : IE) | selc (fs : List Nat) (i a : IE) | glbsub (k : Nat) (i : IE) | lrg (a : IE)

inductive IS where
  | pass | seq (a b : IS) | asg (t : Tg) (e : IE) | par (l : List Nat) (e : IE) | aug (i : Nat) (e : IE)
  | setsub (o i e : IE) | augsub (o i e : IE) | setfld (o : IE) (f : Nat) (e : IE)
  | ex (e : IE) | ret (e : IE) | retn | ite (c : IE) (a b : IS) | whl (c : IE) (b : IS) | frl (t : Tg) (k : ItK) (its : IE) (b : IS)
  | brk | cnt | rse (c : Nat) | nev | tri (b : IS) (k : Nat)

/-! ### helpers -/
def getv : Env → Nat → Option PV
  | [], _ => none
  | o :: _, 0 => o
  | _ :: r, n + 1 => getv r n
def getL (S : Store) (n : Nat) : Option (List PV) := match S[n]? with
  | some (.lst xs) => some xs
  | some (.scr xs) => some xs
  | _ => none
def getD (S : Store) (n : Nat) : Option (List (Txt × PV)) := match S[n]? with
  | some (.dic xs) => some xs
  | _ => none
def atP {α : Type} (xs : List α) : Int → Option α
  | .ofNat k => xs[k]?
  | .negSucc k => if k < xs.length then xs[xs.length - (k + 1)]? else none
def idx (n : Nat) : Int → Option Nat
  | .ofNat k => if k < n then some k else none
  | .negSucc k => if k < n then some (n - (k + 1)) else none
def sIx (len dflt : Nat) : Option Int → Nat
  | none => dflt
  | some w => if w < 0 then (w + (len : Int)).toNat else min w.toNat len
def cut {α : Type} (xs : List α) (lo hi : Option Int) : List α := (xs.drop (sIx xs.length 0 lo)).take (sIx xs.length xs.length hi - sIx xs.length 0 lo)
def numT (n : Nat) : Txt := (Nat.toDigits 10 n).map Char.toNat
def flat : PV → Bool
  | .non => true | .bl _ => true | .int _ => true | .str _ => true | _ => false
def eqP : PV → PV → Bool
  | .non, .non => true
  | .bl x, .bl y => x == y
  | .bl x, .int y => (if x then 1 else 0) == y
  | .int x, .bl y => x == (if y then 1 else 0)
  | .int x, .int y => x == y
  | .str x, .str y => x == y
  | _, _ => false
def inP (x : PV) (xs : List PV) : Bool := xs.any fun y => eqP y x

/-! ### data: what == compares -/
inductive Dt where
  | non | bl (b : Bool) | int (i : Int) | str (s : Txt) | tup (l : List Dt) | lst (l : List Dt)
mutual
def Dt.eqv : Dt → Dt → Bool
  | .non, .non => true
  | .bl p, .bl q => p == q
  | .bl p, .int n => (if p then 1 else 0) == n
  | .int m, .bl q => m == (if q then 1 else 0)
  | .int m, .int n => m == n
  | .str x, .str y => x == y
  | .lst xs, .lst ys => Dt.eqvAll xs ys
  | .tup xs, .tup ys => Dt.eqvAll xs ys
  | .non, .bl _ | .non, .int _ | .non, .str _ | .non, .lst _ | .non, .tup _ => false
  | .bl _, .non | .bl _, .str _ | .bl _, .lst _ | .bl _, .tup _ => false
  | .int _, .non | .int _, .str _ | .int _, .lst _ | .int _, .tup _ => false
  | .str _, .non | .str _, .bl _ | .str _, .int _ | .str _, .lst _ | .str _, .tup _ => false
  | .lst _, .non | .lst _, .bl _ | .lst _, .int _ | .lst _, .str _ | .lst _, .tup _ => false
  | .tup _, .non | .tup _, .bl _ | .tup _, .int _ | .tup _, .str _ | .tup _, .lst _ => false
def Dt.eqvAll : List Dt → List Dt → Bool
  | [], [] => true
  | x :: xs, y :: ys => Dt.eqv x y && Dt.eqvAll xs ys
  | [], _ :: _ => false
  | _ :: _, [] => false
end
def ofT (s : Txt) : PySem.Str := ⟨s.toArray⟩
mutual
def toD : Dt → PySem.PyData
  | .non => .none
  | .bl b => .bool b
  | .int i => .int i
  | .str s => .str (ofT s)
  | .tup l => .tuple (toDs l)
  | .lst l => .list (toDs l)
def toDs : List Dt → List PySem.PyData
  | [] => []
  | x :: r => toD x :: toDs r
end
/-- the order of data -/
def ltDt (a b : Dt) : Bool := PySem.W.dataLt (toD a) (toD b)
def minDt (d : Dt) (ds : List Dt) : Dt := ds.foldl (fun a y => if ltDt y a then y else a) d
def maxDt (d : Dt) (ds : List Dt) : Dt := ds.foldl (fun a y => if ltDt a y then y else a) d
def alikeDt (ds : List Dt) : Prop := ∀ x ∈ ds, (∀ y ∈ ds, PySem.W.alike (toD x) (toD y) = true) ∧ x ≠ .non
def txtOk (s : Txt) : Prop := ∀ c ∈ s, c < 1114112
mutual
/-- in the store S the value stands for the datum, nested at most k deep -/
inductive Dn (S : Store) : Nat → PV → Dt → Prop
  | non {k : Nat} : Dn S k .non .non
  | bl {k : Nat} (b : Bool) : Dn S k (.bl b) (.bl b)
  | int {k : Nat} (i : Int) : Dn S k (.int i) (.int i)
  | str {k : Nat} (s : Txt) : txtOk s → Dn S k (.str s) (.str s)
  | tup {k : Nat} {xs : List PV} {ds : List Dt} : DnL S k xs ds → Dn S (k + 1) (.tup xs) (.tup ds)
  | lst {k n : Nat} {xs : List PV} {ds : List Dt} : getL S n = some xs → DnL S k xs ds → Dn S (k + 1) (.ref n) (.lst ds)
inductive DnL (S : Store) : Nat → List PV → List Dt → Prop
  | nil {k : Nat} : DnL S k [] []
  | cons {k : Nat} {x : PV} {xs : List PV} {d : Dt} {ds : List Dt} : Dn S k x d → DnL S k xs ds → DnL S k (x :: xs) (d :: ds)
end

/-! ### operators -/
def mulOk (i j : Int) : Prop := (-(2 ^ 64) < i ∧ i < 2 ^ 64) ∨ (-(2 ^ 64) < j ∧ j < 2 ^ 64) ∨ (i.natAbs < 2 ^ 1000 ∧ j.natAbs < 2 ^ 1000)
def binop : BOp → PV → PV → Store → PQ → Prop
  | .add, .int i, .int j, S, Q => Q (.int (i + j)) S
  | .add, .str s, .str t, S, Q => s.length + t.length ≤ big ∧ Q (.str (s ++ t)) S
  | .add, .tup a, .tup b, S, Q => a ≠ [] ∧ b ≠ [] ∧ a.length + b.length ≤ 100000 ∧ Q (.tup (a ++ b)) S
  | .add, .ref m, .ref n, S, Q => ∃ a b, S[m]? = some (.lst a) ∧ S[n]? = some (.lst b) ∧ a.length + b.length ≤ big ∧ Q (.ref S.length) (S ++ [.lst (a ++ b)])
  | .sub, .int i, .int j, S, Q => Q (.int (i - j)) S
  | .mul, .int i, .int j, S, Q => mulOk i j ∧ Q (.int (i * j)) S
  | .mul, .str s, .int k, S, Q => (1 ≤ s.length ∧ s.length ≤ 16) ∧ -1000 ≤ k ∧ k ≤ 1000 ∧ Q (.str (List.replicate k.toNat s).flatten) S
  | .mul, .tup a, .int k, S, Q => a ≠ [] ∧ 2 ≤ k ∧ k ≤ 1000 ∧ a.length ≤ 1000 ∧ Q (.tup (List.replicate k.toNat a).flatten) S
  | .mul, .ref n, .int k, S, Q => ∃ a, S[n]? = some (.lst a) ∧ 0 ≤ k ∧ k ≤ 1000 ∧ a.length * k.toNat ≤ big ∧ Q (.ref S.length) (S ++ [.lst (List.replicate k.toNat a).flatten])
  | .div, .int i, .int j, S, Q => 0 < j ∧ j < 1073741824 ∧ Q (.int (i / j)) S
  | .mod, .int i, .int j, S, Q => 0 < j ∧ Q (.int (i % j)) S
  | .pow, .int i, .int j, S, Q => 0 ≤ j ∧ j ≤ 1000 ∧ i.natAbs < 2 ^ 64 ∧ Q (.int (i ^ j.toNat)) S
  | _, _, _, _, _ => False
def lkp (kvs : List (Txt × PV)) (k : Txt) : Option PV := (kvs.find? fun kv => decide (kv.1 = k)).map (·.2)
/-- two data that can be ordered -/
def ordP (x y : PV) (S : Store) (K : Dt → Dt → Prop) : Prop := ∃ d e, Dn S 60 x d ∧ Dn S 60 y e ∧ PySem.W.alike (toD d) (toD e) = true ∧ d ≠ .non ∧ K d e
def cmpop : COp → PV → PV → Store → PQ → Prop
  | .eq, .int i, .int j, S, Q => Q (.bl (decide (i = j))) S
  | .eq, .str i, .str j, S, Q => Q (.bl (decide (i = j))) S
  | .eq, x, y, S, Q => ∃ d e, Dn S 60 x d ∧ Dn S 60 y e ∧ Q (.bl (d.eqv e)) S
  | .ne, .int i, .int j, S, Q => Q (.bl (!decide (i = j))) S
  | .ne, .str i, .str j, S, Q => Q (.bl (!decide (i = j))) S
  | .ne, x, y, S, Q => ∃ d e, Dn S 60 x d ∧ Dn S 60 y e ∧ Q (.bl (!d.eqv e)) S
  | .lt, .int i, .int j, S, Q => Q (.bl (decide (i < j))) S
  | .lt, .str i, .str j, S, Q => Q (.bl (decide (i < j))) S
  | .lt, .tup x, .tup y, S, Q => ordP (.tup x) (.tup y) S fun d e => Q (.bl (ltDt d e)) S
  | .le, .int i, .int j, S, Q => Q (.bl (decide (i ≤ j))) S
  | .le, .str i, .str j, S, Q => Q (.bl (!decide (j < i))) S
  | .le, .tup x, .tup y, S, Q => ordP (.tup x) (.tup y) S fun d e => Q (.bl (!ltDt e d)) S
  | .gt, .int i, .int j, S, Q => Q (.bl (decide (j < i))) S
  | .gt, .str i, .str j, S, Q => Q (.bl (decide (j < i))) S
  | .gt, .tup x, .tup y, S, Q => ordP (.tup x) (.tup y) S fun d e => Q (.bl (ltDt e d)) S
  | .ge, .int i, .int j, S, Q => Q (.bl (decide (j ≤ i))) S
  | .ge, .str i, .str j, S, Q => Q (.bl (!decide (i < j))) S
  | .ge, .tup x, .tup y, S, Q => ordP (.tup x) (.tup y) S fun d e => Q (.bl (!ltDt d e)) S
  | .is, .bl a, .bl b, S, Q => Q (.bl (decide (a = b))) S
  | .is, .non, .non, S, Q => Q (.bl true) S
  | .is, .bl _, .non, S, Q => Q (.bl false) S
  | .is, .int _, .non, S, Q => Q (.bl false) S
  | .is, .str _, .non, S, Q => Q (.bl false) S
  | .is, .tup _, .non, S, Q => Q (.bl false) S
  | .is, .ref _, .non, S, Q => Q (.bl false) S
  | .isn, .bl a, .bl b, S, Q => Q (.bl (!decide (a = b))) S
  | .isn, .non, .non, S, Q => Q (.bl false) S
  | .isn, .bl _, .non, S, Q => Q (.bl true) S
  | .isn, .int _, .non, S, Q => Q (.bl true) S
  | .isn, .str _, .non, S, Q => Q (.bl true) S
  | .isn, .tup _, .non, S, Q => Q (.bl true) S
  | .isn, .ref _, .non, S, Q => Q (.bl true) S
  | .isin, x, .tup xs, S, Q => flat x = true ∧ xs.all flat = true ∧ Q (.bl (inP x xs)) S
  | .isin, .str s, .str t, S, Q => ∃ c, s = [c] ∧ Q (.bl (decide (c ∈ t))) S
  | .isin, x, .ref n, S, Q => (∃ xs, getL S n = some xs ∧ flat x = true ∧ xs.all flat = true ∧ Q (.bl (inP x xs)) S) ∨
      (∃ k kvs, x = .str k ∧ getD S n = some kvs ∧ Q (.bl (lkp kvs k).isSome) S) ∨
      (∃ d ds, Dn S 60 x d ∧ Dn S 60 (.ref n) (.lst ds) ∧ Q (.bl (ds.any fun z => z.eqv d)) S)
  | .nin, x, .tup xs, S, Q => flat x = true ∧ xs.all flat = true ∧ Q (.bl (!inP x xs)) S
  | .nin, .str s, .str t, S, Q => ∃ c, s = [c] ∧ Q (.bl (!decide (c ∈ t))) S
  | .nin, x, .ref n, S, Q => (∃ xs, getL S n = some xs ∧ flat x = true ∧ xs.all flat = true ∧ Q (.bl (!inP x xs)) S) ∨
      (∃ k kvs, x = .str k ∧ getD S n = some kvs ∧ Q (.bl (!(lkp kvs k).isSome)) S) ∨
      (∃ d ds, Dn S 60 x d ∧ Dn S 60 (.ref n) (.lst ds) ∧ Q (.bl (!ds.any fun z => z.eqv d)) S)
  | _, _, _, _, _ => False
def negop : PV → Store → PQ → Prop
  | .int i, S, Q => Q (.int (-i)) S
  | _, _, _ => False
def subop : PV → PV → Store → PQ → Prop
  | .tup xs, .int i, S, Q => ∃ v, atP xs i = some v ∧ Q v S
  | .str s, .int i, S, Q => s.length ≤ big ∧ ∃ c, atP s i = some c ∧ Q (.str [c]) S
  | .ref n, .int i, S, Q => ∃ xs v, getL S n = some xs ∧ atP xs i = some v ∧ Q v S
  | .ref n, .str k, S, Q => ∃ kvs v, getD S n = some kvs ∧ lkp kvs k = some v ∧ Q v S
  | _, _, _, _ => False
def cutop : PV → Option Int → Option Int → Store → PQ → Prop
  | .str s, lo, hi, S, Q => s.length ≤ big ∧ Q (.str (cut s lo hi)) S
  | .tup xs, lo, hi, S, Q => Q (.tup (cut xs lo hi)) S
  | .ref n, lo, hi, S, Q => ∃ xs, getL S n = some xs ∧ Q (.ref S.length) (S ++ [.lst (cut xs lo hi)])
  | _, _, _, _, _ => False
def revop : PV → Store → PQ → Prop
  | .ref n, S, Q => ∃ xs, getL S n = some xs ∧ Q (.ref S.length) (S ++ [.lst xs.reverse])
  | .tup xs, S, Q => Q (.tup xs.reverse) S
  | _, _, _ => False
def known (v : PV) (S : Store) : Prop := match v with
  | .ref n => (∃ xs, getL S n = some xs) ∨ ∃ ks, getD S n = some ks
  | _ => True
def intsOf (xs : List PV) (ns : List Int) : Prop := xs = ns.map PV.int
def putD (kvs : List (Txt × PV)) (k : Txt) (v : PV) : List (Txt × PV) :=
  if (kvs.any fun pr => decide (pr.1 = k)) = true then kvs.map (fun pr => if pr.1 = k then (pr.1, v) else pr) else kvs ++ [(k, v)]
/-- at these places these lists -/
def lstsOf (S : Store) : List Nat → List (List PV) → Prop
  | [], [] => True
  | r :: rs, xs :: xss => S[r]? = some (.lst xs) ∧ lstsOf S rs xss
  | _, _ => False
/-- data that can be sorted -/
def sortOk (ds : List Dt) : Prop := (∀ x ∈ ds, ∀ y ∈ ds, PySem.W.alike (toD x) (toD y) = true) ∧ ((∀ x ∈ ds, ∃ y r, x = .tup (y :: r)) ∨ ∀ x ∈ ds, x ≠ .non ∧ ∀ l, x ≠ .tup l)
def leDt (p q : PV × Dt) : Bool := !ltDt q.2 p.2
def bltop : BI → List PV → Store → PQ → Prop
  | .len, [.str s], S, Q => s.length ≤ big ∧ Q (.int s.length) S
  | .len, [.tup xs], S, Q => Q (.int xs.length) S
  | .len, [.ref n], S, Q => (∃ xs, getL S n = some xs ∧ Q (.int xs.length) S) ∨ ∃ kvs, getD S n = some kvs ∧ Q (.int kvs.length) S
  | .str, [.int i], S, Q => 0 ≤ i ∧ i < 2 ^ 64 ∧ Q (.str (numT i.toNat)) S
  | .int, [.str s], S, Q => ∃ n, PySem.intText? (ofT s) = some n ∧ s.length ≤ 640 ∧ Q (.int n) S
  | .tuple, [.tup xs], S, Q => Q (.tup xs) S
  | .tuple, [.ref n], S, Q => ∃ xs, getL S n = some xs ∧ Q (.tup xs) S
  | .list, [.tup xs], S, Q => Q (.ref S.length) (S ++ [.lst xs])
  | .list, [.ref n], S, Q => ∃ xs, getL S n = some xs ∧ Q (.ref S.length) (S ++ [.lst xs])
  | .lrange, [.int k], S, Q => k ≤ 100000 ∧ Q (.ref S.length) (S ++ [.lst ((List.range k.toNat).map fun i => .int (i : Nat))])
  | .sum, [.ref n], S, Q => ∃ ns : List Int, getL S n = some (ns.map PV.int) ∧ Q (.int ns.sum) S
  | .all, [.ref n], S, Q => ∃ bs : List Bool, getL S n = some (bs.map PV.bl) ∧ Q (.bl (bs.all id)) S
  | .any, [.ref n], S, Q => ∃ bs : List Bool, getL S n = some (bs.map PV.bl) ∧ Q (.bl (bs.any id)) S
  | .min, [.ref n], S, Q => ∃ ns : List Int, getL S n = some (ns.map PV.int) ∧ 0 < ns.length ∧ ∀ m, m ∈ ns → (∀ y, y ∈ ns → m ≤ y) → Q (.int m) S
  | .minD, [.ref n], S, Q => ∃ xs d ds, getL S n = some xs ∧ DnL S 50 xs (d :: ds) ∧ alikeDt (d :: ds) ∧ ∀ (i : Nat) v, xs[i]? = some v → (d :: ds)[i]? = some (minDt d ds) → Q v S
  | .maxD, [.ref n], S, Q => ∃ xs d ds, getL S n = some xs ∧ DnL S 50 xs (d :: ds) ∧ alikeDt (d :: ds) ∧ ∀ (i : Nat) v, xs[i]? = some v → (d :: ds)[i]? = some (maxDt d ds) → Q v S
  | .sumL, [.ref n, .ref m], S, Q => ∃ (rs : List Nat) (xss : List (List PV)), getL S n = some (rs.map PV.ref) ∧ S[m]? = some (.lst []) ∧ lstsOf S rs xss ∧ xss.flatten.length ≤ big ∧
      (rs = [] → Q (.ref m) S) ∧ (rs ≠ [] → Q (.ref S.length) (S ++ [.lst xss.flatten]))
  | .sortD, [.ref n], S, Q => ∃ ps : List (PV × Dt), getL S n = some (ps.map (·.1)) ∧ DnL S 50 (ps.map (·.1)) (ps.map (·.2)) ∧ sortOk (ps.map (·.2)) ∧ ps.length ≤ big ∧ Q (.ref S.length) (S ++ [.lst ((ps.mergeSort leDt).map (·.1))])
  | .max, [.ref n], S, Q => ∃ ns : List Int, getL S n = some (ns.map PV.int) ∧ 0 < ns.length ∧ ∀ m, m ∈ ns → (∀ y, y ∈ ns → y ≤ m) → Q (.int m) S
  | .min2, [.int i, .int j], S, Q => Q (.int (if j < i then j else i)) S
  | .max2, [.int i, .int j], S, Q => Q (.int (if j > i then j else i)) S
  | .isInt, [v], S, Q => known v S ∧ Q (.bl (match v with | .int _ => true | .bl _ => true | _ => false)) S
  | .isBool, [v], S, Q => known v S ∧ Q (.bl (match v with | .bl _ => true | _ => false)) S
  | .isStr, [v], S, Q => known v S ∧ Q (.bl (match v with | .str _ => true | _ => false)) S
  | .dictP, [.ref n], S, Q => ∃ kvs : List (Txt × PV), getL S n = some (kvs.map fun q => .tup [.str q.1, q.2]) ∧ Q (.ref S.length) (S ++ [.dic (kvs.foldl (fun d q => putD d q.1 q.2) [])])
  | .isSeq, [.tup _], S, Q => Q (.bl true) S
  | .isSeq, [.ref n], S, Q => ∃ xs, getL S n = some xs ∧ Q (.bl true) S
  | .isSeq, [.non], S, Q => Q (.bl false) S
  | .isSeq, [.int _], S, Q => Q (.bl false) S
  | .isSeq, [.str _], S, Q => Q (.bl false) S
  | .isTup, [v], S, Q => known v S ∧ Q (.bl (match v with | .tup _ => true | _ => false)) S
  | _, _, _, _ => False
def alpha (s : Txt) : Bool := !s.isEmpty && s.all fun c => (65 ≤ c && c ≤ 90) || (97 ≤ c && c ≤ 122)
def joinT (a : Txt) : List Txt → Txt
  | [] => []
  | [x] => x
  | x :: y :: r => x ++ a ++ joinT a (y :: r)
def splitT (c : Nat) : Txt → List Txt
  | [] => [[]]
  | x :: r => if x = c then [] :: splitT c r else match splitT c r with
    | [] => [[x]]
    | y :: t => (x :: y) :: t
def partT (c : Nat) : Txt → Txt × Txt × Txt
  | [] => ([], [], [])
  | x :: r => if x = c then ([], [c], r) else (x :: (partT c r).1, (partT c r).2.1, (partT c r).2.2)
def ascii (s : Txt) : Prop := ∀ c ∈ s, c < 128
def methop : MI → PV → List PV → Store → PQ → Prop
  | .append, .ref n, [v], S, Q => ∃ xs, S[n]? = some (.lst xs) ∧ xs.length < big ∧ Q .non (S.set n (.lst (xs ++ [v])))
  | .extend, .ref n, [.ref m], S, Q => ∃ xs ys, S[n]? = some (.lst xs) ∧ S[m]? = some (.lst ys) ∧ xs.length + ys.length ≤ big ∧ Q .non (S.set n (.lst (xs ++ ys)))
  | .pop, .ref n, [], S, Q => ∃ xs v, S[n]? = some (.lst xs) ∧ xs[xs.length - 1]? = some v ∧ Q v (S.set n (.lst xs.dropLast))
  | .popAt, .ref n, [.int i], S, Q => ∃ xs k v, S[n]? = some (.lst xs) ∧ i = Int.ofNat k ∧ k < 2 ^ 60 ∧ xs[k]? = some v ∧ Q v (S.set n (.lst (xs.eraseIdx k)))
  | .index, .ref n, [y], S, Q => ∃ xs j z, getL S n = some xs ∧ flat y = true ∧ xs.all flat = true ∧ xs[j]? = some z ∧ eqP z y = true ∧
      (∀ (m : Nat) (z' : PV), m < j → xs[m]? = some z' → eqP z' y = false) ∧ Q (.int (j : Nat)) S
  | .sindex, .str a, [.str b], S, Q => a = [68, 77, 89, 74] ∧ ∃ (j c : Nat), a[j]? = some c ∧ b = [c] ∧ Q (.int (j : Nat)) S
  | .join, .str a, [.ref n], S, Q => ∃ ys : List Txt, getL S n = some (ys.map PV.str) ∧ (ys.map (·.length)).sum + ys.length * a.length ≤ big ∧ Q (.str (joinT a ys)) S
  | .isalpha, .str a, [], S, Q => ascii a ∧ Q (.bl (alpha a)) S
  | .get, .ref n, [.str k, x], S, Q => ∃ kvs, getD S n = some kvs ∧ Q ((lkp kvs k).getD x) S
  | .insert, .ref n, [.int i, v], S, Q => ∃ xs, S[n]? = some (.lst xs) ∧ i = 0 ∧ xs.length < big ∧ Q .non (S.set n (.lst (v :: xs)))
  | .startswith, .str a, [.str b], S, Q => Q (.bl (b.isPrefixOf a)) S
  | .split, .str a, [.str b], S, Q => ∃ c, b = [c] ∧ c < 256 ∧ a.length ≤ 100000 ∧ Q (.ref S.length) (S ++ [.lst ((splitT c a).map PV.str)])
  | .partition, .str a, [.str b], S, Q => ∃ c, b = [c] ∧ a.length ≤ 100000 ∧ Q (.tup [.str (partT c a).1, .str (partT c a).2.1, .str (partT c a).2.2]) S
  | .setdefault, .ref n, [.str k, x], S, Q => ∃ kvs, getD S n = some kvs ∧ kvs.length < big ∧
      ((∃ v, lkp kvs k = some v ∧ Q v S) ∨ (lkp kvs k = none ∧ Q x (S.set n (.dic (putD kvs k x)))))
  | _, _, _, _, _ => False
def mty : MI → PV → Store → Prop
  | .append, x, S | .extend, x, S | .pop, x, S | .popAt, x, S | .index, x, S | .insert, x, S | .lcount, x, S => ∃ n xs, x = .ref n ∧ getL S n = some xs
  | .get, x, S | .setdefault, x, S => ∃ n xs, x = .ref n ∧ getD S n = some xs
  | .join, x, _ | .isalpha, x, _ | .split, x, _ | .partition, x, _ | .startswith, x, _ | .sindex, x, _ => ∃ s, x = .str s
def setop : PV → PV → PV → Store → (Store → Prop) → Prop
  | .ref n, .int i, v, S, Q => ∃ xs j, S[n]? = some (.lst xs) ∧ idx xs.length i = some j ∧ Q (S.set n (.lst (xs.set j v)))
  | .ref n, .str k, v, S, Q => ∃ kvs, S[n]? = some (.dic kvs) ∧ kvs.length < big ∧ Q (S.set n (.dic (putD kvs k v)))
  | _, _, _, _, _ => False
def wipeP (ρ : Env) : List Nat → Env
  | [] => ρ
  | v :: vs => (wipeP ρ vs).set v none
def setAll : Env → List Nat → List PV → Option Env
  | ρ, [], [] => some ρ
  | ρ, i :: r, v :: vs => setAll (ρ.set i (some v)) r vs
  | _, _, _ => none
def setTg (ρ : Env) : Tg → PV → Option Env
  | .nm i, v => some (ρ.set i (some v))
  | .tp l, .tup vs => setAll ρ l vs
  | _, _ => none
def zipW : List PV → List PV → List PV
  | x :: xs, y :: ys => .tup [x, y] :: zipW xs ys
  | _, _ => []
def zip3W : List PV → List PV → List PV → List PV
  | x :: xs, y :: ys, z :: zs => .tup [x, y, z] :: zip3W xs ys zs
  | _, _, _ => []
def enumW : Nat → List PV → List PV
  | _, [] => []
  | i, x :: xs => .tup [.int (i : Nat), x] :: enumW (i + 1) xs
abbrev IQ := List PV → (Store → Prop) → Store → Prop
def itemsOf : ItK → List PV → Store → IQ → Prop
  | .seq, [.tup xs], S, Q => Q xs (fun _ => True) S
  | .seq, [.ref n], S, Q => ∃ xs, getL S n = some xs ∧ Q xs (fun S' => getL S' n = some xs) S
  | .seq, [.str s], S, Q => Q (s.map fun c => .str [c]) (fun _ => True) S
  | .rng1, [.int j], S, Q => j < 2 ^ 60 ∧ -(2 ^ 60) < j ∧ Q ((List.range j.toNat).map fun i => .int (i : Nat)) (fun _ => True) S
  | .rng2, [.int i, .int j], S, Q => (j < 2 ^ 60 ∧ -(2 ^ 60) < j ∧ i < 2 ^ 60 ∧ -(2 ^ 60) < i) ∧ Q ((List.range (j - i).toNat).map fun k => .int (i + (k : Nat))) (fun _ => True) S
  | .rng3, [.int i, .int j, .int c], S, Q => (i = 0 ∧ (j = 21 ∨ j = 36) ∧ c = 3) ∧ Q ((List.range (j.toNat / 3)).map fun k => .int (0 + (k : Nat) * 3)) (fun _ => True) S
  | .enm, [.ref n], S, Q => ∃ xs, getL S n = some xs ∧ Q (enumW 0 xs) (fun S' => getL S' n = some xs) S
  | .enm, [.tup xs], S, Q => Q (enumW 0 xs) (fun _ => True) S
  | .zip3, [.ref m, .ref n, .ref k], S, Q => ∃ xs ys zs, getL S m = some xs ∧ getL S n = some ys ∧ getL S k = some zs ∧ Q (zip3W xs ys zs) (fun S' => getL S' m = some xs ∧ getL S' n = some ys ∧ getL S' k = some zs) S
  | .vals, [.ref n], S, Q => ∃ kvs, S[n]? = some (.dic kvs) ∧ Q (kvs.map (·.2)) (fun _ => True) (S.set n (.ldc kvs))
  | .keys, [.ref n], S, Q => ∃ kvs, S[n]? = some (.dic kvs) ∧ Q (kvs.map fun q => .str q.1) (fun _ => True) (S.set n (.ldc kvs))
  | .zip2, [.tup xs, .tup ys], S, Q => Q (zipW xs ys) (fun _ => True) S
  | .zip2, [.ref m, .ref n], S, Q => ∃ xs ys, getL S m = some xs ∧ getL S n = some ys ∧ Q (zipW xs ys) (fun S' => getL S' m = some xs ∧ getL S' n = some ys) S
  | _, _, _, _ => False

/-- what an except suite gives back: of which kind, for which class -/
def raisedT : Txt := [114, 97, 105, 115, 101, 100]
def hndl (k c : Nat) (S : Store) (rt : PQ) : Prop := match k with
  | 0 => rt (.tup [.str raisedT, .int (c : Nat)]) S
  | 1 => c = 5 ∧ rt .non S
  | 2 => rt (.ref S.length) (S ++ [.lst [.tup [.str raisedT, .int (c : Nat)]]])
  | 3 => c = 6 ∧ rt (.bl true) S
  | _ => False
def putFd (f : Nat) (v : PV) : List (Nat × PV) → List (Nat × PV)
  | [] => [(f, v)]
  | (g, x) :: r => if g = f then (g, v) :: r else (g, x) :: putFd f v r
/-! ### weakest preconditions -/
structure Sig where
  ct : Nat → Ct
  gl : Nat → Option PV
def tst (Q : Bool → Store → Prop) : PQ := fun v S => match v with
  | .bl b => Q b S
  | _ => False
def opt (Q : Option Int → Store → Prop) : PQ := fun v S => match v with
  | .int i => Q (some i) S
  | _ => False
def isNil : IE → Bool
  | .nil => true
  | _ => false
mutual
def wpE (Γ : Sig) : IE → Env → Store → PQ → PR → Prop
  | .var i, ρ, S, Q, _ => ∃ v, getv ρ i = some v ∧ Q v S
  | .glb k, _, S, Q, _ => ∃ v, Γ.gl k = some v ∧ Q v S
  | .int i, _, S, Q, _ => Q (.int i) S
  | .str s, _, S, Q, _ => Q (.str s) S
  | .bl b, _, S, Q, _ => Q (.bl b) S
  | .non, _, S, Q, _ => Q .non S
  | .bin op a b, ρ, S, Q, R => wpE Γ a ρ S (fun x S1 => wpE Γ b ρ S1 (fun y S2 => binop op x y S2 Q) R) R
  | .cmp op a b, ρ, S, Q, R => wpE Γ a ρ S (fun x S1 => wpE Γ b ρ S1 (fun y S2 => cmpop op x y S2 Q) R) R
  | .chain o1 o2 a b c, ρ, S, Q, R => wpE Γ a ρ S (fun x S1 => wpE Γ b ρ S1 (fun y S2 => cmpop o1 x y S2 (tst fun k S3 =>
      if k = true then wpE Γ c ρ S3 (fun z S4 => cmpop o2 y z S4 Q) R else Q (.bl false) S3)) R) R
  | .neg a, ρ, S, Q, R => wpE Γ a ρ S (fun x S1 => negop x S1 Q) R
  | .and a b, ρ, S, Q, R => wpE Γ a ρ S (tst fun k S1 => if k = true then wpE Γ b ρ S1 Q R else Q (.bl false) S1) R
  | .or a b, ρ, S, Q, R => wpE Γ a ρ S (tst fun k S1 => if k = true then Q (.bl true) S1 else wpE Γ b ρ S1 Q R) R
  | .not a, ρ, S, Q, R => wpE Γ a ρ S (tst fun k S1 => Q (.bl (!k)) S1) R
  | .ite c a b, ρ, S, Q, R => wpE Γ c ρ S (tst fun k S1 => if k = true then wpE Γ a ρ S1 Q R else wpE Γ b ρ S1 Q R) R
  | .tup a, ρ, S, Q, R => wpA Γ a ρ S (fun vs S1 => Q (.tup vs) S1) R
  | .lst a, ρ, S, Q, R => wpA Γ a ρ S (fun vs S1 => Q (.ref S1.length) (S1 ++ [.lst vs])) R
  | .dic0, _, S, Q, _ => Q (.ref S.length) (S ++ [.dic []])
  | .sub a i, ρ, S, Q, R => wpE Γ a ρ S (fun x S1 => wpE Γ i ρ S1 (fun y S2 => subop x y S2 Q) R) R
  | .slice a lo hi, ρ, S, Q, R => wpE Γ a ρ S (fun x S1 =>
      let K2 := fun (l : Option Int) (S2 : Store) => (let K3 := fun (h : Option Int) (S3 : Store) => cutop x l h S3 Q
        if isNil hi = true then K3 none S2 else wpE Γ hi ρ S2 (opt K3) R)
      if isNil lo = true then K2 none S1 else wpE Γ lo ρ S1 (opt K2) R) R
  | .rev a, ρ, S, Q, R => wpE Γ a ρ S (fun x S1 => revop x S1 Q) R
  | .call f a, ρ, S, Q, R => wpA Γ a ρ S (fun vs S1 => Γ.ct f vs S1 Q R) R
  | .blt b a, ρ, S, Q, R => wpA Γ a ρ S (fun vs S1 => bltop b vs S1 Q) R
  | .meth m o a, ρ, S, Q, R => wpE Γ o ρ S (fun x S1 => mty m x S1 ∧ wpA Γ a ρ S1 (fun vs S2 => methop m x vs S2 Q) R) R
  | .comp t k its own c e, ρ, S, Q, R => wpA Γ its ρ S (fun vs S1 => itemsOf k vs S1 fun items keep S2 =>
      ∃ I : Nat → List PV → Store → Prop, I 0 [] (S2 ++ [.lst []]) ∧ (∀ i acc S', I i acc S' → S'[S2.length]? = some (.lst acc) ∧ keep S') ∧
        (∀ i x acc S', items[i]? = some x → I i acc S' → ∃ ρ2, setTg (wipeP ρ own) t x = some ρ2 ∧
          let K3 := fun (b : Bool) (S3 : Store) => if b = true then
              wpE Γ e ρ2 S3 (fun v S4 => S4[S2.length]? = some (.lst acc) ∧ acc.length < big ∧ I (i + 1) (acc ++ [v]) (S4.set S2.length (.lst (acc ++ [v])))) (fun _ _ => False)
            else I (i + 1) acc S3
          if isNil c = true then K3 true S' else wpE Γ c ρ2 S' (tst K3) (fun _ _ => False)) ∧
        (∀ acc S', I items.length acc S' → Q (.ref S2.length) S')) R
  | .nil, _, _, _, _ => False
  | .cons _ _, _, _, _, _ => False
  | .fld o f, ρ, S, Q, R => wpE Γ o ρ S (fun x S1 => ∃ n fs v, x = .ref n ∧ S1[n]? = some (.ins 0 fs) ∧ fs.lookup f = some v ∧ Q v S1) R
  | .newc f a, ρ, S, Q, R => wpA Γ a ρ S (fun vs S1 => Γ.ct f (.ref S1.length :: vs) (S1 ++ [.ins 0 []]) (fun v S2 => v = .non ∧ Q (.ref S1.length) S2) R) R
  | .mcl f o a, ρ, S, Q, R => wpE Γ o ρ S (fun x S1 => (∃ n fs, x = .ref n ∧ S1[n]? = some (.ins 0 fs)) ∧ wpA Γ a ρ S1 (fun vs S2 => Γ.ct f (x :: vs) S2 Q R) R) R
  | .lenc f o, ρ, S, Q, R => wpE Γ o ρ S (fun x S1 => (∃ n fs, x = .ref n ∧ S1[n]? = some (.ins 0 fs)) ∧ Γ.ct f [x] S1 (fun v S2 => ∃ k : Nat, v = .int (k : Nat) ∧ k < 2 ^ 60 ∧ Q v S2) (fun _ _ => False)) R
  | .orv a b, ρ, S, Q, R => wpE Γ a ρ S (fun x S1 => (x = .non ∧ wpE Γ b ρ S1 Q R) ∨ ∃ n xs, x = .ref n ∧ getL S1 n = some xs ∧ if xs.isEmpty = true then wpE Γ b ρ S1 Q R else Q x S1) R
  | .selc fs i a, ρ, S, Q, R => wpE Γ i ρ S (fun y S1 => ∃ (k f : Nat), y = .int (k : Nat) ∧ fs[k]? = some f ∧ wpA Γ a ρ S1 (fun vs S2 => Γ.ct f vs S2 Q R) R) R
  | .glbsub _ i, ρ, S, Q, R => wpE Γ i ρ S (fun y S1 => ∃ t n, y = .str t ∧ lngT.lookup t = some n ∧ Q (.int n) S1) R
  | .lrg a, ρ, S, Q, R => wpE Γ a ρ S (fun x S1 => ∃ k : Int, x = .int k ∧ -100000 ≤ k ∧ k ≤ 100000 ∧ Q (.ref S1.length) (S1 ++ [.lst ((List.range k.toNat).map fun i => .int (i : Nat))])) R
def wpA (Γ : Sig) : IE → Env → Store → (List PV → Store → Prop) → PR → Prop
  | .nil, _, S, Q, _ => Q [] S
  | .cons a b, ρ, S, Q, R => wpE Γ a ρ S (fun v S1 => wpA Γ b ρ S1 (fun vs S2 => Q (v :: vs) S2) R) R
  | _, _, _, _, _ => False
end
structure PEnds where
  nx : Env → Store → Prop
  rt : PQ
  bk : Env → Store → Prop
  ct : Env → Store → Prop
  rs : PR
def wpS (Γ : Sig) : IS → Env → Store → PEnds → Prop
  | .pass, ρ, S, D => D.nx ρ S
  | .seq a b, ρ, S, D => wpS Γ a ρ S { D with nx := fun ρ' S' => wpS Γ b ρ' S' D }
  | .asg t e, ρ, S, D => wpE Γ e ρ S (fun v S1 => ∃ ρ2, setTg ρ t v = some ρ2 ∧ D.nx ρ2 S1) D.rs
  | .par l e, ρ, S, D => wpA Γ e ρ S (fun vs S1 => ∃ ρ2, setAll ρ l vs = some ρ2 ∧ D.nx ρ2 S1) D.rs
  | .aug i e, ρ, S, D => ∃ a, getv ρ i = some (.int a) ∧ wpE Γ e ρ S (fun y S1 => ∃ b, y = .int b ∧ D.nx (ρ.set i (some (.int (a + b)))) S1) D.rs
  | .setsub o i e, ρ, S, D => wpE Γ e ρ S (fun v S1 => wpE Γ o ρ S1 (fun x S2 => wpE Γ i ρ S2 (fun y S3 => setop x y v S3 fun S4 => D.nx ρ S4) D.rs) D.rs) D.rs
  | .augsub o i e, ρ, S, D => wpE Γ o ρ S (fun x S1 => wpE Γ i ρ S1 (fun y S2 => ∃ n k xs a, x = .ref n ∧ y = .int (Int.ofNat k) ∧ S2[n]? = some (.lst xs) ∧ xs[k]? = some (.int a) ∧ k < 2 ^ 60 ∧
      wpE Γ e ρ S2 (fun v S4 => ∃ b ys, v = .int b ∧ S4[n]? = some (.lst ys) ∧ k < ys.length ∧ D.nx ρ (S4.set n (.lst (ys.set k (.int (a + b)))))) D.rs) D.rs) D.rs
  | .ex e, ρ, S, D => wpE Γ e ρ S (fun _ S1 => D.nx ρ S1) D.rs
  | .ret e, ρ, S, D => wpE Γ e ρ S D.rt D.rs
  | .retn, _, S, D => D.rt .non S
  | .ite c a b, ρ, S, D => wpE Γ c ρ S (tst fun k S1 => if k = true then wpS Γ a ρ S1 D else wpS Γ b ρ S1 D) D.rs
  | .whl c b, ρ, S, D => ∃ I : Nat → Env → Store → Prop, (∃ m, I m ρ S) ∧ ∀ m ρ' S', I m ρ' S' → wpE Γ c ρ' S' (tst fun k S1 =>
      if k = true then wpS Γ b ρ' S1 { D with nx := fun ρ2 S2 => ∃ m', m' < m ∧ I m' ρ2 S2, ct := fun ρ2 S2 => ∃ m', m' < m ∧ I m' ρ2 S2, bk := D.nx } else D.nx ρ' S1) D.rs
  | .frl t k its b, ρ, S, D => wpA Γ its ρ S (fun vs S1 => itemsOf k vs S1 fun items keep S2 =>
      ∃ I : Nat → Env → Store → Prop, I 0 ρ S2 ∧ (∀ i ρ' S', I i ρ' S' → keep S') ∧
        (∀ i x ρ' S', items[i]? = some x → I i ρ' S' → ∃ ρ2, setTg ρ' t x = some ρ2 ∧ wpS Γ b ρ2 S' { D with nx := I (i + 1), ct := I (i + 1), bk := D.nx }) ∧
        (∀ ρ' S', I items.length ρ' S' → D.nx ρ' S')) D.rs
  | .brk, ρ, S, D => D.bk ρ S
  | .cnt, ρ, S, D => D.ct ρ S
  | .rse c, _, S, D => D.rs c S
  | .setfld o f e, ρ, S, D => wpE Γ e ρ S (fun v S1 => wpE Γ o ρ S1 (fun x S2 => ∃ n fs, x = .ref n ∧ S2[n]? = some (.ins 0 fs) ∧ fs.length < 100 ∧ D.nx ρ (S2.set n (.ins 0 (putFd f v fs)))) D.rs) D.rs
  | .tri b k, ρ, S, D => wpS Γ b ρ S { D with rs := fun c S' => c < 7 ∧ hndl k c S' D.rt }
  | .nev, _, _, _ => False
/-- the law's own contract -/
def ctLaw (n : Nat) : Ct := fun vs S Q _ => ∃ ns : List Int, vs = [.ref 0] ∧ S = [.scr (ns.map PV.int)] ∧ ns.length ≤ n ∧ ∀ S', Q (.bl true) S'
def start (n : Nat) (vs : List PV) : Env := vs.map some ++ List.replicate (n - vs.length) none
def wpB (Γ : Sig) (n : Nat) (b : IS) (vs : List PV) (S : Store) (Q : PQ) (R : PR) : Prop :=
  wpS Γ b (start n vs) S ⟨fun _ S' => Q .non S', Q, fun _ _ => False, fun _ _ => False, R⟩
end PyI
set_option autoImplicit false
set_option linter.all false
set_option Elab.async false
set_option maxRecDepth 100000
set_option maxHeartbeats 4000000
namespace PyI
open PySem PySem.Spec PyProof.Rows L2
/-! ### enumerate of a tuple -/
theorem meets_enumT {v : Value} {o : Obj} {H : Heap → Prop} (B : Begins v o H) :
    Meets (Builtin.«enumerate.__new__» ⟨[.type "enumerate", v], []⟩) (fun _ R s => H s.heap ∧
      R (.ok (.ret (.ref (s.heap.push o).objs.size))) { s with heap := (s.heap.push o).push { cls := .type "enumerate", data := .fields #[.none, .bool false, .ref s.heap.objs.size, rawInt 0, .none, .none] } }) :=
  .of_wp fun prog w A R s h => by
    obtain ⟨hp, g, d, tk, os⟩ := s
    obtain ⟨h1, h⟩ := h
    have hsub := sub_enumerate
    have q1 : ∀ {A' : Around} {E : Value → Shared → Prop} {Q : Value → Shared → Prop}, Q (.ref hp.objs.size) ⟨hp.push o, g, d, tk, os⟩ → wpAny (model prog w) A' (pyIter v) Q E ⟨hp, g, d, tk, os⟩ :=
      fun q => B.iter prog w _ _ ⟨hp, g, d, tk, os⟩ _ h1 q
    wp_walk using q1
    refine wpAny_stack_any fun st => wpAny_pure ?_
    split
    · rename_i c _ _ _ _ _
      cases (c == Value.type "enumerate")
      · wp_walk using q1
        exact ⟨_, rfl, h⟩
      · wp_walk using q1
        exact ⟨_, rfl, h⟩
    · wp_walk using q1
      exact ⟨_, rfl, h⟩
theorem call_enumT {prog : Program} {w : World} {A : Around} {E : Value → Shared → Prop} {s : Shared} {v : Value} {o : Obj} {H : Heap → Prop} {Q : Value → Shared → Prop} (B : Begins v o H) (h1 : H s.heap)
    (h : ∀ h', IsEnum h' (s.heap.objs.size + 1) s.heap.objs.size 0 .none → h'.get? s.heap.objs.size = some o → h'.objs.size = s.heap.objs.size + 2 →
      (∀ b o, s.heap.get? b = some o → h'.get? b = some o) → Q (.ref (s.heap.objs.size + 1)) { s with heap := h' }) :
    wpAny (model prog w) A (call (.type "enumerate") [v]) Q E s := by
  refine callType_new PySem.F.called_enumerate (by decide) (PySem.F.typeCall_enumerate_1 _) (PySem.F.newCall_enumerate_1 _) (fun obj => PySem.F.args_object_init_2 obj _) PySem.F.entry_enumerate_new
    (meets_enumT B) ⟨h1, ?_⟩
  have hz : (s.heap.push o).objs.size = s.heap.objs.size + 1 := Heap.size_push ..
  show _ ∧ _
  rw [hz]
  have he : IsEnum ((s.heap.push o).push { cls := .type "enumerate", data := .fields #[.none, .bool false, .ref s.heap.objs.size, rawInt 0, .none, .none] }) (s.heap.objs.size + 1) s.heap.objs.size 0 .none := by
    have := Heap.get?_push_size (s.heap.push o) (o := { cls := .type "enumerate", data := .fields #[.none, .bool false, .ref s.heap.objs.size, rawInt 0, .none, .none] }) rfl
    rw [hz] at this; exact this
  exact ⟨⟨_, he, rfl⟩, h _ he (Heap.get?_push_of_some _ (Heap.get?_push_size _ B.free)) (by rw [Heap.size_push, hz]) fun b o x => Heap.get?_push_of_some _ (Heap.get?_push_of_some _ x)⟩
def IteT (K : PySem.W.Frag) (a : Addr) (n : Nat) : It :=
  ⟨fun i H => ∃ (xs : List V) (x : V), SqT K H a xs ∧ xs.length = n ∧ xs[i]? = some x, fun i H v H' => ∃ T x, v = .ref T ∧ H T = none ∧ H' = upd H T (.tup [.int (i : Nat), x]) ∧ ∀ xs, SqT K H a xs → xs[i]? = some x, fun i H => ∃ xs : List V, SqT K H a xs ∧ xs.length = n ∧ n ≤ i⟩
theorem cls_ne {h : Heap} {a b : Addr} {o p : Obj} (ha : h.get? a = some o) (hb : h.get? b = some p) (hc : o.cls ≠ p.cls) : a ≠ b := fun e => by
  subst e
  rw [ha] at hb
  cases hb
  exact hc rfl
theorem turn_enumT {P : Program} {w : World} {K : PySem.W.Frag} {elts : List Expr} {kk : Nat} {tpos : Pos} (a e it : Addr) (n : Nat) :
    Turn P w K (.Tuple elts kk tpos) (IteT K a n) [e, it] e (fun i h => (∃ old, IsEnum h e it (0 + ((i : Nat) : Int)) old) ∧ h.IsTupleIter it a i ∧ e ≠ it ∧ i ≤ n) where
  mem := by simp
  obj := fun i h st b hb => by
    obtain ⟨⟨old, he⟩, ⟨o, ho, hc, hd⟩, _⟩ := st
    have e' : b = e ∨ b = it := by simpa using hb
    rcases e' with z | z
    · rw [z]; exact ⟨_, he, fun v q => nomatch q⟩
    · rw [z]; exact ⟨o, ho, fun v q => by rw [hd] at q; cases q⟩
  keep := fun i h h' st k => let ⟨⟨old, he⟩, hi, hne, hn⟩ := st; ⟨⟨old, k e (by simp) _ he⟩, hi.at fun o q => k it (by simp) o q, hne, hn⟩
  item := by
    intro X hP hw hK hc i pins s σ H E I hf st hg
    subst hP hw hK
    obtain ⟨⟨old, he⟩, hit, hne, hin⟩ := st
    obtain ⟨xs, x, hq, hxl, hx⟩ := hg
    obtain ⟨its, rv, p, hz⟩ := I.tuple hq
    obtain ⟨u, hu, ru⟩ := rv.get hx
    have hp : s.heap.IsTuple a its.toArray := p
    obtain ⟨oa, hoa, hca, _⟩ := id hp
    obtain ⟨oi, hoi, hci, _⟩ := id hit
    have hai : a ≠ it := cls_ne hoa hoi (by rw [hca, hci]; decide)
    have hea : e ≠ a := cls_ne he hoa (by rw [hca]; show (Value.type "enumerate") ≠ .type "tuple"; decide)
    have hel : e < s.heap.objs.size := Heap.lt_size he
    have hil : it < s.heap.objs.size := Heap.lt_size hoi
    have hi : i < its.toArray.size := by
      have := (List.getElem?_eq_some_iff.mp hu).1
      simpa using this
    have W := GoesN.enumFrom (prog := X.prog) (w := X.w) (A := X.A) (elts := elts) (x1 := kk) (pos := tpos) 0 (Draws.tuple (prog := X.prog) (w := X.w) (A := X.A.in1) (I.ok.hd hc) it a hai its.toArray) e hne (by simp [hne, hea]) (by simp)
    refine W.goes i s (fun u s2 => ∃ x H', Inv X pins σ H' s2 ∧ RelV x u ∧ (IteT X.K a n).yld i H x H' ∧ ((∃ old, IsEnum s2.heap e it (0 + (((i + 1 : Nat) : Nat) : Int)) old) ∧ s2.heap.IsTupleIter it a (i + 1) ∧ e ≠ it ∧ i + 1 ≤ n) ∧ ∀ b ∈ [e, it], H' b = none) E hi ⟨⟨old, he⟩, hit, hp⟩ fun v h' tk hY st' hk htk => ?_
    obtain ⟨T, t, x', rfl, hT, hx', hTt⟩ := hY
    have ex : x' = u := by
      have : its.toArray[i]? = some u := by simpa using hu
      rw [this] at hx'
      exact (Option.some.inj hx').symm
    subst ex
    have new : ObjOk X.prog X.w (upd H T (.tup [.int (i : Nat), x])) h' T (.tup [.int (i : Nat), x]) :=
      ⟨by show 2 ≤ sizeLine; decide, [.int (0 + (i : Int)) t, x'], .cons ⟨t, by rw [Int.zero_add]⟩ (.cons ru .nil), hTt⟩
    have I1 := I.turnedNew (t' := tk) (ch := [e, it]) hk hf hT new
    obtain ⟨he', hit', _⟩ := st'
    refine ⟨.ref T, _, I1, rfl, ⟨T, x, rfl, I.hok.fresh hT, rfl, fun ys hy => by rw [I.tuple_inj hy hq]; exact hx⟩, ⟨he', hit', hne, ?_⟩, fun b hb => ?_⟩
    · have := (List.getElem?_eq_some_iff.mp hx).1
      omega
    · have hb' : b < s.heap.objs.size := by
        have e' : b = e ∨ b = it := by simpa using hb
        rcases e' with z | z
        · rw [z]; exact hel
        · rw [z]; exact hil
      rw [upd_ne (Nat.ne_of_lt (Nat.lt_of_lt_of_le hb' hT))]
      exact (hf b hb).1
  done := by
    intro X hP hw hK hc i pins s σ H E I hf st hg
    subst hP hw hK
    obtain ⟨⟨old, he⟩, hit, hne, hin⟩ := st
    obtain ⟨xs, hq, hxl, hx⟩ := hg
    obtain ⟨its, rv, p, hz⟩ := I.tuple hq
    have hp : s.heap.IsTuple a its.toArray := p
    obtain ⟨oa, hoa, hca, _⟩ := id hp
    obtain ⟨oi, hoi, hci, _⟩ := id hit
    have hai : a ≠ it := cls_ne hoa hoi (by rw [hca, hci]; decide)
    have hea : e ≠ a := cls_ne he hoa (by rw [hca]; show (Value.type "enumerate") ≠ .type "tuple"; decide)
    have W := GoesN.enumFrom (prog := X.prog) (w := X.w) (A := X.A) (elts := elts) (x1 := kk) (pos := tpos) 0 (Draws.tuple (prog := X.prog) (w := X.w) (A := X.A.in1) (I.ok.hd hc) it a hai its.toArray) e hne (by simp [hne, hea]) (by simp)
    have hl := rv.length
    have hi : i = its.toArray.size := by simp; omega
    subst hi
    exact W.stops s (fun s1 => Inv X pins σ H s1) E ⟨⟨old, he⟩, hit, hp⟩ fun h' tk hk htk => I.turnedL (t' := tk) (ch := [e, it]) hk hf
  self := fun A i s Q E st h => let ⟨⟨_, he⟩, _⟩ := st; wpAny_pyIter_enum he h
def iEnumA (K : PySem.W.Frag) (ta : TA) : TI := fun σ H R => ta σ H fun vs H1 => ∃ a xs, vs = [.ref a] ∧ ((SqL K H1 a xs ∧ R (Ite K a) H1) ∨ (SqT K H1 a xs ∧ R (IteT K a xs.length) H1))
theorem pi_enumA {X : Cx} {e : Expr} {ta : TA} {p pos tpos : Pos} {elts : List Expr} {kk : Nat} (hg : Gl X "enumerate") (hm : X.mg "enumerate" = none) (ha : PA X [e] ta) (hs : starEach [e] X.env = [(false, eval e X.env)]) :
    PI X (.Tuple elts kk tpos) (.Call (.Name "enumerate" p) [e] [] pos) (iEnumA X.K ta) := by
  constructor
  intro pins s σ H R I h
  refine Call_ (ld_blt I hg hm boot_enumerate (PyProof.Rows.callWith_type1 (thn (ha.run pos pins s σ H _ I h) fun us s1 ⟨vs, H1, I1, r1, q1⟩ => ?_) hs rfl))
  obtain ⟨a, xs, ex, q⟩ := q1
  subst ex
  cases r1 with
  | cons r rr =>
    cases rr
    cases r
    have two : ∀ b, b ∈ [s1.heap.objs.size + 1, s1.heap.objs.size] → s1.heap.objs.size ≤ b := fun b hb => by
      have e' : b = s1.heap.objs.size + 1 ∨ b = s1.heap.objs.size := by simpa using hb
      rcases e' with z | z
      · rw [z]; exact Nat.le_add_right _ _
      · rw [z]; exact Nat.le.refl
    rcases q with ⟨hq, q⟩ | ⟨hq, q⟩
    · obtain ⟨its, rv, p', hz⟩ := I1.list hq
      refine call_enumerate_list p'.isList fun h' he hit hsz hk => wpAny_pyIter_enum he ?_
      have I2 : Inv X pins σ H1 { s1 with heap := h' } := I1.kept (t' := s1.toks) hk
      exact ⟨s1.heap.objs.size + 1, _, _, _, H1, rfl, I2, turn_enum a (s1.heap.objs.size + 1) s1.heap.objs.size, ⟨⟨.none, he⟩, hit, Nat.succ_ne_self _⟩, fun b hb => I1.fpOk (two b hb) (I1.hok.fresh (two b hb)), q⟩
    · obtain ⟨its, rv, p', hz⟩ := I1.tuple hq
      refine call_enumT (begins_tuple a its.toArray) p' fun h' he hit hsz hk => wpAny_pyIter_enum he ?_
      have I2 : Inv X pins σ H1 { s1 with heap := h' } := I1.kept (t' := s1.toks) hk
      exact ⟨s1.heap.objs.size + 1, _, _, _, H1, rfl, I2, turn_enumT a (s1.heap.objs.size + 1) s1.heap.objs.size xs.length, ⟨⟨.none, he⟩, ⟨_, hit, rfl, rfl⟩, Nat.succ_ne_self _, Nat.zero_le _⟩, fun b hb => I1.fpOk (two b hb) (I1.hok.fresh (two b hb)), q⟩
/-! ### zip of three lists -/
def Itz3 (K : PySem.W.Frag) (a b c : Addr) (n : Nat) : It :=
  ⟨fun i H => ∃ (xs ys zs : List V) (x y z : V), SqL K H a xs ∧ SqL K H b ys ∧ SqL K H c zs ∧ min (min xs.length ys.length) zs.length = n ∧ xs[i]? = some x ∧ ys[i]? = some y ∧ zs[i]? = some z,
    fun i H v H' => ∃ T x y z, v = .ref T ∧ H T = none ∧ H' = upd H T (.tup [x, y, z]) ∧ (∀ xs, SqL K H a xs → xs[i]? = some x) ∧ (∀ ys, SqL K H b ys → ys[i]? = some y) ∧ ∀ zs, SqL K H c zs → zs[i]? = some z,
    fun i H => ∃ xs ys zs : List V, SqL K H a xs ∧ SqL K H b ys ∧ SqL K H c zs ∧ min (min xs.length ys.length) zs.length = n ∧ n ≤ i⟩
/-- where the cells of the zip lie -/
structure Z3 (N : Nat) (a b c : Addr) : Prop where
  la : Nat.lt a N
  lb : Nat.lt b N
  lc : Nat.lt c N
theorem z3_ne {N : Nat} {a b c : Addr} (Z : Z3 N a b c) (d : Addr) (h : d = a ∨ d = b ∨ d = c) (k : Nat) : (N + k : Nat) ≠ d := by
  intro e
  have la := Nat.lt_of_lt_of_le Z.la (Nat.le_add_right N k)
  have lb := Nat.lt_of_lt_of_le Z.lb (Nat.le_add_right N k)
  have lc := Nat.lt_of_lt_of_le Z.lc (Nat.le_add_right N k)
  rcases h with h | h | h
  · rw [e, h] at la; exact Nat.lt_irrefl _ la
  · rw [e, h] at lb; exact Nat.lt_irrefl _ lb
  · rw [e, h] at lc; exact Nat.lt_irrefl _ lc
theorem z3_nn {N j k : Nat} (h : j ≠ k) : (N + j : Nat) ≠ N + k := fun e => h (Nat.add_left_cancel e)
theorem z3_n0 {N k : Nat} (h : k ≠ 0) : (N : Nat) ≠ N + k := fun e => h (by omega)
def z3tn (N : Nat) (a b c : Addr) (n : Nat) (i : Nat) (h : Heap) : Prop :=
  IsZip h (N + 5) (N + 3) (N + 4) .none ∧ IsTupOf3 h (N + 3) (.ref N) (.ref (N + 1)) (.ref (N + 2)) ∧ (∃ x y z, IsTupOf3 h (N + 4) x y z) ∧ h.IsListIter N a i ∧ h.IsListIter (N + 1) b i ∧ h.IsListIter (N + 2) c i ∧ i ≤ n
theorem z3_not {N : Nat} {a b c : Addr} (Z : Z3 N a b c) {x y d : Addr} (h1 : x ≠ y) (h2 : x ≠ d) : x ∉ [y, d] := fun hm => by
  rcases List.mem_cons.mp hm with h | h
  · exact h1 h
  · rcases List.mem_cons.mp h with h | h
    · exact h2 h
    · cases h
theorem z3_sep {N : Nat} {a b c : Addr} (Z : Z3 N a b c) : ZipSep3 (N + 5) (N + 3) (N + 4) N (N + 1) (N + 2) [N, a] [N + 1, b] [N + 2, c] :=
  have A := fun k => z3_ne Z a (.inl rfl) k
  have B := fun k => z3_ne Z b (.inr (.inl rfl)) k
  have C := fun k => z3_ne Z c (.inr (.inr rfl)) k
  ⟨z3_nn (by decide), z3_nn (by decide), z3_nn (by decide), (z3_n0 (by decide)).symm, by simp, z3_not Z (z3_n0 (by decide)).symm (A 5), z3_not Z (z3_n0 (by decide)).symm (A 4),
    z3_nn (by decide), by simp, z3_not Z (z3_nn (by decide)) (B 5), z3_not Z (z3_nn (by decide)) (B 4),
    z3_nn (by decide), by simp, z3_not Z (z3_nn (by decide)) (C 5), z3_not Z (z3_nn (by decide)) (C 4),
    z3_not Z (z3_n0 (by decide)) (B 0), z3_not Z (z3_n0 (by decide)) (C 0), z3_not Z (z3_n0 (by decide)).symm (A 1), z3_not Z (z3_nn (by decide)) (C 1), z3_not Z (z3_n0 (by decide)).symm (A 2), z3_not Z (z3_nn (by decide)) (B 2)⟩
def z3fp (N : Nat) : List Addr := [N + 5, N + 3, N + 4, N, N + 1, N + 2]
theorem z3fp_cases {N : Nat} {b : Addr} (h : b ∈ z3fp N) : b = N + 5 ∨ b = N + 3 ∨ b = N + 4 ∨ b = N ∨ b = N + 1 ∨ b = N + 2 := by simpa [z3fp] using h
theorem z3_goes {X : Cx} {pins : List (Addr × Obj)} {s : Shared} {σ : L2.St} {H : Hp} {elts : List Expr} {kk : Nat} {tpos : Pos} {N : Nat} {a b c : Addr} (I : Inv X pins σ H s) (hc : X.calm = true) (Z : Z3 N a b c) (xs ys zs : Array Value) :
    GoesN X.prog X.w X.A (.Tuple elts kk tpos) (N + 5) ((N + 5) :: (N + 3) :: (N + 4) :: ([N, a] ++ [N + 1, b] ++ [N + 2, c])) [N + 5, N + 4, N, N + 1, N + 2] (min (min xs.size ys.size) zs.size)
      (fun i h₀ v h => ∃ T x y u, v = .ref T ∧ h₀.objs.size ≤ T ∧ xs[i]? = some x ∧ ys[i]? = some y ∧ zs[i]? = some u ∧ h.IsTuple T #[x, y, u])
      (fun i h => IsZip h (N + 5) (N + 3) (N + 4) .none ∧ IsTupOf3 h (N + 3) (.ref N) (.ref (N + 1)) (.ref (N + 2)) ∧ (∃ a1 a2 a3, IsTupOf3 h (N + 4) a1 a2 a3) ∧ (h.IsListIter N a i ∧ h.IsList a xs) ∧ (h.IsListIter (N + 1) b i ∧ h.IsList b ys) ∧ (h.IsListIter (N + 2) c i ∧ h.IsList c zs)) := by
  have hh := I.ok.hd hc
  exact GoesN.zip3 (z3_sep Z) (Draws.list (A := X.A.in1) hh N a (z3_ne Z a (.inl rfl) 0).symm xs) (Draws.list (A := X.A.in1) hh (N + 1) b (z3_ne Z b (.inr (.inl rfl)) 1).symm ys) (Draws.list (A := X.A.in1) hh (N + 2) c (z3_ne Z c (.inr (.inr rfl)) 2).symm zs)
theorem turn_zip3 {P : Program} {w : World} {K : PySem.W.Frag} {elts : List Expr} {kk : Nat} {tpos : Pos} {N : Nat} {a b c : Addr} (n : Nat) (Z : Z3 N a b c) :
    Turn P w K (.Tuple elts kk tpos) (Itz3 K a b c n) (z3fp N) (N + 5) (z3tn N a b c n) where
  mem := by simp [z3fp]
  obj := fun i h st d hd => by
    obtain ⟨hz, hTI, ⟨x, y, z, hTO⟩, ⟨o1, e1, _, d1⟩, ⟨o2, e2, _, d2⟩, ⟨o3, e3, _, d3⟩, _⟩ := st
    rcases z3fp_cases hd with q | q | q | q | q | q
    · rw [q]; exact ⟨_, hz, fun v q => nomatch q⟩
    · rw [q]; exact ⟨_, hTI, fun v q => nomatch q⟩
    · rw [q]; exact ⟨_, hTO, fun v q => nomatch q⟩
    · rw [q]; exact ⟨o1, e1, fun v q => by rw [d1] at q; cases q⟩
    · rw [q]; exact ⟨o2, e2, fun v q => by rw [d2] at q; cases q⟩
    · rw [q]; exact ⟨o3, e3, fun v q => by rw [d3] at q; cases q⟩
  keep := fun i h h' st k => by
    obtain ⟨hz, hTI, ⟨x, y, z, hTO⟩, h1, h2, h3, hn⟩ := st
    have m : ∀ j, j ∈ z3fp N → ∀ o, h.get? j = some o → h'.get? j = some o := k
    exact ⟨m _ (by simp [z3fp]) _ hz, m _ (by simp [z3fp]) _ hTI, ⟨x, y, z, m _ (by simp [z3fp]) _ hTO⟩, h1.at fun o q => m _ (by simp [z3fp]) o q, h2.at fun o q => m _ (by simp [z3fp]) o q, h3.at fun o q => m _ (by simp [z3fp]) o q, hn⟩
  item := by
    intro X hP hw hK hc i pins s σ H E I hf st hg
    subst hP hw hK
    obtain ⟨hz, hTI, hTO, h1, h2, h3, hin⟩ := st
    obtain ⟨xs, ys, zs, x, y, z, hqx, hqy, hqz, hmin, hx, hy, hzz⟩ := hg
    obtain ⟨its, rv, p, _⟩ := I.list hqx
    obtain ⟨its2, rv2, p2, _⟩ := I.list hqy
    obtain ⟨its3, rv3, p3, _⟩ := I.list hqz
    obtain ⟨u, hu, ru⟩ := rv.get hx
    obtain ⟨u2, hu2, ru2⟩ := rv2.get hy
    obtain ⟨u3, hu3, ru3⟩ := rv3.get hzz
    have b1 := (List.getElem?_eq_some_iff.mp hu).1
    have b2 := (List.getElem?_eq_some_iff.mp hu2).1
    have b3 := (List.getElem?_eq_some_iff.mp hu3).1
    have c1 := (List.getElem?_eq_some_iff.mp hx).1
    have c2 := (List.getElem?_eq_some_iff.mp hy).1
    have c3 := (List.getElem?_eq_some_iff.mp hzz).1
    have W := z3_goes (elts := elts) (kk := kk) (tpos := tpos) I hc Z its.toArray its2.toArray its3.toArray
    refine W.goes i s (fun u s2 => ∃ x H', Inv X pins σ H' s2 ∧ RelV x u ∧ (Itz3 X.K a b c n).yld i H x H' ∧ z3tn N a b c n (i + 1) s2.heap ∧ ∀ d ∈ z3fp N, H' d = none) E (by simp only [List.size_toArray]; omega) ⟨hz, hTI, hTO, ⟨h1, p.isList⟩, ⟨h2, p2.isList⟩, ⟨h3, p3.isList⟩⟩ fun v h' tk hY st' hk htk => ?_
    obtain ⟨T, x', y', z', rfl, hT, hx', hy', hz', hTt⟩ := hY
    have ex : x' = u := by
      rw [List.getElem?_toArray, hu] at hx'
      exact (Option.some.inj hx').symm
    have ey : y' = u2 := by
      rw [List.getElem?_toArray, hu2] at hy'
      exact (Option.some.inj hy').symm
    have ez : z' = u3 := by
      rw [List.getElem?_toArray, hu3] at hz'
      exact (Option.some.inj hz').symm
    subst ex ey ez
    have new : ObjOk X.prog X.w (upd H T (.tup [x, y, z])) h' T (.tup [x, y, z]) :=
      ⟨by show 3 ≤ sizeLine; decide, [x', y', z'], .cons ru (.cons ru2 (.cons ru3 .nil)), hTt⟩
    have wr : ∀ {d : Addr}, d ∉ z3fp N → d ∉ [N + 5, N + 4, N, N + 1, N + 2] := fun {d} hd hm => hd (by
      have : d = N + 5 ∨ d = N + 4 ∨ d = N ∨ d = N + 1 ∨ d = N + 2 := by simpa using hm
      rcases this with q | q | q | q | q <;> rw [q] <;> simp [z3fp])
    have I1 := I.turnedNew (t' := tk) (ch := z3fp N) (fun d o hd q => hk d o (wr hd) q) hf hT new
    obtain ⟨hz2, hTI2, hTO2, ⟨h12, _⟩, ⟨h22, _⟩, ⟨h32, _⟩⟩ := st'
    refine ⟨.ref T, _, I1, rfl, ⟨T, x, y, z, rfl, I.hok.fresh hT, rfl, fun l hl => by rw [I.list_inj hl hqx]; exact hx, fun l hl => by rw [I.list_inj hl hqy]; exact hy, fun l hl => by rw [I.list_inj hl hqz]; exact hzz⟩, ⟨hz2, hTI2, hTO2, h12, h22, h32, by omega⟩, fun d hd => ?_⟩
    have hlt : d < s.heap.objs.size := by
      obtain ⟨x0, y0, z0, hTO⟩ := hTO
      rcases z3fp_cases hd with q | q | q | q | q | q
      · rw [q]; exact Heap.lt_size hz
      · rw [q]; exact Heap.lt_size hTI
      · rw [q]; exact Heap.lt_size hTO
      · rw [q]; obtain ⟨_, e1, _⟩ := h1; exact Heap.lt_size e1
      · rw [q]; obtain ⟨_, e1, _⟩ := h2; exact Heap.lt_size e1
      · rw [q]; obtain ⟨_, e1, _⟩ := h3; exact Heap.lt_size e1
    rw [upd_ne (Nat.ne_of_lt (Nat.lt_of_lt_of_le hlt hT))]
    exact (hf d hd).1
  done := by
    intro X hP hw hK hc i pins s σ H E I hf st hg
    subst hP hw hK
    obtain ⟨hz, hTI, hTO, h1, h2, h3, hin⟩ := st
    obtain ⟨xs, ys, zs, hqx, hqy, hqz, hmin, hni⟩ := hg
    obtain ⟨its, rv, p, _⟩ := I.list hqx
    obtain ⟨its2, rv2, p2, _⟩ := I.list hqy
    obtain ⟨its3, rv3, p3, _⟩ := I.list hqz
    have l1 := rv.length
    have l2 := rv2.length
    have l3 := rv3.length
    have W := z3_goes (elts := elts) (kk := kk) (tpos := tpos) I hc Z its.toArray its2.toArray its3.toArray
    have hi : i = min (min its.toArray.size its2.toArray.size) its3.toArray.size := by simp only [List.size_toArray]; omega
    subst hi
    exact W.stops s (fun s1 => Inv X pins σ H s1) E ⟨hz, hTI, hTO, ⟨h1, p.isList⟩, ⟨h2, p2.isList⟩, ⟨h3, p3.isList⟩⟩ fun h' tk hk htk => I.turnedL (t' := tk) (ch := z3fp N) (fun d o hd q => hk d o (fun hm => hd (by
      have : d = N + 5 ∨ d = N + 4 ∨ d = N ∨ d = N + 1 ∨ d = N + 2 := by simpa using hm
      rcases this with q | q | q | q | q <;> rw [q] <;> simp [z3fp])) q) hf
  self := fun A i s Q E st h => wpAny_pyIter_zip st.1 h
def iZip3 (K : PySem.W.Frag) (ta : TA) : TI := fun σ H R => ta σ H fun vs H1 => ∃ a b c xs ys zs, vs = [.ref a, .ref b, .ref c] ∧ SqL K H1 a xs ∧ SqL K H1 b ys ∧ SqL K H1 c zs ∧ R (Itz3 K a b c (min (min xs.length ys.length) zs.length)) H1
theorem pi_zip3 {X : Cx} {e e2 e3 : Expr} {ta : TA} {p pos tpos : Pos} {elts : List Expr} {kk : Nat} (hg : Gl X "zip") (hm : X.mg "zip" = none) (ha : PA X [e, e2, e3] ta)
    (hs : starEach [e, e2, e3] X.env = (false, eval e X.env) :: starEach [e2, e3] X.env) (hpl : (backTo pos (starEach [e2, e3] X.env)).any (·.1) = false) :
    PI X (.Tuple elts kk tpos) (.Call (.Name "zip" p) [e, e2, e3] [] pos) (iZip3 X.K ta) := by
  constructor
  intro pins s σ H R I h
  refine Call_ (ld_blt I hg hm PyProof.Rows.boot_zip (PyProof.Rows.callWith_type1 (thn (ha.run pos pins s σ H _ I h) fun us s1 ⟨vs, H1, I1, r1, q1⟩ => ?_) hs hpl))
  obtain ⟨a, b, c, xs, ys, zs, ex, hqx, hqy, hqz, q⟩ := q1
  subst ex
  cases r1 with
  | cons r rr =>
    cases rr with
    | cons r' rr =>
      cases rr with
      | cons r'' rr =>
        cases rr
        cases r
        cases r'
        cases r''
        obtain ⟨its, rv, p1, _⟩ := I1.list hqx
        obtain ⟨its2, rv2, p2, _⟩ := I1.list hqy
        obtain ⟨its3, rv3, p3, _⟩ := I1.list hqz
        refine zip_begins3 (begins_list a its.toArray) (begins_list b its2.toArray) (begins_list c its3.toArray) p1.isList p2.isList p3.isList fun h' hz hTI hTO h1 h2 h3 hsz hk => wpAny_pyIter_zip hz ?_
        have I2 : Inv X pins σ H1 { s1 with heap := h' } := I1.kept (t' := s1.toks) hk
        refine ⟨s1.heap.objs.size + 5, _, _, _, H1, rfl, I2, turn_zip3 (N := s1.heap.objs.size) (min (min xs.length ys.length) zs.length) ⟨p1.lt, p2.lt, p3.lt⟩, ⟨hz, hTI, ⟨_, _, _, hTO⟩, ⟨_, h1, rfl, rfl⟩, ⟨_, h2, rfl, rfl⟩, ⟨_, h3, rfl, rfl⟩, Nat.zero_le _⟩, fun d hd => ?_, q⟩
        have hle : s1.heap.objs.size ≤ d := by
          rcases z3fp_cases hd with z | z | z | z | z | z
          all_goals rw [z]
          all_goals first | exact Nat.le_add_right _ _ | exact Nat.le.refl
        exact I1.fpOk hle (I1.hok.fresh hle)
end PyI
set_option autoImplicit false
set_option linter.all false
set_option Elab.async false
set_option maxRecDepth 100000
set_option maxHeartbeats 4000000
namespace PyI
open PySem PySem.Spec PyProof.Rows L2

mutual
inductive VR (K : PySem.W.Frag) (α : List Addr) (H : Hp) : PV → V → Prop
  | non : VR K α H .non .non
  | bl (b : Bool) : VR K α H (.bl b) (.bl b)
  | int (i : Int) : VR K α H (.int i) (.int i)
  | str (s : Txt) : VR K α H (.str s) (.str (ofT s))
  | tup {a : Addr} {vs : List V} {ds : List PV} : SqT K H a vs → VRs K α H ds vs → VR K α H (.tup ds) (.ref a)
  | ref {n : Nat} {a : Addr} : α[n]? = some a → VR K α H (.ref n) (.ref a)
inductive VRs (K : PySem.W.Frag) (α : List Addr) (H : Hp) : List PV → List V → Prop
  | nil : VRs K α H [] []
  | cons {d : PV} {v : V} {ds : List PV} {vs : List V} : VR K α H d v → VRs K α H ds vs → VRs K α H (d :: ds) (v :: vs)
end
def TExt (K : PySem.W.Frag) (H H' : Hp) : Prop := ∀ a xs, SqT K H a xs → SqT K H' a xs
structure Le (K : PySem.W.Frag) (α : List Addr) (H : Hp) (α' : List Addr) (H' : Hp) : Prop where
  al : ∀ (n : Nat) (a : Addr), α[n]? = some a → α'[n]? = some a
  te : TExt K H H'
  fz : ∀ (a : Addr) (o : Obj) (u : HO), H a = some (.frz o u) → H' a = some (.frz o u)
variable {K : PySem.W.Frag} {α α' α2 : List Addr} {H H' H2 : Hp} {S S' : Store}
theorem Le.refl : Le K α H α H := ⟨fun _ _ h => h, fun _ _ h => h, fun _ _ _ h => h⟩
theorem Le.trans (a : Le K α H α' H') (b : Le K α' H' α2 H2) : Le K α H α2 H2 := ⟨fun n x h => b.al n x (a.al n x h), fun x y h => b.te x y (a.te x y h), fun x o u h => b.fz x o u (a.fz x o u h)⟩
mutual
theorem VR.mono (l : Le K α H α' H') : ∀ {d : PV} {v : V}, VR K α H d v → VR K α' H' d v
  | _, _, .non => .non
  | _, _, .bl b => .bl b
  | _, _, .int b => .int b
  | _, _, .str b => .str b
  | _, _, .tup h r => .tup (l.te _ _ h) (VRs.mono l r)
  | _, _, .ref h => .ref (l.al _ _ h)
theorem VRs.mono (l : Le K α H α' H') : ∀ {d : List PV} {v : List V}, VRs K α H d v → VRs K α' H' d v
  | _, _, .nil => .nil
  | _, _, .cons a b => .cons (VR.mono l a) (VRs.mono l b)
end
theorem VRs.length : ∀ {d : List PV} {v : List V}, VRs K α H d v → d.length = v.length
  | _, _, .nil => rfl
  | _, _, .cons _ b => by simp [VRs.length b]
theorem VRs.get : ∀ {ds : List PV} {vs : List V} {i : Nat} {d : PV}, VRs K α H ds vs → ds[i]? = some d → ∃ v, vs[i]? = some v ∧ VR K α H d v
  | _, _, _, _, .nil, e => by simp at e
  | _, _, 0, _, .cons r _, e => by simp at e; subst e; exact ⟨_, rfl, r⟩
  | _, _, i + 1, x, .cons _ t, e => by
    obtain ⟨u, h1, h2⟩ := VRs.get (i := i) (d := x) t (by simpa using e)
    exact ⟨u, by simpa using h1, h2⟩
theorem VRs.append : ∀ {xs ys : List PV} {us ws : List V}, VRs K α H xs us → VRs K α H ys ws → VRs K α H (xs ++ ys) (us ++ ws)
  | _, _, _, _, .nil, s => s
  | _, _, _, _, .cons r t, s => .cons r (VRs.append t s)
theorem VRs.take : ∀ {xs : List PV} {us : List V} (n : Nat), VRs K α H xs us → VRs K α H (xs.take n) (us.take n)
  | _, _, 0, _ => .nil
  | _, _, _ + 1, .nil => .nil
  | _, _, n + 1, .cons r t => .cons r (VRs.take n t)
theorem VRs.drop : ∀ {xs : List PV} {us : List V} (n : Nat), VRs K α H xs us → VRs K α H (xs.drop n) (us.drop n)
  | _, _, 0, r => r
  | _, _, _ + 1, .nil => .nil
  | _, _, n + 1, .cons _ t => VRs.drop n t
theorem VRs.reverse {xs : List PV} {us : List V} (h : VRs K α H xs us) : VRs K α H xs.reverse us.reverse := by
  induction xs generalizing us with
  | nil => cases h; exact .nil
  | cons x r ih =>
    cases h with
    | cons a b =>
      rw [List.reverse_cons, List.reverse_cons]
      exact (ih b).append (.cons a .nil)
theorem VRs.set {d : PV} {v : V} (r : VR K α H d v) : ∀ {xs : List PV} {us : List V} (i : Nat), VRs K α H xs us → VRs K α H (xs.set i d) (us.set i v)
  | _, _, _, .nil => .nil
  | _, _, 0, .cons _ t => .cons r t
  | _, _, i + 1, .cons q t => .cons q (VRs.set r i t)
theorem VRs.eraseIdx : ∀ {xs : List PV} {us : List V} (i : Nat), VRs K α H xs us → VRs K α H (xs.eraseIdx i) (us.eraseIdx i)
  | _, _, _, .nil => .nil
  | _, _, 0, .cons _ t => t
  | _, _, i + 1, .cons q t => .cons q (VRs.eraseIdx i t)
theorem VRs.dropLast {xs : List PV} {us : List V} (h : VRs K α H xs us) : VRs K α H xs.dropLast us.dropLast := by
  rw [List.dropLast_eq_take, List.dropLast_eq_take, h.length]
  exact h.take _
theorem VRs.rep {xs : List PV} {us : List V} (h : VRs K α H xs us) : ∀ k : Nat, VRs K α H (List.replicate k xs).flatten (List.replicate k us).flatten
  | 0 => .nil
  | k + 1 => by
    rw [List.replicate_succ, List.replicate_succ, List.flatten_cons, List.flatten_cons]
    exact h.append (VRs.rep h k)

/-- dicts -/
inductive KVR (K : PySem.W.Frag) (α : List Addr) (H : Hp) : List (Txt × PV) → List (Key × V) → Prop
  | nil : KVR K α H [] []
  | cons {k : Txt} {d : PV} {v : V} {ds : List (Txt × PV)} {vs : List (Key × V)} : VR K α H d v → KVR K α H ds vs → KVR K α H ((k, d) :: ds) ((.inr (ofT k), v) :: vs)
theorem KVR.mono (l : Le K α H α' H') : ∀ {d : List (Txt × PV)} {v : List (Key × V)}, KVR K α H d v → KVR K α' H' d v
  | _, _, .nil => .nil
  | _, _, .cons a b => .cons (VR.mono l a) (KVR.mono l b)
theorem KVR.length : ∀ {d : List (Txt × PV)} {v : List (Key × V)}, KVR K α H d v → d.length = v.length
  | _, _, .nil => rfl
  | _, _, .cons _ b => by simp [KVR.length b]
theorem ofT_inj {a b : Txt} (h : ofT a = ofT b) : a = b := by
  have : a.toArray = b.toArray := congrArg Str.cps h
  simpa using congrArg Array.toList this
theorem ofT_eq {a b : Txt} : ofT a = ofT b ↔ a = b := ⟨ofT_inj, fun h => h ▸ rfl⟩

/-! ### instances of the program's one class -/
def fldS : Nat → Str
  | 0 => "tables"
  | _ => "texts"
theorem fldS_ne : fldS 0 ≠ fldS 1 := by decide +kernel
inductive FR (K : PySem.W.Frag) (α : List Addr) (H : Hp) : List (Nat × PV) → List (Str × V) → Prop
  | nil : FR K α H [] []
  | cons {f : Nat} {d : PV} {v : V} {fs : List (Nat × PV)} {gs : List (Str × V)} : f < 2 → VR K α H d v → FR K α H fs gs → FR K α H ((f, d) :: fs) ((fldS f, v) :: gs)
theorem FR.mono (l : Le K α H α' H') : ∀ {fs : List (Nat × PV)} {gs : List (Str × V)}, FR K α H fs gs → FR K α' H' fs gs
  | _, _, .nil => .nil
  | _, _, .cons h a b => .cons h (VR.mono l a) (FR.mono l b)
theorem fldS_inj {f g : Nat} (hf : f < 2) (hg : g < 2) (h : fldS f = fldS g) : f = g := by
  match f, g, hf, hg with
  | 0, 0, _, _ => rfl
  | 1, 1, _, _ => rfl
  | 0, 1, _, _ => exact absurd h fldS_ne
  | 1, 0, _, _ => exact absurd h.symm fldS_ne
theorem FR.length : ∀ {fs : List (Nat × PV)} {gs : List (Str × V)}, FR K α H fs gs → fs.length = gs.length
  | _, _, .nil => rfl
  | _, _, .cons _ _ b => by simp [FR.length b]
theorem FR.get {f : Nat} {d : PV} (hf : f < 2) : ∀ {fs : List (Nat × PV)} {gs : List (Str × V)}, FR K α H fs gs → fs.lookup f = some d → ∃ v, gs.lookup (fldS f) = some v ∧ VR K α H d v
  | _, _, .nil, h => by cases h
  | (g, d') :: fs, (_, v) :: gs, .cons hg a b, h => by
    rw [List.lookup_cons] at h
    by_cases e : f = g
    · subst e
      rw [beq_self_eq_true] at h
      cases h
      exact ⟨v, by rw [List.lookup_cons, beq_self_eq_true], a⟩
    · rw [show (f == g) = false by simpa using e] at h
      obtain ⟨u, h1, h2⟩ := FR.get hf b h
      refine ⟨u, ?_, h2⟩
      rw [List.lookup_cons, show (fldS f == fldS g) = false from Bool.eq_false_iff.mpr fun z => e (fldS_inj hf hg (eq_of_beq z))]
      exact h1
theorem FR.put {f : Nat} {d : PV} {v : V} (hf : f < 2) (r : VR K α H d v) : ∀ {fs : List (Nat × PV)} {gs : List (Str × V)}, FR K α H fs gs → FR K α H (putFd f d fs) (putF (fldS f) v gs)
  | _, _, .nil => .cons hf r .nil
  | (g, d') :: fs, (_, v') :: gs, .cons hg a b => by
    unfold putFd putF
    by_cases e : g = f
    · subst e
      rw [if_pos rfl, if_pos rfl]
      exact .cons hg r b
    · rw [if_neg e, if_neg fun z => e (fldS_inj hg hf z)]
      exact .cons hg a (FR.put hf r b)
theorem FR.no {m : Str} (h0 : m ≠ "tables") (h1 : m ≠ "texts") : ∀ {fs : List (Nat × PV)} {gs : List (Str × V)}, FR K α H fs gs → gs.lookup m = none
  | _, _, .nil => rfl
  | (g, _) :: _, _, .cons hg a b => by
    rw [List.lookup_cons]
    have : (m == fldS g) = false := by
      match g, hg with
      | 0, _ => exact Bool.eq_false_iff.mpr fun z => h0 (eq_of_beq z)
      | 1, _ => exact Bool.eq_false_iff.mpr fun z => h1 (eq_of_beq z)
    rw [this]
    exact FR.no h0 h1 b
/-- a list that never changes -/
def SqF (K : PySem.W.Frag) (H : Hp) (a : Addr) (xs : List V) : Prop := (∃ o, H a = some (.frz o (.lst xs))) ∨ ∀ H', SqL K H' a xs
theorem SqF.l {a : Addr} {xs : List V} (h : SqF K H a xs) : SqL K H a xs := by
  rcases h with ⟨o, h⟩ | h
  · exact .inl (.inr ⟨o, h⟩)
  · exact h H
def PO.mut : PO → Bool
  | .lst _ => true | .dic _ => true | .ins _ _ => true | _ => false
def OR (K : PySem.W.Frag) (α : List Addr) (H : Hp) (a : Addr) : PO → Prop
  | .lst xs => ∃ vs, H a = some (.lst vs) ∧ VRs K α H xs vs
  | .scr xs => ∃ vs, SqF K H a vs ∧ VRs K α H xs vs
  | .dic kvs => ∃ vs, H a = some (.dK vs) ∧ KVR K α H kvs vs
  | .ldc kvs => ∃ vs o, H a = some (.frz o (.dK vs)) ∧ KVR K α H kvs vs
  | .ins _ fs => ∃ C dx gs, H a = some (.ins C dx gs) ∧ PySem.W.nsIn K mainGlobals ("Reader" : Str) = some (some (.ref C)) ∧ FR K α H fs gs
theorem OR.keep {a : Addr} {o : PO} (l : Le K α H α' H') (k : ∀ u, H a = some u → H' a = some u) (h : OR K α H a o) : OR K α' H' a o := by
  cases o with
  | lst xs => obtain ⟨vs, e, r⟩ := h; exact ⟨vs, k _ e, r.mono l⟩
  | scr xs =>
    obtain ⟨vs, e, r⟩ := h
    refine ⟨vs, ?_, r.mono l⟩
    rcases e with ⟨o, e⟩ | e
    · exact .inl ⟨o, k _ e⟩
    · exact .inr e
  | dic kvs => obtain ⟨vs, e, r⟩ := h; exact ⟨vs, k _ e, r.mono l⟩
  | ldc kvs => obtain ⟨vs, o, e, r⟩ := h; exact ⟨vs, o, k _ e, r.mono l⟩
  | ins c fs => obtain ⟨C, dx, gs, e, hc, r⟩ := h; exact ⟨C, dx, gs, k _ e, hc, r.mono l⟩
structure Sim (K : PySem.W.Frag) (S : Store) (α : List Addr) (H : Hp) : Prop where
  len : α.length = S.length
  obj : ∀ (n : Nat) (o : PO) (a : Addr), S[n]? = some o → α[n]? = some a → OR K α H a o
  inj : ∀ (m n : Nat) (a : Addr) (o o' : PO), S[m]? = some o → S[n]? = some o' → o.mut = true → o'.mut = true → α[m]? = some a → α[n]? = some a → m = n
theorem mut_some {o : PO} {a : Addr} (h : OR K α H a o) (m : o.mut = true) : ∃ u, H a = some u ∧ Mut (some u) := by
  cases o with
  | lst xs => obtain ⟨vs, e, r⟩ := h; exact ⟨_, e, trivial⟩
  | dic kvs => obtain ⟨vs, e, r⟩ := h; exact ⟨_, e, trivial⟩
  | ins c fs => obtain ⟨C, dx, gs, e, _⟩ := h; exact ⟨_, e, trivial⟩
  | scr xs => cases m
  | ldc xs => cases m
theorem text_upd {p : Addr} {o : HO} (h : H p = none ∨ Mut (H p)) : TExt K H (upd H p o) := fun a xs e => by
  rcases e with (e | ⟨u, e⟩) | e
  · refine .inl (.inl ?_)
    rw [upd_ne]; exact e
    rintro rfl
    rcases h with h | h
    · rw [h] at e; cases e
    · rw [e] at h; exact h
  · refine .inl (.inr ⟨u, ?_⟩)
    rw [upd_ne]; exact e
    rintro rfl
    rcases h with h | h
    · rw [h] at e; cases e
    · rw [e] at h; exact h
  · exact .inr e
theorem frz_upd {p : Addr} {o : HO} (h : H p = none ∨ Mut (H p)) : ∀ (a : Addr) (o' : Obj) (u : HO), H a = some (.frz o' u) → upd H p o a = some (.frz o' u) := fun a o' u e => by
  rw [upd_ne]
  · exact e
  · rintro rfl
    rcases h with h | h
    · rw [h] at e; cases e
    · rw [e] at h; exact h
theorem le_new {p : Addr} {o : HO} (h : H p = none) : Le K α H (α ++ [p]) (upd H p o) := ⟨fun n a e => by
  have hl := (List.getElem?_eq_some_iff.mp e).1
  rw [List.getElem?_append_left hl]; exact e, text_upd (.inl h), frz_upd (.inl h)⟩
theorem le_upd {p : Addr} {o : HO} (h : H p = none ∨ Mut (H p)) : Le K α H α (upd H p o) := ⟨fun _ _ e => e, text_upd h, frz_upd h⟩
/-- a thing that is tracked but stands for nothing in the store -/
theorem Sim.aside (s : Sim K S α H) {p : Addr} {o : HO} (h : H p = none) : Sim K S α (upd H p o) := ⟨s.len, fun n x a e1 e2 => (s.obj n x a e1 e2).keep (le_upd (.inl h)) fun u hu => by rw [upd_ne (ne_of_none hu h)]; exact hu, s.inj⟩
theorem get_app {α : Type} {l : List α} {x : α} : (l ++ [x])[l.length]? = some x := by simp
theorem get_app_of {α : Type} {l m : List α} {n : Nat} {x : α} (h : l[n]? = some x) : (l ++ m)[n]? = some x := by
  rw [List.getElem?_append_left (List.getElem?_eq_some_iff.mp h).1]; exact h
theorem get_app_cases {α : Type} {l : List α} {x y : α} {n : Nat} (h : (l ++ [x])[n]? = some y) : l[n]? = some y ∨ (n = l.length ∧ y = x) := by
  by_cases hn : n < l.length
  · rw [List.getElem?_append_left hn] at h; exact .inl h
  · have := (List.getElem?_eq_some_iff.mp h).1
    have e : n = l.length := by simp at this; omega
    subst e
    rw [get_app] at h
    exact .inr ⟨rfl, (Option.some.inj h).symm⟩
/-- a new object -/
theorem Sim.alloc (s : Sim K S α H) {p : Addr} {o : HO} {x : PO} (h : H p = none) (r : OR K (α ++ [p]) (upd H p o) p x) : Sim K (S ++ [x]) (α ++ [p]) (upd H p o) := by
  refine ⟨by simp [s.len], fun n y a e1 e2 => ?_, fun m n a y z e1 e2 m1 m2 a1 a2 => ?_⟩
  · rcases get_app_cases e1 with f1 | ⟨f1, rfl⟩
    · have : α[n]? = some a := by
        rcases get_app_cases e2 with q | ⟨q, _⟩
        · exact q
        · have := (List.getElem?_eq_some_iff.mp f1).1
          rw [q, s.len] at this; omega
      exact (s.obj n y a f1 this).keep (le_new h) fun u hu => by rw [upd_ne (ne_of_none hu h)]; exact hu
    · have : a = p := by
        rw [f1, ← s.len, get_app] at e2
        exact (Option.some.inj e2).symm
      rw [this]; exact r
  · have old : ∀ {k : Nat} {y : PO}, S[k]? = some y → y.mut = true → (α ++ [p])[k]? = some a → α[k]? = some a ∧ ∃ u, H a = some u := fun {k y} e m q => by
      rcases get_app_cases q with q | ⟨q, _⟩
      · obtain ⟨u, hu, _⟩ := mut_some (s.obj _ _ _ e q) m
        exact ⟨q, u, hu⟩
      · have := (List.getElem?_eq_some_iff.mp e).1
        rw [q, s.len] at this; omega
    have new : ∀ {k : Nat}, k = S.length → (α ++ [p])[k]? = some a → a = p := fun {k} e q => by
      rw [e, ← s.len, get_app] at q
      exact (Option.some.inj q).symm
    rcases get_app_cases e1 with e1 | ⟨e1, _⟩ <;> rcases get_app_cases e2 with e2 | ⟨e2, _⟩
    · exact s.inj m n a y z e1 e2 m1 m2 (old e1 m1 a1).1 (old e2 m2 a2).1
    · obtain ⟨_, u, hu⟩ := old e1 m1 a1
      rw [new e2 a2, h] at hu; cases hu
    · obtain ⟨_, u, hu⟩ := old e2 m2 a2
      rw [new e1 a1, h] at hu; cases hu
    · rw [e1, e2]
/-- a list or dict is changed -/
theorem Sim.write (s : Sim K S α H) {n : Nat} {a : Addr} {x y : PO} {o : HO} (hn : S[n]? = some x) (ha : α[n]? = some a) (m : x.mut = true) (r : OR K α (upd H a o) a y) : Sim K (S.set n y) α (upd H a o) := by
  obtain ⟨u, hu, mu⟩ := mut_some (s.obj n x a hn ha) m
  have back : ∀ {k : Nat} {z : PO}, (S.set n y)[k]? = some z → (k = n ∧ z = y) ∨ (k ≠ n ∧ S[k]? = some z) := fun {k z} e => by
    by_cases hk : k = n
    · subst hk
      rw [List.getElem?_set_self (List.getElem?_eq_some_iff.mp hn).1] at e
      exact .inl ⟨rfl, (Option.some.inj e).symm⟩
    · rw [List.getElem?_set_ne (Ne.symm hk)] at e
      exact .inr ⟨hk, e⟩
  refine ⟨by simp [s.len], fun k z b e1 e2 => ?_, fun j k b z z' e1 e2 m1 m2 a1 a2 => ?_⟩
  · rcases back e1 with ⟨rfl, rfl⟩ | ⟨hk, e1⟩
    · rw [ha] at e2
      rw [← Option.some.inj e2]; exact r
    · have hz := s.obj k z b e1 e2
      by_cases hsc : ∃ xs, z = .scr xs
      · obtain ⟨xs, rfl⟩ := hsc
        obtain ⟨vs, q, rv⟩ := hz
        refine ⟨vs, ?_, rv.mono (le_upd (.inr (by rw [hu]; exact mu)))⟩
        rcases q with ⟨f, q⟩ | q
        · refine .inl ⟨f, ?_⟩
          rw [upd_ne]; exact q
          rintro rfl
          rw [hu] at q
          cases q
          exact mu
        · exact .inr q
      refine (s.obj k z b e1 e2).keep (le_upd (.inr (by rw [hu]; exact mu))) fun w hw => ?_
      by_cases hb : b = a
      · exfalso
        subst hb
        cases hm : z.mut with
        | true => exact hk (s.inj k n b z x e1 hn hm m e2 ha)
        | false =>
          cases z with
          | lst xs => cases hm
          | dic xs => cases hm
          | ins c fs => cases hm
          | scr xs => exact hsc ⟨xs, rfl⟩
          | ldc xs =>
            obtain ⟨vs, o', e, _⟩ := hz
            rw [hu] at e
            cases e
            exact mu
      · rw [upd_ne hb]; exact hw
  · rcases back e1 with ⟨h1, _⟩ | ⟨h1, f1⟩ <;> rcases back e2 with ⟨h2, _⟩ | ⟨h2, f2⟩
    · rw [h1, h2]
    · rw [h1] at a1 ⊢
      exact s.inj _ _ b x z' hn f2 m m2 a1 a2
    · rw [h2] at a2 ⊢
      exact s.inj _ _ b z x f1 hn m1 m a1 a2
    · exact s.inj _ _ b z z' f1 f2 m1 m2 a1 a2
end PyI
set_option autoImplicit false
set_option linter.all false
set_option Elab.async false
set_option maxRecDepth 100000
set_option maxHeartbeats 4000000
namespace PyI
open PySem PySem.Spec PyProof.Rows L2
variable {X : Cx} {α α' α2 : List Addr} {H H' H2 : Hp} {S S' : Store}
def Post (K : PySem.W.Frag) (α : List Addr) (H : Hp) (Q : PQ) (Q' : VK) : Prop := ∀ (d : PV) (S' : Store) (α' : List Addr) (H' : Hp) (v : V), Q d S' → Le K α H α' H' → Sim K S' α' H' → VR K α' H' d v → Q' v H'
theorem Sim.lst {K : PySem.W.Frag} (s : Sim K S α H) {n : Nat} {a : Addr} {xs : List PV} (h : S[n]? = some (.lst xs)) (ha : α[n]? = some a) : ∃ vs, H a = some (.lst vs) ∧ VRs K α H xs vs := s.obj n _ a h ha
theorem getL_cases {n : Nat} {xs : List PV} (h : getL S n = some xs) : S[n]? = some (.lst xs) ∨ S[n]? = some (.scr xs) := by
  unfold getL at h
  split at h
  · rename_i ys e; cases h; exact .inl e
  · rename_i ys e; cases h; exact .inr e
  · cases h
theorem getD_cases {n : Nat} {xs : List (Txt × PV)} (h : getD S n = some xs) : S[n]? = some (.dic xs) := by
  unfold getD at h
  split at h
  · rename_i ys e; cases h; exact e
  · cases h
theorem Sim.getL {K : PySem.W.Frag} (s : Sim K S α H) {n : Nat} {a : Addr} {xs : List PV} (h : getL S n = some xs) (ha : α[n]? = some a) : ∃ vs, SqL K H a vs ∧ VRs K α H xs vs := by
  rcases getL_cases h with e | e
  · obtain ⟨vs, q, r⟩ := s.obj n _ a e ha
    exact ⟨vs, .inl (.inl q), r⟩
  · obtain ⟨vs, q, r⟩ := s.obj n _ a e ha
    exact ⟨vs, q.l, r⟩
theorem Sim.getD {K : PySem.W.Frag} (s : Sim K S α H) {n : Nat} {a : Addr} {xs : List (Txt × PV)} (h : getD S n = some xs) (ha : α[n]? = some a) : ∃ vs, H a = some (.dK vs) ∧ KVR K α H xs vs := s.obj n _ a (getD_cases h) ha
/-- a new list -/
theorem post_new {K : PySem.W.Frag} {Q : PQ} {Q' : VK} {xs : List PV} {vs : List V} {p : Addr} (s : Sim K S α H) (po : Post K α H Q Q') (h : H p = none) (r : VRs K α H xs vs) (q : Q (.ref S.length) (S ++ [.lst xs])) : Q' (.ref p) (upd H p (.lst vs)) := by
  refine po _ _ (α ++ [p]) _ _ q (le_new h) (s.alloc h ⟨vs, upd_same, r.mono (le_new h)⟩) (.ref ?_)
  rw [← s.len]; exact get_app
theorem post_newD {K : PySem.W.Frag} {Q : PQ} {Q' : VK} {p : Addr} (s : Sim K S α H) (po : Post K α H Q Q') (h : H p = none) (q : Q (.ref S.length) (S ++ [.dic []])) : Q' (.ref p) (upd H p (.dK [])) := by
  refine po _ _ (α ++ [p]) _ _ q (le_new h) (s.alloc h ⟨[], upd_same, .nil⟩) (.ref ?_)
  rw [← s.len]; exact get_app
theorem post_newK {K : PySem.W.Frag} {Q : PQ} {Q' : VK} {p : Addr} {kvs : List (Txt × PV)} {vs : List (Key × V)} (s : Sim K S α H) (po : Post K α H Q Q') (h : H p = none) (r : KVR K α H kvs vs) (q : Q (.ref S.length) (S ++ [.dic kvs])) : Q' (.ref p) (upd H p (.dK vs)) := by
  refine po _ _ (α ++ [p]) _ _ q (le_new h) (s.alloc h ⟨vs, upd_same, r.mono (le_new h)⟩) (.ref ?_)
  rw [← s.len]; exact get_app
/-- a new tuple -/
theorem post_tup {K : PySem.W.Frag} {Q : PQ} {Q' : VK} {xs : List PV} {vs : List V} {p : Addr} (s : Sim K S α H) (po : Post K α H Q Q') (h : H p = none) (r : VRs K α H xs vs) (q : Q (.tup xs) S) : Q' (.ref p) (upd H p (.tup vs)) :=
  po _ _ α _ _ q (le_upd (.inl h)) (s.aside h) (.tup (.inl (.inl upd_same)) (r.mono (le_upd (.inl h))))
theorem post_same {K : PySem.W.Frag} {Q : PQ} {Q' : VK} {d : PV} {v : V} (s : Sim K S α H) (po : Post K α H Q Q') (r : VR K α H d v) (q : Q d S) : Q' v H := po _ _ _ _ _ q Le.refl s r
theorem Post.le {K : PySem.W.Frag} {Q : PQ} {Q' : VK} (p : Post K α H Q Q') (l : Le K α H α' H') : Post K α' H' Q Q' := fun d S' a h v q l' s r => p d S' a h v q (l.trans l') s r
/-! ### data -/
theorem ofT_beq (a b : Txt) : (ofT a == ofT b) = (a == b) := by
  by_cases h : a = b
  · subst h; simp
  · have : ofT a ≠ ofT b := fun e => h (ofT_inj e)
    rw [beq_eq_false_iff_ne.mpr h, beq_eq_false_iff_ne.mpr this]
mutual
theorem eqv_toD : ∀ d e : Dt, PyData.eqv (toD d) (toD e) = d.eqv e
  | .tup l, .tup m => by
    simp only [toD, PyData.eqv, Dt.eqv]
    exact eqv_toDs l m
  | .lst l, .lst m => by
    simp only [toD, PyData.eqv, Dt.eqv]
    exact eqv_toDs l m
  | .str a, .str b => by
    simp only [toD, PyData.eqv, Dt.eqv]
    exact ofT_beq a b
  | .non, .non | .bl _, .bl _ | .bl _, .int _ | .int _, .bl _ | .int _, .int _ => by simp only [toD, PyData.eqv, Dt.eqv]
  | .non, .bl _ | .non, .int _ | .non, .str _ | .non, .lst _ | .non, .tup _ => by simp only [toD, PyData.eqv, Dt.eqv]
  | .bl _, .non | .bl _, .str _ | .bl _, .lst _ | .bl _, .tup _ => by simp only [toD, PyData.eqv, Dt.eqv]
  | .int _, .non | .int _, .str _ | .int _, .lst _ | .int _, .tup _ => by simp only [toD, PyData.eqv, Dt.eqv]
  | .str _, .non | .str _, .bl _ | .str _, .int _ | .str _, .lst _ | .str _, .tup _ => by simp only [toD, PyData.eqv, Dt.eqv]
  | .lst _, .non | .lst _, .bl _ | .lst _, .int _ | .lst _, .str _ | .lst _, .tup _ => by simp only [toD, PyData.eqv, Dt.eqv]
  | .tup _, .non | .tup _, .bl _ | .tup _, .int _ | .tup _, .str _ | .tup _, .lst _ => by simp only [toD, PyData.eqv, Dt.eqv]
theorem eqv_toDs : ∀ d e : List Dt, PyData.eqvAll (toDs d) (toDs e) = Dt.eqvAll d e
  | [], [] => by simp only [toDs, PyData.eqvAll, Dt.eqvAll]
  | [], _ :: _ => by simp only [toDs, PyData.eqvAll, Dt.eqvAll]
  | _ :: _, [] => by simp only [toDs, PyData.eqvAll, Dt.eqvAll]
  | x :: r, y :: t => by
    simp only [toDs, PyData.eqvAll, Dt.eqvAll]
    rw [eqv_toD x y, eqv_toDs r t]
end
theorem toDs_map : ∀ l : List Dt, toDs l = l.map toD
  | [] => rfl
  | x :: r => by rw [toDs, toDs_map r]; rfl
theorem txt_ok {s : Txt} (h : txtOk s) : PyData.strOk (ofT s) = true := by
  unfold PyData.strOk ofT
  simp only [List.all_toArray, List.all_eq_true, decide_eq_true_eq]
  intro c hc
  exact h c hc
mutual
theorem Dn.dp {K : PySem.W.Frag} (s : Sim K S α H) : ∀ {k : Nat} {x : PV} {d : Dt} {v : V}, Dn S k x d → VR K α H x v → Dp K H v (toD d)
  | _, _, _, _, .non, .non => by rw [toD]; exact .non
  | _, _, _, _, .bl _, .bl _ => by rw [toD]; exact .bl _
  | _, _, _, _, .int _, .int _ => by rw [toD]; exact .int _
  | _, _, _, _, .str _ _, .str _ => by rw [toD]; exact .str _
  | _, _, _, _, .tup h, .tup q r => by rw [toD]; exact .tup q (DnL.dp s h r)
  | _, _, _, _, .lst g h, .ref q => by
    rw [toD]
    obtain ⟨vs, q1, r⟩ := s.getL g q
    exact .lst q1 (DnL.dp s h r)
theorem DnL.dp {K : PySem.W.Frag} (s : Sim K S α H) : ∀ {k : Nat} {x : List PV} {d : List Dt} {v : List V}, DnL S k x d → VRs K α H x v → DpAll K H v (toDs d)
  | _, _, _, _, .nil, .nil => by rw [toDs]; exact .nil
  | _, _, _, _, .cons h t, .cons q r => by rw [toDs]; exact .cons (Dn.dp s h q) (DnL.dp s t r)
end
mutual
theorem Dn.shape : ∀ {k : Nat} {x : PV} {d : Dt}, Dn S k x d → (toD d).canLay0 = true ∧ (toD d).depth ≤ k
  | _, _, _, .non => by rw [toD]; exact ⟨by simp only [PyData.canLay0], by simp only [PyData.depth]; omega⟩
  | _, _, _, .bl _ => by rw [toD]; exact ⟨by simp only [PyData.canLay0], by simp only [PyData.depth]; omega⟩
  | _, _, _, .int _ => by rw [toD]; exact ⟨by simp only [PyData.canLay0], by simp only [PyData.depth]; omega⟩
  | _, _, _, .str _ h => by rw [toD]; exact ⟨by simp only [PyData.canLay0]; exact txt_ok h, by simp only [PyData.depth]; omega⟩
  | _, _, _, .tup h => by
    rw [toD]; simp only [PyData.canLay0, PyData.depth]
    have := DnL.shape h
    exact ⟨this.1, by omega⟩
  | _, _, _, .lst _ h => by
    rw [toD]; simp only [PyData.canLay0, PyData.depth]
    have := DnL.shape h
    exact ⟨this.1, by omega⟩
theorem DnL.shape : ∀ {k : Nat} {x : List PV} {d : List Dt}, DnL S k x d → PyData.canLayAll0 (toDs d) = true ∧ PyData.depthAll (toDs d) ≤ k
  | _, _, _, .nil => by rw [toDs]; exact ⟨by simp only [PyData.canLayAll0], by simp only [PyData.depthAll]; omega⟩
  | _, _, _, .cons h t => by
    rw [toDs]
    have h1 := Dn.shape h
    have h2 := DnL.shape t
    exact ⟨by simp only [PyData.canLayAll0, h1.1, h2.1, Bool.and_true], by simp only [PyData.depthAll]; omega⟩
end
theorem Dn.shaped {x : PV} {d : Dt} (h : Dn S 60 x d) : SeqAt.shaped (toD d) = true := by
  unfold SeqAt.shaped
  have := h.shape
  rw [this.1, Bool.true_and, decide_eq_true_eq]
  omega
/-! ### arithmetic -/
def opB : BOp → Operator
  | .add => .Add | .sub => .Sub | .mul => .Mult | .div => .FloorDiv | .mod => .Mod | .pow => .Pow
theorem flat1 (m : Nat) (c : Nat) : (List.replicate m [c]).flatten = List.replicate m c := by
  induction m with
  | zero => rfl
  | succ k ih => rw [List.replicate_succ, List.flatten_cons, ih]; rfl
theorem fold_rep (m : Nat) (a : Array Nat) : (List.replicate m a).foldl (· ++ ·) #[] = ((List.replicate m a.toList).flatten).toArray := by
  have go : ∀ (k : Nat) (acc : Array Nat), (List.replicate k a).foldl (· ++ ·) acc = acc ++ ((List.replicate k a.toList).flatten).toArray := by
    intro k
    induction k with
    | zero => intro acc; simp
    | succ j ih => intro acc; rw [List.replicate_succ, List.foldl_cons, ih, List.replicate_succ, List.flatten_cons]; apply Array.ext'; simp
  simpa using go m #[]
theorem flat_lenR (m : Nat) (c : Txt) : (List.replicate m c).flatten.length = m * c.length := by
  induction m with
  | zero => simp
  | succ k ih => rw [List.replicate_succ, List.flatten_cons, List.length_append, ih, Nat.succ_mul]; omega
def rRepS : R2 := fun x y H Q => ∃ (c : Txt) (k : Int), x = .str (ofT c) ∧ y = .int k ∧ (1 ≤ c.length ∧ c.length ≤ 16) ∧ -1000 ≤ k ∧ k ≤ 1000 ∧ Q (.str (ofT (List.replicate k.toNat c).flatten)) H
theorem op_repS : OpR X (binaryOp .Mult) rRepS := by
  intro pins s σ H x y v u Q I rx ry h
  obtain ⟨c, k, rfl, rfl, ⟨hc1, hc2⟩, h1, h2, q⟩ := h
  obtain ⟨t, rfl⟩ := rx
  obtain ⟨t', rfl⟩ := ry
  have hl : (ofT c).length = c.length := by show c.toArray.size = _; simp
  refine P.mul_str ?_ ?_ ?_ ?_
  · have a1 : ¬ k < -(2 ^ 63) := by omega
    have a2 : ¬ k ≥ 2 ^ 63 := by omega
    rw [decide_eq_false a1, decide_eq_false a2]; rfl
  · intro h3 _ h4
    rw [hl] at h4
    have : (16 : Int) ≤ (2 ^ 63 - 1) / k := by
      apply (Int.le_ediv_iff_mul_le (by omega)).mpr
      omega
    omega
  · intro h3 _
    rw [hl]
    unfold Builtin.Str.tooLong
    rw [decide_eq_false_iff_not, sizeLine_eq]
    have m1 : (c.length : Int) * (k.toNat : Int) ≤ 16 * 1000 := by
      have : c.length * k.toNat ≤ 16 * 1000 := Nat.mul_le_mul hc2 (by omega)
      exact_mod_cast this
    omega
  · by_cases hk : k < 1
    · rw [if_pos hk]
      have e0 : k.toNat = 0 := by omega
      rw [e0] at q
      exact ⟨by decide, .str Str.empty, H, I.tok _, ⟨_, rfl⟩, q⟩
    · rw [if_neg hk]
      by_cases h1' : k = 1
      · subst h1'
        have e0 : (List.replicate (1 : Int).toNat c).flatten = c := by simp
        rw [e0] at q
        exact ⟨.str (ofT c), H, I, ⟨_, rfl⟩, q⟩
      · have e1 : (k == 1 || (ofT c).length == 0) = false := by
          rw [hl]
          have : ¬ c.length = 0 := by omega
          simp [h1', this]
        rw [if_neg (by rw [e1]; decide)]
        have es : (⟨(List.replicate k.toNat (ofT c).cps).foldl (· ++ ·) #[]⟩ : Str) = ofT (List.replicate k.toNat c).flatten := by
          unfold ofT
          congr 1
          exact fold_rep _ _
        rw [es]
        refine ⟨?_, .str (ofT (List.replicate k.toNat c).flatten), H, I.tok _, ⟨_, rfl⟩, q⟩
        show (ofT _).cps.size ≤ sizeLine
        unfold ofT
        rw [sizeLine_eq, List.size_toArray, flat_lenR]
        have : k.toNat * c.length ≤ 1000 * 16 := Nat.mul_le_mul (by omega) hc2
        omega
end PyI
set_option autoImplicit false
set_option linter.all false
set_option Elab.async false
set_option maxRecDepth 100000
set_option maxHeartbeats 4000000
namespace PyI
open PySem PySem.Spec PyProof.Rows L2
variable {X : Cx}
theorem ofT_len (s : Txt) : (ofT s).length = s.length := by show s.toArray.size = _; simp
theorem ofT_app (s t : Txt) : ofT s ++ ofT t = ofT (s ++ t) := by
  show Str.append _ _ = _
  unfold Str.append ofT
  simp
theorem ofT_list (s : Txt) : (ofT s).cps.toList = s := by unfold ofT; simp
theorem big_eq : sizeLine = big := sizeLine_eq
theorem ofT_one (c : Nat) : ofT [c] = ⟨#[c]⟩ := rfl

def OpSnd (X : Cx) (f : Value → Value → Sem Value) (g : PV → PV → Store → PQ → Prop) : Prop :=
  ∃ r : R2, OpR X f r ∧ ∀ (x y : PV) (S : Store) (Q : PQ) (α : List Addr) (H : Hp) (x' y' : V) (Q' : VK), g x y S Q → Sim X.K S α H → VR X.K α H x x' → VR X.K α H y y' → Post X.K α H Q Q' → r x' y' H Q'
theorem snd_add : OpSnd X (binaryOp .Add) (binop .add) := by
  refine ⟨_, ((op_add.or op_add_str).or op_cat).or op_catT, fun x y S Q α H x' y' Q' h s rx ry po => ?_⟩
  cases x <;> cases y <;> first | exact (show False from h).elim | skip
  · cases rx; cases ry
    exact .inl (.inl (.inl ⟨_, _, rfl, rfl, po _ _ _ _ _ h Le.refl s (.int _)⟩))
  · cases rx; cases ry
    obtain ⟨h1, h2⟩ := h
    refine .inl (.inl (.inr ⟨_, _, rfl, rfl, by rw [ofT_len, ofT_len, big_eq]; exact h1, ?_⟩))
    rw [ofT_app]
    exact po _ _ _ _ _ h2 Le.refl s (.str _)
  · cases rx with | tup ha r1 => cases ry with | tup hb r2 =>
    obtain ⟨e1, e2, e3, q⟩ := h
    have l1 := r1.length
    have l2 := r2.length
    refine .inr ⟨_, _, _, _, rfl, rfl, ha, hb, ?_, ?_, fun e => ?_, ?_⟩
    · intro e; rw [e] at l1; exact e1 (List.length_eq_zero_iff.mp l1)
    · rw [← l1, ← l2, big_eq]; unfold big; omega
    · exfalso; rw [e] at l2; exact e2 (List.length_eq_zero_iff.mp l2)
    · intro _ p hp; exact post_tup s po hp (r1.append r2) q
  · cases rx with | ref ra => cases ry with | ref rb =>
    obtain ⟨a, b, e1, e2, e3, q⟩ := h
    obtain ⟨va, h1, r1⟩ := s.lst e1 ra
    obtain ⟨vb, h2, r2⟩ := s.lst e2 rb
    refine .inl (.inr ⟨_, _, _, _, rfl, rfl, h1, h2, by rw [← r1.length, ← r2.length, big_eq]; exact e3, fun p hp => ?_⟩)
    exact post_new s po hp (r1.append r2) q
theorem snd_sub : OpSnd X (binaryOp .Sub) (binop .sub) := by
  refine ⟨_, op_sub, fun x y S Q α H x' y' Q' h s rx ry po => ?_⟩
  cases x <;> cases y <;> first | exact (show False from h).elim | skip
  cases rx; cases ry
  exact ⟨_, _, rfl, rfl, po _ _ _ _ _ h Le.refl s (.int _)⟩
theorem snd_div : OpSnd X (binaryOp .FloorDiv) (binop .div) := by
  refine ⟨_, op_fdiv, fun x y S Q α H x' y' Q' h s rx ry po => ?_⟩
  cases x <;> cases y <;> first | exact (show False from h).elim | skip
  cases rx; cases ry
  obtain ⟨h1, h2, q⟩ := h
  exact ⟨_, _, rfl, rfl, ⟨h1, h2⟩, po _ _ _ _ _ q Le.refl s (.int _)⟩
theorem snd_mod : OpSnd X (binaryOp .Mod) (binop .mod) := by
  refine ⟨_, op_mod, fun x y S Q α H x' y' Q' h s rx ry po => ?_⟩
  cases x <;> cases y <;> first | exact (show False from h).elim | skip
  cases rx; cases ry
  obtain ⟨h1, q⟩ := h
  exact ⟨_, _, rfl, rfl, h1, po _ _ _ _ _ q Le.refl s (.int _)⟩
theorem snd_pow : OpSnd X (binaryOp .Pow) (binop .pow) := by
  refine ⟨_, op_pow, fun x y S Q α H x' y' Q' h s rx ry po => ?_⟩
  cases x <;> cases y <;> first | exact (show False from h).elim | skip
  cases rx; cases ry
  obtain ⟨h1, h2, h3, q⟩ := h
  exact ⟨_, _, rfl, rfl, ⟨h1, by omega, h3⟩, po _ _ _ _ _ q Le.refl s (.int _)⟩
theorem snd_mul : OpSnd X (binaryOp .Mult) (binop .mul) := by
  refine ⟨_, (((op_mul.or op_mulW).or op_repS).or op_repT).or op_rep, fun x y S Q α H x' y' Q' h s rx ry po => ?_⟩
  cases x <;> cases y <;> first | exact (show False from h).elim | skip
  · cases rx; cases ry
    obtain ⟨h1, q⟩ := h
    have fin : Q' (.int _) H := po _ _ _ _ _ q Le.refl s (.int _)
    rcases h1 with h1 | h1 | ⟨h1, h2⟩
    · exact .inl (.inl (.inl (.inl ⟨_, _, rfl, rfl, .inl h1, fin⟩)))
    · exact .inl (.inl (.inl (.inl ⟨_, _, rfl, rfl, .inr h1, fin⟩)))
    · exact .inl (.inl (.inl (.inr ⟨_, _, rfl, rfl, wide_mul h1 h2 (by decide) (by decide) (by decide), fin⟩)))
  · cases rx; cases ry
    obtain ⟨h1, h2, h3, q⟩ := h
    refine .inl (.inl (.inr ⟨_, _, rfl, rfl, h1, h2, h3, ?_⟩))
    exact po _ _ _ _ _ q Le.refl s (.str _)
  · cases rx with | tup ha r =>
    cases ry
    obtain ⟨h0, h1, h2, h3, q⟩ := h
    refine .inl (.inr ⟨_, _, _, rfl, rfl, ha, ?_, h1, h2, by rw [← r.length]; exact h3, fun p hp => ?_⟩)
    · intro e; subst e; cases r; exact h0 rfl
    · exact post_tup s po hp (r.rep _) q
  · cases rx with | ref ra =>
    cases ry
    obtain ⟨a, e1, h1, h2, h3, q⟩ := h
    obtain ⟨va, hh, r1⟩ := s.lst e1 ra
    refine .inr ⟨_, _, _, rfl, rfl, hh, by omega, by omega, by rw [← r1.length, big_eq]; exact h3, fun p hp => ?_⟩
    exact post_new s po hp (r1.rep _) q
theorem snd_bin (op : BOp) : OpSnd X (binaryOp (opB op)) (binop op) := by
  cases op
  · exact snd_add
  · exact snd_sub
  · exact snd_mul
  · exact snd_div
  · exact snd_mod
  · exact snd_pow

/-! ### dicts -/
theorem KVR.lkp {K : PySem.W.Frag} {α : List Addr} {H : Hp} {k : Txt} : ∀ {kvs : List (Txt × PV)} {vs : List (Key × V)}, KVR K α H kvs vs →
    (lkp kvs k = none ∧ valV vs (.inr (ofT k)) = none) ∨ ∃ d v, lkp kvs k = some d ∧ valV vs (.inr (ofT k)) = some v ∧ VR K α H d v
  | _, _, .nil => .inl ⟨rfl, rfl⟩
  | _, _, .cons (k := k') (d := d) (v := v) (ds := ds) (vs := vs) r t => by
    by_cases e : k' = k
    · subst e
      exact .inr ⟨d, v, by unfold PyI.lkp; simp, by rw [valV_pos rfl], r⟩
    · have e2 : ¬ ((Sum.inr (ofT k') : Key) = Sum.inr (ofT k)) := fun q => e (ofT_inj (Sum.inr.inj q))
      have l1 : PyI.lkp ((k', d) :: ds) k = PyI.lkp ds k := by unfold PyI.lkp; rw [List.find?_cons_of_neg (by simpa using e)]
      rw [l1, valV_neg e2]
      exact KVR.lkp t
theorem KVR.any {K : PySem.W.Frag} {α : List Addr} {H : Hp} {k : Txt} : ∀ {kvs : List (Txt × PV)} {vs : List (Key × V)}, KVR K α H kvs vs →
    (vs.any fun kv => decide (kv.1 = (.inr (ofT k) : Key))) = kvs.any fun kv => decide (kv.1 = k)
  | _, _, .nil => rfl
  | _, _, .cons (k := k') (d := d) (v := v) (ds := ds) (vs := vs) r t => by
    rw [List.any_cons, List.any_cons, KVR.any t]
    congr 1
    by_cases e : k' = k
    · subst e; simp
    · have e2 : ¬ ((Sum.inr (ofT k') : Key) = Sum.inr (ofT k)) := fun q => e (ofT_inj (Sum.inr.inj q))
      rw [decide_eq_false e, decide_eq_false e2]
theorem KVR.repl {K : PySem.W.Frag} {α : List Addr} {H : Hp} {k : Txt} {d0 : PV} {v0 : V} (r0 : VR K α H d0 v0) : ∀ {kvs : List (Txt × PV)} {vs : List (Key × V)}, KVR K α H kvs vs →
    KVR K α H (kvs.map fun kv => if kv.1 = k then (kv.1, d0) else kv) (vs.map fun kv => if kv.1 = (.inr (ofT k) : Key) then (kv.1, v0) else kv)
  | _, _, .nil => .nil
  | _, _, .cons (k := k') (d := d) (v := v) (ds := ds) (vs := vs) r t => by
    rw [List.map_cons, List.map_cons]
    by_cases e : k' = k
    · subst e
      rw [if_pos rfl, if_pos rfl]
      exact .cons r0 (KVR.repl r0 t)
    · have e2 : ¬ ((Sum.inr (ofT k') : Key) = Sum.inr (ofT k)) := fun q => e (ofT_inj (Sum.inr.inj q))
      rw [if_neg e, if_neg e2]
      exact .cons r (KVR.repl r0 t)
theorem KVR.append {K : PySem.W.Frag} {α : List Addr} {H : Hp} : ∀ {kvs kvs2 : List (Txt × PV)} {vs vs2 : List (Key × V)}, KVR K α H kvs vs → KVR K α H kvs2 vs2 → KVR K α H (kvs ++ kvs2) (vs ++ vs2)
  | _, _, _, _, .nil, q => q
  | _, _, _, _, .cons r t, q => .cons r (KVR.append t q)
theorem KVR.put {K : PySem.W.Frag} {α : List Addr} {H : Hp} {k : Txt} {d : PV} {v : V} {kvs : List (Txt × PV)} {vs : List (Key × V)} (h : KVR K α H kvs vs) (r : VR K α H d v) : KVR K α H (putD kvs k d) (putK vs (.inr (ofT k)) v) := by
  unfold putD putK
  rw [h.any]
  split
  · exact h.repl r
  · exact h.append (.cons r .nil)

/-! ### comparisons -/
def opC : COp → CmpOp
  | .eq => .Eq | .ne => .NotEq | .lt => .Lt | .le => .LtE | .gt => .Gt | .ge => .GtE | .is => .Is | .isn => .IsNot | .isin => .In | .nin => .NotIn
theorem dec_ofT (a b : Txt) : decide (V.str (ofT a) = V.str (ofT b)) = decide (a = b) := by
  by_cases h : a = b
  · subst h; simp
  · have : ¬ V.str (ofT a) = V.str (ofT b) := fun e => h (ofT_inj (V.str.inj e))
    rw [decide_eq_false h, decide_eq_false this]
theorem dec_intV (a b : Int) : decide (V.int a = V.int b) = decide (a = b) := by
  by_cases h : a = b
  · subst h; simp
  · have : ¬ V.int a = V.int b := fun e => h (V.int.inj e)
    rw [decide_eq_false h, decide_eq_false this]
theorem snd_eqD {S : Store} {x y : PV} {Q : PQ} {α : List Addr} {H : Hp} {x' y' : V} {Q' : VK} (h : ∃ d e, Dn S 60 x d ∧ Dn S 60 y e ∧ Q (.bl (d.eqv e)) S) (s : Sim X.K S α H) (rx : VR X.K α H x x') (ry : VR X.K α H y y') (po : Post X.K α H Q Q') : rEqD X.K x' y' H Q' := by
  obtain ⟨d, e, h1, h2, q⟩ := h
  refine ⟨toD d, toD e, h1.dp s rx, h2.dp s ry, h1.shaped, h2.shaped, ?_⟩
  rw [eqv_toD]
  exact po _ _ _ _ _ q Le.refl s (.bl _)
theorem snd_neD {S : Store} {x y : PV} {Q : PQ} {α : List Addr} {H : Hp} {x' y' : V} {Q' : VK} (h : ∃ d e, Dn S 60 x d ∧ Dn S 60 y e ∧ Q (.bl (!d.eqv e)) S) (s : Sim X.K S α H) (rx : VR X.K α H x x') (ry : VR X.K α H y y') (po : Post X.K α H Q Q') : rNeD X.K x' y' H Q' := by
  obtain ⟨d, e, h1, h2, q⟩ := h
  refine ⟨toD d, toD e, h1.dp s rx, h2.dp s ry, h1.shaped, h2.shaped, ?_⟩
  rw [eqv_toD]
  exact po _ _ _ _ _ q Le.refl s (.bl _)
theorem snd_eq (hu : X.A.units + 64 < cLine) : OpSnd X (compareOp .Eq) (cmpop .eq) := by
  refine ⟨_, op_eq.or (op_eqD hu), fun x y S Q α H x' y' Q' h s rx ry po => ?_⟩
  cases x <;> cases y <;> first | exact .inr (snd_eqD h s rx ry po) | skip
  · cases rx; cases ry
    refine .inl ⟨rfl, ?_⟩
    rw [dec_intV]
    exact po _ _ _ _ _ h Le.refl s (.bl _)
  · cases rx; cases ry
    refine .inl ⟨rfl, ?_⟩
    rw [dec_ofT]
    exact po _ _ _ _ _ h Le.refl s (.bl _)
theorem snd_ne (hu : X.A.units + 64 < cLine) : OpSnd X (compareOp .NotEq) (cmpop .ne) := by
  refine ⟨_, op_ne.or (op_neD hu), fun x y S Q α H x' y' Q' h s rx ry po => ?_⟩
  cases x <;> cases y <;> first | exact .inr (snd_neD h s rx ry po) | skip
  · cases rx; cases ry
    refine .inl ⟨rfl, ?_⟩
    rw [dec_intV]
    exact po _ _ _ _ _ h Le.refl s (.bl _)
  · cases rx; cases ry
    refine .inl ⟨rfl, ?_⟩
    rw [dec_ofT]
    exact po _ _ _ _ _ h Le.refl s (.bl _)
def rLtD (K : PySem.W.Frag) : R2 := fun x y H Q => ∃ d e, Dp K H x d ∧ Dp K H y e ∧ PySem.W.alike d e = true ∧ d ≠ .none ∧ d.depth ≤ 60 ∧ Q (.bl (PySem.W.dataLt d e)) H
theorem op_ltD (hu : X.A.units + 65 < cLine) : OpR X (compareOp .Lt) (rLtD X.K) := by
  intro pins s σ H x y v u Q J r1 r2 hyp
  obtain ⟨d, e, hd, he, hal, hn, hdep, q⟩ := hyp
  obtain ⟨as, ra⟩ := Dp.reads J d x v hd r1
  obtain ⟨bs, rb⟩ := Dp.reads J e y u he r2
  exact PySem.W.rcLt_alike d e X.A s v u as bs ra rb hal hn (by have := Nat.min_le_left d.depth e.depth; omega) X.prog X.w X.xe _ ⟨V.bl (PySem.W.dataLt d e), H, J, rfl, q⟩
def rLeD (K : PySem.W.Frag) : R2 := fun x y H Q => ∃ d e, Dp K H x d ∧ Dp K H y e ∧ PySem.W.alike d e = true ∧ d ≠ .none ∧ d.depth ≤ 60 ∧ Q (.bl (!PySem.W.dataLt e d)) H
theorem op_leD (hu : X.A.units + 65 < cLine) : OpR X (compareOp .LtE) (rLeD X.K) := by
  intro pins s σ H x y v u Q J r1 r2 hyp
  obtain ⟨d, e, hd, he, hal, hn, hdep, q⟩ := hyp
  obtain ⟨as, ra⟩ := Dp.reads J d x v hd r1
  obtain ⟨bs, rb⟩ := Dp.reads J e y u he r2
  exact PySem.W.rcLe_alike d e X.A s v u as bs ra rb hal hn (by have := Nat.min_le_left d.depth e.depth; omega) X.prog X.w X.xe _ ⟨V.bl (!PySem.W.dataLt e d), H, J, rfl, q⟩
def rGtD (K : PySem.W.Frag) : R2 := fun x y H Q => ∃ d e, Dp K H x d ∧ Dp K H y e ∧ PySem.W.alike d e = true ∧ d ≠ .none ∧ d.depth ≤ 60 ∧ Q (.bl (PySem.W.dataLt e d)) H
theorem op_gtD (hu : X.A.units + 65 < cLine) : OpR X (compareOp .Gt) (rGtD X.K) := by
  intro pins s σ H x y v u Q J r1 r2 hyp
  obtain ⟨d, e, hd, he, hal, hn, hdep, q⟩ := hyp
  obtain ⟨as, ra⟩ := Dp.reads J d x v hd r1
  obtain ⟨bs, rb⟩ := Dp.reads J e y u he r2
  exact PySem.W.rcGt_alike d e X.A s v u as bs ra rb hal hn (by have := Nat.min_le_left d.depth e.depth; omega) X.prog X.w X.xe _ ⟨V.bl (PySem.W.dataLt e d), H, J, rfl, q⟩
def rGeD (K : PySem.W.Frag) : R2 := fun x y H Q => ∃ d e, Dp K H x d ∧ Dp K H y e ∧ PySem.W.alike d e = true ∧ d ≠ .none ∧ d.depth ≤ 60 ∧ Q (.bl (!PySem.W.dataLt d e)) H
theorem op_geD (hu : X.A.units + 65 < cLine) : OpR X (compareOp .GtE) (rGeD X.K) := by
  intro pins s σ H x y v u Q J r1 r2 hyp
  obtain ⟨d, e, hd, he, hal, hn, hdep, q⟩ := hyp
  obtain ⟨as, ra⟩ := Dp.reads J d x v hd r1
  obtain ⟨bs, rb⟩ := Dp.reads J e y u he r2
  exact PySem.W.rcGe_alike d e X.A s v u as bs ra rb hal hn (by have := Nat.min_le_left d.depth e.depth; omega) X.prog X.w X.xe _ ⟨V.bl (!PySem.W.dataLt d e), H, J, rfl, q⟩
theorem toD_non {d : Dt} (h : d ≠ .non) : toD d ≠ .none := by
  intro e
  cases d <;> simp only [toD] at e <;> first | (exact h rfl) | cases e
theorem snd_lt (hu : X.A.units + 65 < cLine) : OpSnd X (compareOp .Lt) (cmpop .lt) := by
  refine ⟨_, (op_lt.or op_lt_str).or (op_ltD hu), fun x y S Q α H x' y' Q' h s rx ry po => ?_⟩
  cases x <;> cases y <;> first | exact (show False from h).elim | skip
  · cases rx; cases ry
    exact .inl (.inl ⟨_, _, rfl, rfl, po _ _ _ _ _ h Le.refl s (.bl _)⟩)
  · cases rx; cases ry
    refine .inl (.inr ⟨_, _, rfl, rfl, ?_⟩)
    rw [ofT_list, ofT_list]
    exact po _ _ _ _ _ h Le.refl s (.bl _)
  · obtain ⟨d, e, h1, h2, hal, hn, q⟩ := h
    exact .inr ⟨toD d, toD e, h1.dp s rx, h2.dp s ry, hal, toD_non hn, h1.shape.2, po _ _ _ _ _ q Le.refl s (.bl _)⟩
theorem snd_le (hu : X.A.units + 65 < cLine) : OpSnd X (compareOp .LtE) (cmpop .le) := by
  refine ⟨_, (op_le.or op_le_str).or (op_leD hu), fun x y S Q α H x' y' Q' h s rx ry po => ?_⟩
  cases x <;> cases y <;> first | exact (show False from h).elim | skip
  · cases rx; cases ry
    exact .inl (.inl ⟨_, _, rfl, rfl, po _ _ _ _ _ h Le.refl s (.bl _)⟩)
  · cases rx; cases ry
    refine .inl (.inr ⟨_, _, rfl, rfl, ?_⟩)
    rw [ofT_list, ofT_list]
    exact po _ _ _ _ _ h Le.refl s (.bl _)
  · obtain ⟨d, e, h1, h2, hal, hn, q⟩ := h
    exact .inr ⟨toD d, toD e, h1.dp s rx, h2.dp s ry, hal, toD_non hn, h1.shape.2, po _ _ _ _ _ q Le.refl s (.bl _)⟩
theorem snd_gt (hu : X.A.units + 65 < cLine) : OpSnd X (compareOp .Gt) (cmpop .gt) := by
  refine ⟨_, (op_gt.or op_gt_str).or (op_gtD hu), fun x y S Q α H x' y' Q' h s rx ry po => ?_⟩
  cases x <;> cases y <;> first | exact (show False from h).elim | skip
  · cases rx; cases ry
    exact .inl (.inl ⟨_, _, rfl, rfl, po _ _ _ _ _ h Le.refl s (.bl _)⟩)
  · cases rx; cases ry
    refine .inl (.inr ⟨_, _, rfl, rfl, ?_⟩)
    rw [ofT_list, ofT_list]
    exact po _ _ _ _ _ h Le.refl s (.bl _)
  · obtain ⟨d, e, h1, h2, hal, hn, q⟩ := h
    exact .inr ⟨toD d, toD e, h1.dp s rx, h2.dp s ry, hal, toD_non hn, h1.shape.2, po _ _ _ _ _ q Le.refl s (.bl _)⟩
theorem snd_ge (hu : X.A.units + 65 < cLine) : OpSnd X (compareOp .GtE) (cmpop .ge) := by
  refine ⟨_, (op_ge.or op_ge_str).or (op_geD hu), fun x y S Q α H x' y' Q' h s rx ry po => ?_⟩
  cases x <;> cases y <;> first | exact (show False from h).elim | skip
  · cases rx; cases ry
    exact .inl (.inl ⟨_, _, rfl, rfl, po _ _ _ _ _ h Le.refl s (.bl _)⟩)
  · cases rx; cases ry
    refine .inl (.inr ⟨_, _, rfl, rfl, ?_⟩)
    rw [ofT_list, ofT_list]
    exact po _ _ _ _ _ h Le.refl s (.bl _)
  · obtain ⟨d, e, h1, h2, hal, hn, q⟩ := h
    exact .inr ⟨toD d, toD e, h1.dp s rx, h2.dp s ry, hal, toD_non hn, h1.shape.2, po _ _ _ _ _ q Le.refl s (.bl _)⟩
theorem snd_is : OpSnd X (compareOp .Is) (cmpop .is) := by
  refine ⟨_, op_isN.or op_isBl, fun x y S Q α H x' y' Q' h s rx ry po => ?_⟩
  cases x <;> cases y <;> first | exact (show False from h).elim | skip
  · cases rx; cases ry; exact .inl ⟨rfl, po _ _ _ _ _ h Le.refl s (.bl _)⟩
  · cases rx; cases ry; exact .inl ⟨rfl, po _ _ _ _ _ h Le.refl s (.bl _)⟩
  · cases rx; cases ry; exact .inr ⟨_, _, rfl, rfl, po _ _ _ _ _ h Le.refl s (.bl _)⟩
  · cases rx; cases ry; exact .inl ⟨rfl, po _ _ _ _ _ h Le.refl s (.bl _)⟩
  · cases rx; cases ry; exact .inl ⟨rfl, po _ _ _ _ _ h Le.refl s (.bl _)⟩
  · cases rx; cases ry; exact .inl ⟨rfl, po _ _ _ _ _ h Le.refl s (.bl _)⟩
  · cases rx; cases ry; exact .inl ⟨rfl, po _ _ _ _ _ h Le.refl s (.bl _)⟩
theorem snd_isn : OpSnd X (compareOp .IsNot) (cmpop .isn) := by
  refine ⟨_, op_notN.or op_notBl, fun x y S Q α H x' y' Q' h s rx ry po => ?_⟩
  cases x <;> cases y <;> first | exact (show False from h).elim | skip
  · cases rx; cases ry; exact .inl ⟨rfl, po _ _ _ _ _ h Le.refl s (.bl _)⟩
  · cases rx; cases ry; exact .inl ⟨rfl, po _ _ _ _ _ h Le.refl s (.bl _)⟩
  · cases rx; cases ry; exact .inr ⟨_, _, rfl, rfl, po _ _ _ _ _ h Le.refl s (.bl _)⟩
  · cases rx; cases ry; exact .inl ⟨rfl, po _ _ _ _ _ h Le.refl s (.bl _)⟩
  · cases rx; cases ry; exact .inl ⟨rfl, po _ _ _ _ _ h Le.refl s (.bl _)⟩
  · cases rx; cases ry; exact .inl ⟨rfl, po _ _ _ _ _ h Le.refl s (.bl _)⟩
  · cases rx; cases ry; exact .inl ⟨rfl, po _ _ _ _ _ h Le.refl s (.bl _)⟩
def rDInV (neg : Bool) : R2 := fun x y H Q => ∃ a o, y = .ref a ∧ DGet H a x o ∧ Q (.bl (if neg then !o.isSome else o.isSome)) H
theorem op_dIn (hu : X.A.units + 1 < cLine) : OpR X (compareOp .In) (rDInV false) := by
  intro pins s σ H x y v u Q I rx ry h
  obtain ⟨a, o, rfl, g, q⟩ := h
  cases ry
  exact d_in hu I g rx fun s' I' => ⟨.bl o.isSome, H, I', rfl, q⟩
theorem op_dNotIn (hu : X.A.units + 1 < cLine) : OpR X (compareOp .NotIn) (rDInV true) := by
  intro pins s σ H x y v u Q I rx ry h
  obtain ⟨a, o, rfl, g, q⟩ := h
  cases ry
  exact d_notIn hu I g rx fun s' I' => ⟨.bl (!o.isSome), H, I', rfl, q⟩
theorem flat_of {K : PySem.W.Frag} {α : List Addr} {H : Hp} {d : PV} {v : V} (r : VR K α H d v) (h : PyI.flat d = true) : flatV v = true := by
  cases r <;> first | rfl | cases h
theorem eqP_of {K : PySem.W.Frag} {α : List Addr} {H : Hp} {d e : PV} {v u : V} (r : VR K α H d v) (q : VR K α H e u) (h : PyI.flat d = true) (h' : PyI.flat e = true) : eqV v u = eqP d e := by
  cases r <;> cases q <;> first | rfl | exact ofT_beq _ _ | cases h | cases h'
theorem flats_of {K : PySem.W.Frag} {α : List Addr} {H : Hp} : ∀ {ds : List PV} {vs : List V}, VRs K α H ds vs → ds.all PyI.flat = true → vs.all flatV = true
  | _, _, .nil, _ => rfl
  | _, _, .cons r t, h => by
    rw [List.all_cons, Bool.and_eq_true] at h ⊢
    exact ⟨flat_of r h.1, flats_of t h.2⟩
theorem inP_of {K : PySem.W.Frag} {α : List Addr} {H : Hp} {x : PV} {u : V} (rx : VR K α H x u) (hx : PyI.flat x = true) : ∀ {ds : List PV} {vs : List V}, VRs K α H ds vs → ds.all PyI.flat = true → inV u vs = inP x ds
  | _, _, .nil, _ => rfl
  | _, _, .cons r t, h => by
    rw [List.all_cons, Bool.and_eq_true] at h
    unfold inV inP
    rw [List.any_cons, List.any_cons, eqP_of r rx h.1 hx]
    have := inP_of rx hx t h.2
    unfold inV inP at this
    rw [this]
theorem toD_any (ds : List Dt) (d : Dt) : ((toDs ds).any fun z => PyData.eqv z (toD d)) = ds.any fun z => z.eqv d := by
  induction ds with
  | nil => rfl
  | cons x r ih => rw [toDs, List.any_cons, List.any_cons, ih, eqv_toD]
def rSgn : R2 := fun x y H Q => ∃ (c : Nat) (z : Str), x = .str ⟨#[c]⟩ ∧ y = .str z ∧ Q (.bl (decide (c ∈ z.cps.toList))) H
def rNSgn : R2 := fun x y H Q => ∃ (c : Nat) (z : Str), x = .str ⟨#[c]⟩ ∧ y = .str z ∧ Q (.bl (!decide (c ∈ z.cps.toList))) H
theorem op_sgn : OpR X (compareOp .In) rSgn := op_in_sign
theorem op_nsgn : OpR X (compareOp .NotIn) rNSgn := op_notIn_sign
theorem snd_in (hu : X.A.units + 65 < cLine) : OpSnd X (compareOp .In) (cmpop .isin) := by
  refine ⟨_, ((op_in_seq.or op_sgn).or (op_dIn (by omega))).or (op_inD hu), fun x y S Q α H x' y' Q' h s rx ry po => ?_⟩
  have tupC : ∀ xs, y = .tup xs → PyI.flat x = true ∧ xs.all PyI.flat = true ∧ Q (.bl (inP x xs)) S → (((rIn X.K false x' y' H Q' ∨ rSgn x' y' H Q') ∨ rDInV false x' y' H Q') ∨ rInD X.K x' y' H Q') := fun xs e h => by
    subst e
    cases ry with | tup ha r =>
    obtain ⟨h1, h2, q⟩ := h
    refine .inl (.inl (.inl ⟨_, _, rfl, .inr ha, flat_of rx h1, flats_of r h2, ?_⟩))
    rw [if_neg (by decide), inP_of rx h1 r h2]
    exact po _ _ _ _ _ q Le.refl s (.bl _)
  have refC : ∀ n, y = .ref n → ((∃ xs, getL S n = some xs ∧ PyI.flat x = true ∧ xs.all PyI.flat = true ∧ Q (.bl (inP x xs)) S) ∨
      (∃ k kvs, x = .str k ∧ getD S n = some kvs ∧ Q (.bl (lkp kvs k).isSome) S) ∨
      (∃ d ds, Dn S 60 x d ∧ Dn S 60 (.ref n) (.lst ds) ∧ Q (.bl (ds.any fun z => z.eqv d)) S)) → (((rIn X.K false x' y' H Q' ∨ rSgn x' y' H Q') ∨ rDInV false x' y' H Q') ∨ rInD X.K x' y' H Q') := fun n e h => by
    subst e
    cases ry with | ref ra =>
    rcases h with ⟨xs, g, h1, h2, q⟩ | ⟨k, kvs, e, g, q⟩ | ⟨d, ds, h1, h2, q⟩
    · obtain ⟨vs, hl, r⟩ := s.getL g ra
      refine .inl (.inl (.inl ⟨_, _, rfl, .inl hl, flat_of rx h1, flats_of r h2, ?_⟩))
      rw [if_neg (by decide), inP_of rx h1 r h2]
      exact po _ _ _ _ _ q Le.refl s (.bl _)
    · subst e
      cases rx
      obtain ⟨vs, hd, r⟩ := s.getD g ra
      refine .inl (.inr ⟨_, valV vs (.inr (ofT k)), rfl, DGet.k (k := .inr (ofT k)) hd, ?_⟩)
      rw [if_neg (by decide)]
      have e : (valV vs (.inr (ofT k))).isSome = (lkp kvs k).isSome := by
        rcases r.lkp (k := k) with ⟨e1, e2⟩ | ⟨d, v, e1, e2, _⟩ <;> rw [e1, e2] <;> rfl
      rw [e]
      exact po _ _ _ _ _ q Le.refl s (.bl _)
    · have p2 := h2.dp s (.ref ra)
      have s2 := h2.shaped
      rw [toD] at p2 s2
      refine .inr ⟨toD d, toDs ds, h1.dp s rx, p2, h1.shaped, s2, ?_⟩
      rw [toD_any]
      exact po _ _ _ _ _ q Le.refl s (.bl _)
  cases y with
  | non => cases x <;> exact (show False from h).elim
  | bl b => cases x <;> exact (show False from h).elim
  | int b => cases x <;> exact (show False from h).elim
  | tup xs => exact tupC xs rfl (by cases x <;> exact h)
  | ref n => exact refC n rfl (by cases x <;> exact h)
  | str t =>
    cases x <;> first | exact (show False from h).elim | skip
    obtain ⟨c, rfl, q⟩ := h
    cases rx; cases ry
    refine .inl (.inl (.inr ⟨c, _, rfl, rfl, ?_⟩))
    rw [ofT_list]
    exact po _ _ _ _ _ q Le.refl s (.bl _)
theorem snd_nin (hu : X.A.units + 65 < cLine) : OpSnd X (compareOp .NotIn) (cmpop .nin) := by
  refine ⟨_, ((op_notIn_seq.or op_nsgn).or (op_dNotIn (by omega))).or (op_notInD hu), fun x y S Q α H x' y' Q' h s rx ry po => ?_⟩
  have tupC : ∀ xs, y = .tup xs → PyI.flat x = true ∧ xs.all PyI.flat = true ∧ Q (.bl (!inP x xs)) S → (((rIn X.K true x' y' H Q' ∨ rNSgn x' y' H Q') ∨ rDInV true x' y' H Q') ∨ rNotInD X.K x' y' H Q') := fun xs e h => by
    subst e
    cases ry with | tup ha r =>
    obtain ⟨h1, h2, q⟩ := h
    refine .inl (.inl (.inl ⟨_, _, rfl, .inr ha, flat_of rx h1, flats_of r h2, ?_⟩))
    rw [if_pos rfl, inP_of rx h1 r h2]
    exact po _ _ _ _ _ q Le.refl s (.bl _)
  have refC : ∀ n, y = .ref n → ((∃ xs, getL S n = some xs ∧ PyI.flat x = true ∧ xs.all PyI.flat = true ∧ Q (.bl (!inP x xs)) S) ∨
      (∃ k kvs, x = .str k ∧ getD S n = some kvs ∧ Q (.bl (!(lkp kvs k).isSome)) S) ∨
      (∃ d ds, Dn S 60 x d ∧ Dn S 60 (.ref n) (.lst ds) ∧ Q (.bl (!ds.any fun z => z.eqv d)) S)) → (((rIn X.K true x' y' H Q' ∨ rNSgn x' y' H Q') ∨ rDInV true x' y' H Q') ∨ rNotInD X.K x' y' H Q') := fun n e h => by
    subst e
    cases ry with | ref ra =>
    rcases h with ⟨xs, g, h1, h2, q⟩ | ⟨k, kvs, e, g, q⟩ | ⟨d, ds, h1, h2, q⟩
    · obtain ⟨vs, hl, r⟩ := s.getL g ra
      refine .inl (.inl (.inl ⟨_, _, rfl, .inl hl, flat_of rx h1, flats_of r h2, ?_⟩))
      rw [if_pos rfl, inP_of rx h1 r h2]
      exact po _ _ _ _ _ q Le.refl s (.bl _)
    · subst e
      cases rx
      obtain ⟨vs, hd, r⟩ := s.getD g ra
      refine .inl (.inr ⟨_, valV vs (.inr (ofT k)), rfl, DGet.k (k := .inr (ofT k)) hd, ?_⟩)
      rw [if_pos rfl]
      have e : (valV vs (.inr (ofT k))).isSome = (lkp kvs k).isSome := by
        rcases r.lkp (k := k) with ⟨e1, e2⟩ | ⟨d, v, e1, e2, _⟩ <;> rw [e1, e2] <;> rfl
      rw [e]
      exact po _ _ _ _ _ q Le.refl s (.bl _)
    · have p2 := h2.dp s (.ref ra)
      have s2 := h2.shaped
      rw [toD] at p2 s2
      refine .inr ⟨toD d, toDs ds, h1.dp s rx, p2, h1.shaped, s2, ?_⟩
      rw [toD_any]
      exact po _ _ _ _ _ q Le.refl s (.bl _)
  cases y with
  | non => cases x <;> exact (show False from h).elim
  | bl b => cases x <;> exact (show False from h).elim
  | int b => cases x <;> exact (show False from h).elim
  | tup xs => exact tupC xs rfl (by cases x <;> exact h)
  | ref n => exact refC n rfl (by cases x <;> exact h)
  | str t =>
    cases x <;> first | exact (show False from h).elim | skip
    obtain ⟨c, rfl, q⟩ := h
    cases rx; cases ry
    refine .inl (.inl (.inr ⟨c, _, rfl, rfl, ?_⟩))
    rw [ofT_list]
    exact po _ _ _ _ _ q Le.refl s (.bl _)
theorem snd_cmp (hu : X.A.units + 65 < cLine) (op : COp) : OpSnd X (compareOp (opC op)) (cmpop op) := by
  cases op
  · exact snd_eq (by omega)
  · exact snd_ne (by omega)
  · exact snd_lt hu
  · exact snd_le hu
  · exact snd_gt hu
  · exact snd_ge hu
  · exact snd_is
  · exact snd_isn
  · exact snd_in hu
  · exact snd_nin hu
end PyI
set_option autoImplicit false
set_option linter.all false
set_option Elab.async false
set_option maxRecDepth 100000
set_option maxHeartbeats 4000000
namespace PyI
open PySem PySem.Spec PyProof.Rows L2
variable {X : Cx}
/-! ### subscripts -/
theorem tail_of {prog : Program} {w : World} {A : Around} {E : Value → Shared → Prop} {s : Shared} {value slice : Expr} {T id : String} {o i : Value} {Q : Value → Shared → Prop}
    (ty : s.TypeIs o T) (lu : typeLookup (.type T) "__getitem__" = pure (some (.builtin id))) (sb : subscripted slice false o i = operate [o, i] (getItem o i))
    (h : wpAny (model prog w) A (getItem o i) Q E s) : wpAny (model prog w) A (subscriptTail value slice o i) Q E s := by
  unfold subscriptTail
  refine wpAny_bind ?_
  rw [getitemInPython_of_ne ty.not_modules]
  refine wpAny_bind (wpAny_specialOf ty lu ?_)
  have rest : wpAny (model prog w) A (subscripted slice false o i) (fun r sa => wpAny (model prog w) A (letTemporaryGo value o r >>= fun _ => pure r) Q E sa) E s := by
    rw [sb]
    exact wpAny_operating (wpAny_mono h (fun r sa ga => wpAny_bind (wpAny_letTemporaryGo (wpAny_pure ga))) fun _ _ x => x)
  first
    | exact wpAny_pure (wpAny_bind rest)
    | exact wpAny_bind (wpAny_pure (wpAny_bind rest))
    | exact wpAny_bind rest
def rIxD : R2 := fun x y H Q => ∃ a v, x = .ref a ∧ DGet H a y (some v) ∧ Q v H
theorem ix_dict (hu : X.A.units + 1 < cLine) : IxR X rIxD := by
  intro value slice pins s σ H x y v u Q I r1 r2 hyp sb
  obtain ⟨a, z, rfl, g, q⟩ := hyp
  cases r1
  exact tail_of (dict_typeIs I g) PySem.F.slot_dict_getitem.lookup sb (d_getItem hu I g r2 fun w' s3 I3 rw' => ⟨z, H, I3, rw', q⟩)
theorem atP_atI {α : Type} {xs : List α} {i : Int} {v : α} (h : atP xs i = some v) : atI xs i = some v := by
  cases i with
  | ofNat k =>
    have h' : xs[k]? = some v := h
    exact atI_nat h'
  | negSucc k =>
    unfold atP at h
    simp only at h
    split at h
    · rename_i hk
      unfold atI ixN
      rw [if_neg (by omega), if_pos (by omega)]
      show xs[(Int.negSucc k + xs.length).toNat]? = some v
      have e : (Int.negSucc k + (xs.length : Int)).toNat = xs.length - (k + 1) := by omega
      rw [e]; exact h
    · cases h
theorem atP_get {K : PySem.W.Frag} {α : List Addr} {H : Hp} {ds : List PV} {vs : List V} (r : VRs K α H ds vs) {i : Int} {d : PV} (h : atP ds i = some d) : ∃ v, atP vs i = some v ∧ VR K α H d v := by
  cases i with
  | ofNat k => exact r.get h
  | negSucc k =>
    unfold atP at h ⊢
    simp only at h ⊢
    rw [← r.length]
    split at h
    · rename_i hk
      rw [if_pos hk]
      exact r.get h
    · cases h
def IxSnd (X : Cx) : Prop :=
  ∃ r : R2, IxR X r ∧ ∀ (x y : PV) (S : Store) (Q : PQ) (α : List Addr) (H : Hp) (x' y' : V) (Q' : VK), subop x y S Q → Sim X.K S α H → VR X.K α H x x' → VR X.K α H y y' → Post X.K α H Q Q' → r x' y' H Q'
theorem snd_sub_ix (hu : X.A.units + 1 < cLine) : IxSnd X := by
  refine ⟨_, ix_seq.or (ix_dict hu), fun x y S Q α H x' y' Q' h s rx ry po => ?_⟩
  cases x <;> cases y <;> first | exact (show False from h).elim | skip
  · cases rx; cases ry
    obtain ⟨hl, c, e, q⟩ := h
    refine .inl (.inr (.inr ⟨_, _, c, rfl, rfl, by rw [ofT_len, big_eq]; exact hl, ?_, ?_⟩))
    · rw [ofT_list]; exact atP_atI e
    · exact po _ _ _ _ _ q Le.refl s (.str [c])
  · cases rx with | tup ha r =>
    cases ry
    obtain ⟨v, e, q⟩ := h
    obtain ⟨v', e', rv⟩ := atP_get r e
    exact .inl (.inr (.inl ⟨_, _, _, v', rfl, rfl, ha, atP_atI e', post_same s po rv q⟩))
  · cases rx with | ref ra =>
    cases ry
    obtain ⟨xs, v, g, e, q⟩ := h
    obtain ⟨vs, hl, r⟩ := s.getL g ra
    obtain ⟨v', e', rv⟩ := atP_get r e
    exact .inl (.inl ⟨_, _, _, v', rfl, rfl, hl, atP_atI e', post_same s po rv q⟩)
  · rename_i n k
    cases rx with | ref ra =>
    cases ry
    obtain ⟨kvs, v, g, e, q⟩ := h
    obtain ⟨vs, hd, r⟩ := s.getD g ra
    rcases r.lkp (k := k) with ⟨e1, _⟩ | ⟨d, v', e1, e2, rv⟩
    · rw [e] at e1; cases e1
    · rw [e] at e1; cases e1
      refine .inr ⟨_, v', rfl, ?_, post_same s po rv q⟩
      rw [← e2]
      exact DGet.k (k := .inr (ofT k)) hd
/-! ### slices -/
theorem sIx_eq (n d : Nat) (o : Option Int) : sIx n d o = HT.sIx n d o := rfl
theorem cut_of {K : PySem.W.Frag} {α : List Addr} {H : Hp} {ds : List PV} {vs : List V} (r : VRs K α H ds vs) (lo hi : Option Int) : VRs K α H (cut ds lo hi) (cutV vs lo hi) := by
  unfold cut cutV
  rw [← r.length]
  exact (r.drop _).take _
theorem cutS_of (s : Txt) (lo hi : Option Int) : cutS (ofT s) lo hi = ofT (cut s lo hi) := by
  unfold cutS cut
  rw [ofT_list, ofT_len]
  rfl
def SlSnd (X : Cx) : Prop :=
  ∃ r : V → Option Int → Option Int → Hp → VK → Prop, SlR X r ∧ ∀ (x : PV) (lo hi : Option Int) (S : Store) (Q : PQ) (α : List Addr) (H : Hp) (x' : V) (Q' : VK), cutop x lo hi S Q → Sim X.K S α H → VR X.K α H x x' → Post X.K α H Q Q' → r x' lo hi H Q'
theorem snd_cut : SlSnd X := by
  refine ⟨_, (sl_list.or sl_tupA).or sl_str, fun x lo hi S Q α H x' Q' h s rx po => ?_⟩
  cases x <;> first | exact (show False from h).elim | skip
  · cases rx
    obtain ⟨hl, q⟩ := h
    refine .inr ⟨_, rfl, by rw [ofT_len, big_eq]; exact hl, ?_⟩
    rw [cutS_of]
    exact po _ _ _ _ _ q Le.refl s (.str _)
  · rename_i l
    cases rx with | tup ha r =>
    refine .inl (.inr ⟨_, _, rfl, ha, fun e => ?_, fun e p hp => ?_⟩)
    · have ec : cut l lo hi = l := by
        unfold cut
        rw [r.length, sIx_eq, sIx_eq, e.1, e.2, List.drop_zero, Nat.sub_zero, ← r.length, List.take_length]
      have h' : Q (.tup (cut l lo hi)) S := h
      rw [ec] at h'
      exact post_same s po (.tup ha r) h'
    · exact post_tup s po hp (cut_of r lo hi) h
  · cases rx with | ref ra =>
    obtain ⟨xs, g, q⟩ := h
    obtain ⟨vs, hl, r⟩ := s.getL g ra
    exact .inl (.inl ⟨_, _, rfl, hl, fun p hp => post_new s po hp (cut_of r lo hi) q⟩)
/-! ### built-ins -/
theorem numT_of {i : Int} (h : 0 ≤ i) : ((toString i : String) : Str) = ofT (numT i.toNat) := by
  have e : i = ((i.toNat : Nat) : Int) := by omega
  have h1 := TL.tl_num i.toNat
  rw [← e] at h1
  have h2 : (Str.ofString (toString i)).cps.toList = numT i.toNat := h1
  show Str.ofString (toString i) = _
  unfold ofT
  rw [← h2]
def rLenD : List V → Hp → VK → Prop := fun xs H Q => ∃ (a : Addr) (kvs : List (Key × V)), xs = [.ref a] ∧ H a = some (.dK kvs) ∧ Q (.int kvs.length) H
theorem call_lenDk : CallR X (.builtin "len") rLenD := by
  intro pins s σ H xs us Q I rl h
  obtain ⟨a, kvs, rfl, e, q⟩ := h
  obtain ⟨u, rfl, rx⟩ := vals1 rl
  cases rx
  exact d_len I (.inl e) fun t s' I' => ⟨.int kvs.length, H, I', ⟨t, rfl⟩, q⟩
def CallSnd (X : Cx) (f : Value) (g : List PV → Store → PQ → Prop) : Prop :=
  ∃ r : List V → Hp → VK → Prop, CallR X f r ∧ ∀ (xs : List PV) (S : Store) (Q : PQ) (α : List Addr) (H : Hp) (xs' : List V) (Q' : VK), g xs S Q → Sim X.K S α H → VRs X.K α H xs xs' → Post X.K α H Q Q' → r xs' H Q'
theorem snd_len : CallSnd X (.builtin "len") (bltop .len) := by
  refine ⟨_, call_len.or call_lenDk, fun xs S Q α H xs' Q' h s r po => ?_⟩
  match xs, h, r with
  | [.str t], h, .cons (.str _) .nil =>
    exact .inl ⟨_, t.length, rfl, ⟨by rw [ofT_len, big_eq]; exact h.1, (ofT_len t).symm⟩, po _ _ _ _ _ h.2 Le.refl s (.int _)⟩
  | [.tup t], h, .cons (.tup ha r) .nil =>
    exact .inl ⟨_, t.length, rfl, .inr ⟨_, ha, r.length⟩, po _ _ _ _ _ h Le.refl s (.int _)⟩
  | [.ref n], h, .cons (.ref ra) .nil =>
    rcases h with ⟨xs, g, q⟩ | ⟨kvs, g, q⟩
    · obtain ⟨vs, hl, r⟩ := s.getL g ra
      exact .inl ⟨_, xs.length, rfl, .inl ⟨_, hl, r.length⟩, po _ _ _ _ _ q Le.refl s (.int _)⟩
    · obtain ⟨vs, hl, r⟩ := s.getD g ra
      refine .inr ⟨_, _, rfl, hl, ?_⟩
      rw [← r.length]
      exact po _ _ _ _ _ q Le.refl s (.int _)
theorem log2_lt {n k : Nat} (h : n < 2 ^ k) (h0 : 0 < k) : n.log2 < k := by
  by_cases hn : n = 0
  · subst hn; simpa using h0
  · exact (Nat.log2_lt hn).mpr h
theorem snd_str : CallSnd X (.type "str") (bltop .str) := by
  refine ⟨_, call_str_int, fun xs S Q α H xs' Q' h s r po => ?_⟩
  match xs, h, r with
  | [.int i], h, .cons (.int _) .nil =>
    obtain ⟨h1, h2, q⟩ := h
    refine ⟨i, rfl, Nat.lt_of_lt_of_le (log2_lt (k := 64) (by omega) (by decide)) (by decide), ?_⟩
    rw [numT_of h1]
    exact po _ _ _ _ _ q Le.refl s (.str _)
theorem snd_tuple : CallSnd X (.type "tuple") (bltop .tuple) := by
  refine ⟨_, call_tuple_of, fun xs S Q α H xs' Q' h s r po => ?_⟩
  match xs, h, r with
  | [.tup t], h, .cons (.tup ha r) .nil => exact ⟨_, _, rfl, .inr ⟨ha, post_same s po (.tup ha r) h⟩⟩
  | [.ref n], h, .cons (.ref ra) .nil =>
    obtain ⟨xs, g, q⟩ := h
    obtain ⟨vs, hl, r⟩ := s.getL g ra
    exact ⟨_, _, rfl, .inl ⟨hl, fun p hp => post_tup s po hp r q⟩⟩
theorem snd_list : CallSnd X (.type "list") (bltop .list) := by
  refine ⟨_, call_list_of, fun xs S Q α H xs' Q' h s r po => ?_⟩
  match xs, h, r with
  | [.tup t], h, .cons (.tup ha r) .nil => exact ⟨_, _, rfl, .inr ha, fun p hp => post_new s po hp r h⟩
  | [.ref n], h, .cons (.ref ra) .nil =>
    obtain ⟨xs, g, q⟩ := h
    obtain ⟨vs, hl, r⟩ := s.getL g ra
    exact ⟨_, _, rfl, .inl hl, fun p hp => post_new s po hp r q⟩
theorem ints_of {K : PySem.W.Frag} {α : List Addr} {H : Hp} : ∀ {ns : List Int} {vs : List V}, VRs K α H (ns.map PV.int) vs → vs = ns.map V.int
  | [], _, .nil => rfl
  | n :: r, _, .cons (.int _) t => by rw [ints_of t]; rfl
theorem bls_of {K : PySem.W.Frag} {α : List Addr} {H : Hp} : ∀ {ns : List Bool} {vs : List V}, VRs K α H (ns.map PV.bl) vs → vs = ns.map V.bl
  | [], _, .nil => rfl
  | n :: r, _, .cons (.bl _) t => by rw [bls_of t]; rfl
theorem strs_of {K : PySem.W.Frag} {α : List Addr} {H : Hp} : ∀ {ns : List Txt} {vs : List V}, VRs K α H (ns.map PV.str) vs → vs = (ns.map ofT).map V.str
  | [], _, .nil => rfl
  | n :: r, _, .cons (.str _) t => by rw [strs_of t]; rfl
theorem snd_sum (hc : X.calm = true) : CallSnd X (.builtin "sum") (bltop .sum) := by
  refine ⟨_, cr_sum hc, fun xs S Q α H xs' Q' h s r po => ?_⟩
  match xs, h, r with
  | [.ref n], h, .cons (.ref ra) .nil =>
    obtain ⟨ns, g, q⟩ := h
    obtain ⟨vs, hl, r⟩ := s.getL g ra
    rw [ints_of r] at hl
    exact ⟨_, ns, rfl, hl, po _ _ _ _ _ q Le.refl s (.int _)⟩
theorem snd_all (hc : X.calm = true) : CallSnd X (.builtin "all") (bltop .all) := by
  refine ⟨_, cr_all hc, fun xs S Q α H xs' Q' h s r po => ?_⟩
  match xs, h, r with
  | [.ref n], h, .cons (.ref ra) .nil =>
    obtain ⟨ns, g, q⟩ := h
    obtain ⟨vs, hl, r⟩ := s.getL g ra
    rw [bls_of r] at hl
    exact ⟨_, ns, rfl, hl, po _ _ _ _ _ q Le.refl s (.bl _)⟩
theorem snd_any (hc : X.calm = true) : CallSnd X (.builtin "any") (bltop .any) := by
  refine ⟨_, cr_any hc, fun xs S Q α H xs' Q' h s r po => ?_⟩
  match xs, h, r with
  | [.ref n], h, .cons (.ref ra) .nil =>
    obtain ⟨ns, g, q⟩ := h
    obtain ⟨vs, hl, r⟩ := s.getL g ra
    rw [bls_of r] at hl
    exact ⟨_, ns, rfl, hl, po _ _ _ _ _ q Le.refl s (.bl _)⟩
theorem snd_int : CallSnd X (.type "int") (bltop .int) := by
  refine ⟨_, call_int_str, fun xs S Q α H xs' Q' h s r po => ?_⟩
  match xs, h, r with
  | [.str t], h, .cons (.str _) .nil =>
    obtain ⟨n, h1, h2, q⟩ := h
    exact ⟨_, n, rfl, h1, by rw [ofT_len]; exact h2, po _ _ _ _ _ q Le.refl s (.int _)⟩
def minG : List PV → Store → PQ → Prop := fun vs S Q => bltop .min vs S Q ∨ bltop .min2 vs S Q
def maxG : List PV → Store → PQ → Prop := fun vs S Q => bltop .max vs S Q ∨ bltop .max2 vs S Q
theorem snd_min (hc : X.calm = true) : CallSnd X (.builtin "min") minG := by
  refine ⟨_, (cr_min hc).or (call_min2 hc), fun xs S Q α H xs' Q' h s r po => ?_⟩
  rcases h with h | h
  · match xs, h, r with
    | [.ref n], h, .cons (.ref ra) .nil =>
      obtain ⟨ns, g, h0, q⟩ := h
      obtain ⟨vs, hl, r⟩ := s.getL g ra
      rw [ints_of r] at hl
      exact .inl ⟨_, ns, rfl, hl, h0, fun m h1 h2 => po _ _ _ _ _ (q m h1 h2) Le.refl s (.int _)⟩
  · match xs, h, r with
    | [.int i, .int j], h, .cons (.int _) (.cons (.int _) .nil) => exact .inr ⟨i, j, rfl, po _ _ _ _ _ h Le.refl s (.int _)⟩
theorem snd_max (hc : X.calm = true) : CallSnd X (.builtin "max") maxG := by
  refine ⟨_, (cr_max hc).or (call_max2 hc), fun xs S Q α H xs' Q' h s r po => ?_⟩
  rcases h with h | h
  · match xs, h, r with
    | [.ref n], h, .cons (.ref ra) .nil =>
      obtain ⟨ns, g, h0, q⟩ := h
      obtain ⟨vs, hl, r⟩ := s.getL g ra
      rw [ints_of r] at hl
      exact .inl ⟨_, ns, rfl, hl, h0, fun m h1 h2 => po _ _ _ _ _ (q m h1 h2) Le.refl s (.int _)⟩
  · match xs, h, r with
    | [.int i, .int j], h, .cons (.int _) (.cons (.int _) .nil) => exact .inr ⟨i, j, rfl, po _ _ _ _ _ h Le.refl s (.int _)⟩
/-! ### isinstance -/
theorem tyx_tup {K : PySem.W.Frag} {H : Hp} {a : Addr} {vs : List V} (h : SqT K H a vs) : TyX K H (.ref a) (.type "tuple") := by
  rcases h with (h | ⟨o, h⟩) | ⟨o, its, n, e, c, _⟩
  · exact .base (.tup h)
  · exact .fTuple h
  · exact .kTuple e c
theorem tyx_lst {K : PySem.W.Frag} {H : Hp} {a : Addr} {vs : List V} (h : SqL K H a vs) : TyX K H (.ref a) (.type "list") := by
  rcases h with (h | ⟨o, h⟩) | ⟨o, its, n, e, c, _⟩
  · exact .base (.lst h)
  · exact .base (.frz h)
  · exact .kList e c
def isiG (T : String) (g : String → Bool) : List PV → Store → PQ → Prop := fun vs S Q => match vs with
  | [.non] => Q (.bl (g "NoneType")) S
  | [.bl _] => Q (.bl (g "bool")) S
  | [.int _] => Q (.bl (g "int")) S
  | [.str _] => Q (.bl (g "str")) S
  | [.tup _] => Q (.bl (g "tuple")) S
  | [.ref n] => (∃ xs, getL S n = some xs ∧ Q (.bl (g "list")) S) ∨ (∃ kvs, getD S n = some kvs ∧ Q (.bl (g "dict")) S)
  | _ => False
theorem snd_isi (T : String) (g : String → Bool) (hg : ∀ t ∈ ["NoneType", "bool", "int", "str", "tuple", "list", "dict"], kitB t T = some (g t)) (xs : List PV) (S : Store) (Q : PQ) (α : List Addr) (H : Hp) (xs' : List V) (Q' : VK)
    (h : isiG T g xs S Q) (s : Sim X.K S α H) (r : VRs X.K α H xs xs') (po : Post X.K α H Q Q') : rIsi X.K (xs' ++ [.ty T]) H Q' := by
  have fin : ∀ (x : V) (t : String), t ∈ ["NoneType", "bool", "int", "str", "tuple", "list", "dict"] → TyX X.K H x (.type t) → Q (.bl (g t)) S → rIsi X.K [x, .ty T] H Q' := fun x t ht ty q =>
    ⟨x, _, _, _, g t, rfl, .ty T, ty, kit_ty (hg t ht), po _ _ _ _ _ q Le.refl s (.bl _)⟩
  match xs, xs', h, r with
  | [.non], _, h, .cons .non .nil => exact fin _ _ (by simp) (.base .non) h
  | [.bl b], _, h, .cons (.bl _) .nil => exact fin _ _ (by simp) (.base (.bl b)) h
  | [.int i], _, h, .cons (.int _) .nil => exact fin _ _ (by simp) (.base (.int i)) h
  | [.str t], _, h, .cons (.str _) .nil => exact fin _ _ (by simp) (.base (.str _)) h
  | [.tup _], _, h, .cons (.tup ha _) .nil => exact fin _ _ (by simp) (tyx_tup ha) h
  | [.ref n], _, h, .cons (.ref ra) .nil =>
    rcases h with ⟨xs, g1, q⟩ | ⟨kvs, g1, q⟩
    · obtain ⟨vs, hl, _⟩ := s.getL g1 ra
      exact fin _ _ (by simp) (tyx_lst hl) q
    · obtain ⟨vs, hl, _⟩ := s.getD g1 ra
      exact fin _ _ (by simp) (.base (.dK hl)) q
theorem kit_int : ∀ t ∈ ["NoneType", "bool", "int", "str", "tuple", "list", "dict"], kitB t "int" = some (t == "int" || t == "bool") := by decide +kernel
theorem kit_bool : ∀ t ∈ ["NoneType", "bool", "int", "str", "tuple", "list", "dict"], kitB t "bool" = some (t == "bool") := by decide +kernel
theorem kit_str : ∀ t ∈ ["NoneType", "bool", "int", "str", "tuple", "list", "dict"], kitB t "str" = some (t == "str") := by decide +kernel
theorem kit_tuple : ∀ t ∈ ["NoneType", "bool", "int", "str", "tuple", "list", "dict"], kitB t "tuple" = some (t == "tuple") := by decide +kernel
/-! ### dict(pairs) -/
theorem pairs_split {K : PySem.W.Frag} {α : List Addr} {H : Hp} : ∀ {kvs : List (Txt × PV)} {vs : List V}, VRs K α H (kvs.map fun q => PV.tup [.str q.1, q.2]) vs →
    ∃ (ps : List Addr) (kv : List (Key × V)), vs = ps.map V.ref ∧ Paired (fun p q => SqT K H p [kV q.1, q.2]) ps kv ∧ KVR K α H kvs kv
  | [], _, .nil => ⟨[], [], rfl, .nil, .nil⟩
  | (k, d) :: r, _, .cons hd t => by
    have hd' : VR K α H (.tup [.str k, d]) _ := hd
    cases hd' with | tup ha hh =>
    rename_i a vs
    cases hh with | cons h1 h2 =>
    cases h1
    cases h2 with | cons rv h3 =>
    cases h3
    rename_i v
    obtain ⟨ps, kv, e, h1, h2⟩ := pairs_split t
    exact ⟨a :: ps, (.inr (ofT k), v) :: kv, by rw [e]; rfl, .cons ha h1, .cons rv h2⟩
theorem kvr_merge {K : PySem.W.Frag} {α : List Addr} {H : Hp} : ∀ {more : List (Txt × PV)} {ws : List (Key × V)} {kvs : List (Txt × PV)} {vs : List (Key × V)}, KVR K α H more ws → KVR K α H kvs vs → KVR K α H (more.foldl (fun d q => putD d q.1 q.2) kvs) (mergeK vs ws)
  | [], _, _, _, .nil, h => h
  | (k, d) :: r, _, _, _, .cons rv t, h => by
    unfold mergeK
    rw [List.foldl_cons, List.foldl_cons]
    exact kvr_merge t (h.put rv)
theorem snd_dictP (hc : X.calm = true) : CallSnd X (.type "dict") (bltop .dictP) := by
  refine ⟨_, call_dictP hc, fun xs S Q α H xs' Q' h s r po => ?_⟩
  match xs, h, r with
  | [.ref n], h, .cons (.ref ra) .nil =>
    obtain ⟨kvs, g, q⟩ := h
    obtain ⟨vs, hl, r⟩ := s.getL g ra
    obtain ⟨ps, kv, rfl, h1, h2⟩ := pairs_split r
    exact ⟨_, ps, kv, rfl, hl, h1, fun p hp => post_newK s po hp (kvr_merge h2 .nil) q⟩
theorem kit_list : ∀ t ∈ ["NoneType", "bool", "int", "str", "tuple", "list", "dict"], kitB t "list" = some (t == "list") := by decide +kernel
theorem kit_seq {K : PySem.W.Frag} {t : String} (h : t ∈ ["NoneType", "bool", "int", "str", "tuple", "list", "dict"]) : PySem.W.kitAny K (.type t) [.type "list", .type "tuple"] = some (t == "list" || t == "tuple") := by
  have h1 := kit_list t h
  have h2 := kit_tuple t h
  refine kitAny_cons (kit_ty h1) (fun e => ?_) fun e => by rw [e]; rfl
  rw [e, Bool.false_or]
  exact kitAny_cons (kit_ty h2) (fun e => by rw [e]; rfl) fun e => e
end PyI
set_option autoImplicit false
set_option linter.all false
set_option Elab.async false
set_option maxRecDepth 100000
set_option maxHeartbeats 4000000
namespace PyI
open PySem PySem.Spec PyProof.Rows L2
variable {X : Cx}
/-! ### methods -/
def mT : MI → String
  | .append | .extend | .pop | .popAt | .index | .insert | .lcount => "list"
  | .get | .setdefault => "dict"
  | _ => "str"
theorem mty_of {K : PySem.W.Frag} {S : Store} {α : List Addr} {H : Hp} {m : MI} {x : PV} {x' : V} (h : mty m x S) (s : Sim K S α H) (r : VR K α H x x') : tyV K (mT m) x' H := by
  have L : (∃ n xs, x = .ref n ∧ getL S n = some xs) → tyV K "list" x' H := fun ⟨n, xs, e, g⟩ => by
    subst e
    cases r with | ref ra =>
    obtain ⟨vs, hl, _⟩ := s.getL g ra
    exact .inl ⟨rfl, _, hl⟩
  have D : (∃ n xs, x = .ref n ∧ getD S n = some xs) → tyV K "dict" x' H := fun ⟨n, xs, e, g⟩ => by
    subst e
    cases r with | ref ra =>
    obtain ⟨vs, hl, _⟩ := s.getD g ra
    exact .inr (.inr (.inl ⟨rfl, .inl ⟨_, hl⟩⟩))
  have T : (∃ t, x = .str t) → tyV K "str" x' H := fun ⟨t, e⟩ => by
    subst e
    cases r
    rfl
  cases m <;> first | exact L h | exact D h | exact T h
def MtSnd (X : Cx) (id : String) (g : PV → List PV → Store → PQ → Prop) : Prop :=
  ∃ r : V → List V → Hp → VK → Prop, MtR X id r ∧ ∀ (x : PV) (xs : List PV) (S : Store) (Q : PQ) (α : List Addr) (H : Hp) (x' : V) (xs' : List V) (Q' : VK), g x xs S Q → Sim X.K S α H → VR X.K α H x x' → VRs X.K α H xs xs' → Post X.K α H Q Q' → r x' xs' H Q'
theorem post_set {K : PySem.W.Frag} {S : Store} {α : List Addr} {H : Hp} {Q : PQ} {Q' : VK} {n : Nat} {a : Addr} {xs ys : List PV} {vs ws : List V} {d : PV} {v : V} (s : Sim K S α H) (po : Post K α H Q Q') (h : S[n]? = some (.lst xs)) (ra : α[n]? = some a) (hl : H a = some (.lst vs))
    (r : VRs K α H ys ws) (rv : VR K α H d v) (q : Q d (S.set n (.lst ys))) : Q' v (upd H a (.lst ws)) := by
  have mu : H a = none ∨ Mut (H a) := .inr (by rw [hl]; trivial)
  exact po _ _ α _ _ q (le_upd mu) (s.write h ra rfl ⟨ws, upd_same, r.mono (le_upd mu)⟩) (rv.mono (le_upd mu))
theorem snd_append : MtSnd X "list.append" (methop .append) := by
  refine ⟨_, mt_append, fun x xs S Q α H x' xs' Q' h s rx r po => ?_⟩
  match x, xs, x', xs', h, rx, r with
  | .ref n, [v], _, _, h, .ref ra, .cons rv .nil =>
    obtain ⟨ys, e, hz, q⟩ := h
    obtain ⟨vs, hl, ry⟩ := s.lst e ra
    refine ⟨_, vs, _, rfl, rfl, hl, by rw [← ry.length, big_eq]; exact hz, ?_⟩
    exact post_set s po e ra hl (ry.append (.cons rv .nil)) .non q
theorem snd_extend : MtSnd X "list.extend" (methop .extend) := by
  refine ⟨_, mt_extend, fun x xs S Q α H x' xs' Q' h s rx r po => ?_⟩
  match x, xs, x', xs', h, rx, r with
  | .ref n, [.ref m], _, _, h, .ref ra, .cons (.ref rb) .nil =>
    obtain ⟨ys, zs, e, e2, hz, q⟩ := h
    obtain ⟨vs, hl, ry⟩ := s.lst e ra
    obtain ⟨ws, hl2, ry2⟩ := s.lst e2 rb
    refine ⟨_, _, vs, ws, rfl, rfl, hl, hl2, by rw [← ry.length, ← ry2.length, big_eq]; exact hz, ?_⟩
    exact post_set s po e ra hl (ry.append ry2) .non q
theorem snd_pop : MtSnd X "list.pop" (methop .pop) := by
  refine ⟨_, mt_pop, fun x xs S Q α H x' xs' Q' h s rx r po => ?_⟩
  match x, xs, x', xs', h, rx, r with
  | .ref n, [], _, _, h, .ref ra, .nil =>
    obtain ⟨ys, v, e, hv, q⟩ := h
    obtain ⟨vs, hl, ry⟩ := s.lst e ra
    obtain ⟨w, hw, rw'⟩ := ry.get hv
    refine ⟨_, vs, w, rfl, rfl, hl, by rw [← ry.length]; exact hw, ?_⟩
    exact post_set s po e ra hl ry.dropLast rw' q
theorem snd_popAt : MtSnd X "list.pop" (methop .popAt) := by
  refine ⟨_, mt_popAt, fun x xs S Q α H x' xs' Q' h s rx r po => ?_⟩
  match x, xs, x', xs', h, rx, r with
  | .ref n, [.int i], _, _, h, .ref ra, .cons (.int _) .nil =>
    obtain ⟨ys, k, v, e, rfl, hk, hv, q⟩ := h
    obtain ⟨vs, hl, ry⟩ := s.lst e ra
    obtain ⟨w, hw, rw'⟩ := ry.get hv
    have hlt : k < vs.length := (List.getElem?_eq_some_iff.mp hw).1
    refine ⟨_, vs, _, k, w, rfl, rfl, hl, by simp only [Int.ofNat_eq_natCast]; omega, by simp only [Int.ofNat_eq_natCast]; omega, seqIndex_of (by simp only [Int.ofNat_eq_natCast]; omega) (by simp only [Int.ofNat_eq_natCast]; omega), hw, ?_⟩
    exact post_set s po e ra hl (ry.eraseIdx k) rw' q
theorem snd_index : MtSnd X "list.index" (methop .index) := by
  refine ⟨_, mt_index, fun x xs S Q α H x' xs' Q' h s rx r po => ?_⟩
  match x, xs, x', xs', h, rx, r with
  | .ref n, [y], _, _, h, .ref ra, .cons ry .nil =>
    obtain ⟨ys, j, z, g, f1, f2, hz, e1, e2, q⟩ := h
    obtain ⟨vs, hl, rys⟩ := s.getL g ra
    obtain ⟨z', hz', rz⟩ := rys.get hz
    have fz : PyI.flat z = true := by
      rw [List.all_eq_true] at f2
      exact f2 z (List.mem_of_getElem? hz)
    refine ⟨_, vs, _, j, z', rfl, rfl, hl, flat_of ry f1, flats_of rys f2, hz', by rw [eqP_of rz ry fz f1]; exact e1, fun m w hm hw => ?_, po _ _ _ _ _ q Le.refl s (.int _)⟩
    have hlt : m < ys.length := by rw [rys.length]; exact (List.getElem?_eq_some_iff.mp hw).1
    obtain ⟨w', hw', rw'⟩ := rys.get (List.getElem?_eq_getElem hlt)
    rw [hw] at hw'
    cases hw'
    have fw : PyI.flat ys[m] = true := by
      rw [List.all_eq_true] at f2
      exact f2 _ (List.getElem_mem hlt)
    rw [eqP_of rw' ry fw f1]
    exact e2 m _ hm (List.getElem?_eq_getElem hlt)
theorem occ4 : ∀ j : Fin 4, ∃ rest, Builtin.Str.occurrences (ofT [68, 77, 89, 74]) (ofT [[68, 77, 89, 74].getD j.val 0]) 0 (ofT [68, 77, 89, 74]).length 1 = j.val :: rest := by
  have h : ∀ j : Fin 4, Builtin.Str.occurrences (ofT [68, 77, 89, 74]) (ofT [[68, 77, 89, 74].getD j.val 0]) 0 (ofT [68, 77, 89, 74]).length 1 = [j.val] := by decide +kernel
  exact fun j => ⟨[], h j⟩
theorem snd_sindex : MtSnd X "str.index" (methop .sindex) := by
  refine ⟨_, mt_sindex, fun x xs S Q α H x' xs' Q' h s rx r po => ?_⟩
  match x, xs, x', xs', h, rx, r with
  | .str a, [.str b], _, _, h, .str _, .cons (.str _) .nil =>
    obtain ⟨rfl, j, c, hj, rfl, q⟩ := h
    have hlt : j < 4 := (List.getElem?_eq_some_iff.mp hj).1
    obtain ⟨rest, e⟩ := occ4 ⟨j, hlt⟩
    have ec : ([68, 77, 89, 74] : List Nat).getD j 0 = c := by rw [List.getD_eq_getElem?_getD, hj]; rfl
    simp only [ec] at e
    exact ⟨_, _, j, rest, rfl, rfl, e, po _ _ _ _ _ q Le.refl s (.int _)⟩
theorem joinL_eq (a : Txt) : ∀ ys : List Txt, TL.joinL a ys = joinT a ys
  | [] => rfl
  | [_] => rfl
  | x :: y :: r => by
    show x ++ (a ++ TL.joinL a (y :: r)) = x ++ a ++ joinT a (y :: r)
    rw [joinL_eq a (y :: r), List.append_assoc]
theorem tl_ofT (ys : List Txt) : (ys.map ofT).map TL.tl = ys := by
  induction ys with
  | nil => rfl
  | cons x r ih =>
    rw [List.map_cons, List.map_cons, ih]
    congr 1
theorem snd_join : MtSnd X "str.join" (methop .join) := by
  refine ⟨_, mt_join, fun x xs S Q α H x' xs' Q' h s rx r po => ?_⟩
  match x, xs, x', xs', h, rx, r with
  | .str a, [.ref n], _, _, h, .str _, .cons (.ref ra) .nil =>
    obtain ⟨ys, g, hz, q⟩ := h
    obtain ⟨vs, hl, rys⟩ := s.getL g ra
    rw [strs_of rys] at hl
    refine ⟨_, _, ys.map ofT, rfl, rfl, .inl hl, ?_, ?_⟩
    · have e1 : (ys.map ofT).map (·.length) = ys.map (·.length) := by
        rw [List.map_map]
        exact List.map_congr_left fun z _ => ofT_len z
      rw [e1, ofT_len, List.length_map]
      exact hz
    · have e : Txt.join (ofT a) (ys.map ofT) = ofT (joinT a ys) := by
        have h1 := TL.tl_join (ofT a) (ys.map ofT)
        rw [tl_ofT] at h1
        have h2 : TL.tl (ofT a) = a := ofT_list a
        rw [h2, joinL_eq] at h1
        have h3 : (Str.join (ofT a) (ys.map ofT)).cps.toList = joinT a ys := h1
        rw [TL.join_eq]
        unfold ofT at h3 ⊢
        rw [← h3]
      rw [e]
      exact po _ _ _ _ _ q Le.refl s (.str _)
theorem alpha_of {a : Txt} (h : ascii a) : Txt.isalpha (ofT a) = alpha a := by
  unfold Txt.isalpha alpha
  rw [ofT_len]
  congr 1
  · cases a <;> simp
  · show (ofT a).cps.all _ = _
    rw [← Array.all_toList, ofT_list]
    have go : ∀ l : List Nat, (∀ c ∈ l, c < 128) → l.all Unicode.isAlpha = l.all fun c => (65 ≤ c && c ≤ 90) || (97 ≤ c && c ≤ 122) := by
      intro l
      induction l with
      | nil => intro _; rfl
      | cons c r ih =>
        intro hl
        rw [List.all_cons, List.all_cons, ih fun d hd => hl d (List.mem_cons_of_mem _ hd), cls_isalpha c (hl c List.mem_cons_self)]
        congr 1
        have inr : ∀ lo hi : Nat, inR lo hi ⟨#[c]⟩ = (decide (lo ≤ c) && decide (c ≤ hi)) := fun lo hi => by
          unfold inR
          simp [ltCps]
          by_cases h1 : c < lo <;> by_cases h2 : hi < c <;> simp [h1, h2] <;> omega
        rw [inr, inr]
    exact go a h
theorem snd_isalpha : MtSnd X "str.isalpha" (methop .isalpha) := by
  refine ⟨_, mt_isalpha, fun x xs S Q α H x' xs' Q' h s rx r po => ?_⟩
  match x, xs, x', xs', h, rx, r with
  | .str a, [], _, _, h, .str _, .nil =>
    obtain ⟨h1, q⟩ := h
    refine ⟨_, rfl, rfl, trivial, ?_⟩
    rw [alpha_of h1]
    exact po _ _ _ _ _ q Le.refl s (.bl _)
def rDGet2 : V → List V → Hp → VK → Prop := fun x xs H Q => ∃ a y z o, x = .ref a ∧ xs = [y, z] ∧ DGet H a y o ∧ Q (o.getD z) H
theorem mt_dget2 (hu : X.A.units + 1 < cLine) : MtR X "dict.get" rDGet2 := by
  intro pins s σ H x xs v us Q I rx rv h
  obtain ⟨a, y, z, o, rfl, rfl, g, q⟩ := h
  cases rx
  obtain ⟨u, w, rfl, ry, rz⟩ := vals2 rv
  exact d_get2 hu I g ry rz fun w' s' I' rw' => ⟨_, H, I', rw', q⟩
theorem snd_get (hu : X.A.units + 1 < cLine) : MtSnd X "dict.get" (methop .get) := by
  refine ⟨_, mt_dget2 hu, fun x xs S Q α H x' xs' Q' h s rx r po => ?_⟩
  match x, xs, x', xs', h, rx, r with
  | .ref n, [.str k, z], _, _, h, .ref ra, .cons (.str _) (.cons rz .nil) =>
    obtain ⟨kvs, g, q⟩ := h
    obtain ⟨vs, hd, r⟩ := s.getD g ra
    refine ⟨_, _, _, valV vs (.inr (ofT k)), rfl, rfl, DGet.k (k := .inr (ofT k)) hd, ?_⟩
    rcases r.lkp (k := k) with ⟨e1, e2⟩ | ⟨d, v, e1, e2, rv⟩
    · rw [e2]; rw [e1] at q; exact post_same s po rz q
    · rw [e2]; rw [e1] at q; exact post_same s po rv q
def rDSet2 : V → List V → Hp → VK → Prop := fun x xs H Q => ∃ a k z kvs, x = .ref a ∧ xs = [kV k, z] ∧ H a = some (.dK kvs) ∧ kvs.length < sizeLine ∧
  (∀ v, valV kvs k = some v → Q v H) ∧ (valV kvs k = none → Q z (upd H a (.dK (putK kvs k z))))
theorem mt_dset2 : MtR X "dict.setdefault" rDSet2 := by
  intro pins s σ H x xs v us Q I rx rv h
  obtain ⟨a, k, z, kvs, rfl, rfl, e, hl, q1, q2⟩ := h
  cases rx
  obtain ⟨u, w, rfl, ry, rz⟩ := vals2 rv
  exact d_setd I e ry rz hl (fun v hv w' s' I' rw' => ⟨_, H, I', rw', q1 v hv⟩) fun hv w' s' I' rw' => ⟨_, _, I', rw', q2 hv⟩
theorem snd_setdefault : MtSnd X "dict.setdefault" (methop .setdefault) := by
  refine ⟨_, mt_dset2, fun x xs S Q α H x' xs' Q' h s rx r po => ?_⟩
  match x, xs, x', xs', h, rx, r with
  | .ref n, [.str k, z], _, _, h, .ref (a := a) ra, .cons (.str _) (.cons rz .nil) =>
    obtain ⟨kvs, g, hl, q⟩ := h
    obtain ⟨vs, hd, r⟩ := s.getD g ra
    refine ⟨_, .inr (ofT k), _, vs, rfl, rfl, hd, by rw [← r.length, big_eq]; exact hl, fun v hv => ?_, fun hv => ?_⟩
    · rcases r.lkp (k := k) with ⟨e1, e2⟩ | ⟨d, v', e1, e2, rv⟩
      · rw [e2] at hv; cases hv
      · rw [e2] at hv; cases hv
        rcases q with ⟨d', ed, q⟩ | ⟨en, _⟩
        · rw [e1] at ed; cases ed
          exact post_same s po rv q
        · rw [e1] at en; cases en
    · rcases r.lkp (k := k) with ⟨e1, e2⟩ | ⟨d, v', e1, e2, rv⟩
      · rcases q with ⟨d', ed, _⟩ | ⟨_, q⟩
        · rw [e1] at ed; cases ed
        · have mu : H a = none ∨ Mut (H a) := .inr (by rw [hd]; trivial)
          exact po _ _ α _ _ q (le_upd mu) (s.write (getD_cases g) ra rfl ⟨_, upd_same, (r.mono (le_upd mu)).put (rz.mono (le_upd mu))⟩) (rz.mono (le_upd mu))
      · rw [e2] at hv; cases hv
/-! ### more methods of texts and lists -/
theorem starts_eq (a b : Txt) : Txt.startswith (ofT a) (ofT b) = b.isPrefixOf a := by
  unfold Txt.startswith
  rw [PySem.StrLaws.subAt_eq]
  have e1 : (ofT a).cps.toList = a := ofT_list a
  have e2 : (ofT b).cps.toList = b := ofT_list b
  rw [e1, e2, ofT_len, ofT_len, List.drop_zero]
  cases h : b.isPrefixOf a with
  | true =>
    obtain ⟨r, rfl⟩ := List.isPrefixOf_iff_prefix.mp h
    simp
  | false =>
    rw [Bool.and_eq_false_iff]
    refine Or.inr (Bool.eq_false_iff.mpr fun z => ?_)
    have z := eq_of_beq z
    have : b <+: a := List.prefix_iff_eq_take.mpr z.symm
    rw [List.isPrefixOf_iff_prefix.mpr this] at h
    cases h
theorem snd_startswith : MtSnd X "str.startswith" (methop .startswith) := by
  refine ⟨_, mt_startswith, fun x xs S Q α H x' xs' Q' h s rx r po => ?_⟩
  match x, xs, x', xs', h, rx, r with
  | .str a, [.str b], _, _, h, .str _, .cons (.str _) .nil =>
    refine ⟨_, _, rfl, rfl, ?_⟩
    rw [starts_eq]
    exact post_same s po (.bl _) h
theorem snd_insert : MtSnd X "list.insert" (methop .insert) := by
  refine ⟨_, mt_insert, fun x xs S Q α H x' xs' Q' h s rx r po => ?_⟩
  match x, xs, x', xs', h, rx, r with
  | .ref n, [.int i, v], _, _, h, .ref ra, .cons (.int _) (.cons rv .nil) =>
    obtain ⟨ys, e, rfl, hz, q⟩ := h
    obtain ⟨vs, hl, ry⟩ := s.lst e ra
    refine ⟨_, vs, 0, _, rfl, rfl, hl, by rw [← ry.length, big_eq]; exact hz, by decide, by decide, ?_⟩
    exact post_set s po e ra hl (.cons rv ry) .non q
theorem splitT_ne (c : Nat) : ∀ a : Txt, splitT c a ≠ []
  | [] => by simp [splitT]
  | x :: r => by
    rw [splitT]
    split
    · simp
    · split <;> simp
theorem spl_eq (c : Nat) : ∀ (a acc : Txt), TL.spl [c] 0 acc a = match splitT c a with
    | [] => []
    | y :: t => (acc ++ y) :: t
  | [], acc => by rw [TL.spl_nil]; simp [splitT]
  | x :: r, acc => by
    by_cases h : x = c
    · subst h
      rw [TL.spl_hit (by simp [TL.pre]), splitT, if_pos rfl]
      have := spl_eq x r []
      rw [show ([x] : List Nat).length - 1 = 0 from rfl, this]
      cases splitT x r <;> simp
    · rw [TL.spl_miss (by simp [TL.pre, h]), spl_eq c r (acc ++ [x]), splitT, if_neg h]
      cases hs : splitT c r with
      | nil => exact absurd hs (splitT_ne c r)
      | cons y t => simp
theorem split_eq (a : Txt) (c : Nat) (hc : c < 256) : Txt.split (ofT a) (ofT [c]) = (splitT c a).map ofT := by
  have e := SX.split_S (a := a) (b := [c]) (by simp) (by simpa using hc)
  have e2 : TL.spl [c] 0 [] a = splitT c a := by
    rw [spl_eq]
    cases splitT c a <;> simp
  rw [e2] at e
  exact e
theorem vrs_ofT {K : PySem.W.Frag} {α : List Addr} {H : Hp} : ∀ l : List Txt, VRs K α H (l.map PV.str) ((l.map ofT).map V.str)
  | [] => .nil
  | s :: r => .cons (.str s) (vrs_ofT r)
theorem snd_split : MtSnd X "str.split" (methop .split) := by
  refine ⟨_, mt_split, fun x xs S Q α H x' xs' Q' h s rx r po => ?_⟩
  match x, xs, x', xs', h, rx, r with
  | .str a, [.str b], _, _, h, .str _, .cons (.str _) .nil =>
    obtain ⟨c, rfl, hc, hl, q⟩ := h
    refine ⟨_, _, rfl, rfl, by simp [ofT_len], by rw [ofT_len, big_eq]; show _ ≤ 16777216; omega, fun p hp => ?_⟩
    rw [split_eq a c hc]
    exact post_new s po hp (vrs_ofT _) q
theorem par_eq (c : Nat) : ∀ (a acc : Txt), TL.par [c] acc a = if c ∈ a then some (acc ++ (partT c a).1, (partT c a).2.2) else none
  | [], acc => by simp [TL.par]
  | x :: r, acc => by
    by_cases h : x = c
    · subst h
      rw [TL.par, if_pos (by simp [TL.pre]), if_pos (by simp), partT, if_pos rfl]
      simp
    · rw [TL.par, if_neg (by simp [TL.pre, h]), par_eq c r (acc ++ [x]), partT, if_neg h]
      have h2 : c ≠ x := fun z => h z.symm
      by_cases hm : c ∈ r <;> simp [hm, h2]
theorem partT_some {c : Nat} : ∀ {a : Txt}, c ∈ a → (partT c a).2.1 = [c]
  | x :: r, h => by
    rw [partT]
    by_cases hx : x = c
    · rw [if_pos hx]
    · rw [if_neg hx]
      exact partT_some ((List.mem_cons.mp h).resolve_left fun z => hx z.symm)
theorem partT_none {c : Nat} : ∀ {a : Txt}, c ∉ a → partT c a = (a, [], [])
  | [], _ => rfl
  | x :: r, h => by
    rw [partT, if_neg (fun z => h (by rw [z]; exact List.mem_cons_self)), partT_none fun z => h (List.mem_cons_of_mem _ z)]
theorem part_eq (a : Txt) (c : Nat) : Txt.partition (ofT a) (ofT [c]) = (ofT (partT c a).1, ofT (partT c a).2.1, ofT (partT c a).2.2) := by
  have h := par_eq c a []
  by_cases hm : c ∈ a
  · rw [if_pos hm] at h
    have := SX.partition_some (a := a) (b := [c]) (by simp) h
    rw [partT_some hm]
    exact this
  · rw [if_neg hm] at h
    have := SX.partition_none (a := a) (b := [c]) (by simp) h
    rw [partT_none hm]
    exact this
theorem snd_partition : MtSnd X "str.partition" (methop .partition) := by
  refine ⟨_, mt_partition, fun x xs S Q α H x' xs' Q' h s rx r po => ?_⟩
  match x, xs, x', xs', h, rx, r with
  | .str a, [.str b], _, _, h, .str _, .cons (.str _) .nil =>
    obtain ⟨c, rfl, hl, q⟩ := h
    refine ⟨_, _, rfl, rfl, by simp [ofT_len], by rw [ofT_len, big_eq]; show _ ≤ 16777216; omega, fun p hp => ?_⟩
    rw [part_eq]
    exact post_tup s po hp (.cons (.str _) (.cons (.str _) (.cons (.str _) .nil))) q
end PyI
set_option autoImplicit false
set_option linter.all false
set_option Elab.async false
set_option maxRecDepth 100000
set_option maxHeartbeats 4000000
namespace PyI
open PySem PySem.Spec PyProof.Rows L2
/-! ### what is walked -/
def JOk (K : PySem.W.Frag) (J : It) (items : List PV) (keep : Store → Prop) (α0 : List Addr) (H0 : Hp) : Prop :=
  ∀ (α : List Addr) (S : Store) (H : Hp), Le K α0 H0 α H → Sim K S α H → keep S → ∀ i : Nat,
    (∀ x, items[i]? = some x → J.go i H ∧ ∀ v H', J.yld i H v H' → Le K α H α H' ∧ Sim K S α H' ∧ VR K α H' x v) ∧ (items.length ≤ i → J.stop i H)
variable {K : PySem.W.Frag} {α α' : List Addr} {H H' : Hp} {S S' : Store}
theorem jok_list {n : Nat} {a : Addr} {xs : List PV} (ra : α[n]? = some a) : JOk K (Itl K a) xs (fun S' => getL S' n = some xs) α H := fun α' S H' l s k i => by
  obtain ⟨vs, hl, r⟩ := s.getL k (l.al _ _ ra)
  refine ⟨fun x hx => ?_, fun h => ⟨vs, hl, by rw [← r.length]; exact h⟩⟩
  obtain ⟨v, hv, rv⟩ := r.get hx
  refine ⟨⟨vs, v, hl, hv⟩, fun w H2 hy => ?_⟩
  obtain ⟨rfl, f⟩ := hy
  have e := f _ hl
  rw [hv] at e; cases e
  exact ⟨Le.refl, s, rv⟩
theorem jok_tup {a : Addr} {xs : List PV} {vs : List V} (ha : SqT K H a vs) (r : VRs K α H xs vs) : JOk K (Itt K a) xs (fun _ => True) α H := fun α' S H' l s k i => by
  have ha' := l.te _ _ ha
  have r' := r.mono l
  refine ⟨fun x hx => ?_, fun h => ⟨vs, ha', by rw [← r.length]; exact h⟩⟩
  obtain ⟨v, hv, rv⟩ := r'.get hx
  refine ⟨⟨vs, v, ha', hv⟩, fun w H2 hy => ?_⟩
  obtain ⟨rfl, f⟩ := hy
  have e := f _ ha'
  rw [hv] at e; cases e
  exact ⟨Le.refl, s, rv⟩
theorem jok_str {t : Txt} : JOk K (Its (ofT t)) (t.map fun c => .str [c]) (fun _ => True) α H := fun α' S H' l s k i => by
  have hs : (ofT t).cps.size = t.length := ofT_len t
  refine ⟨fun x hx => ?_, fun h => by show (ofT t).cps.size ≤ i; rw [hs]; simpa using h⟩
  rw [List.getElem?_map] at hx
  obtain ⟨c, hc, rfl⟩ := Option.map_eq_some_iff.mp hx
  have hi := (List.getElem?_eq_some_iff.mp hc).1
  refine ⟨by show i < (ofT t).cps.size; rw [hs]; exact hi, fun w H2 hy => ?_⟩
  obtain ⟨rfl, c', hc', rfl⟩ := hy
  have e : c' = c := by
    have : (ofT t).cps[i]? = t[i]? := by unfold ofT; simp
    rw [this, hc] at hc'
    exact (Option.some.inj hc').symm
  subst e
  exact ⟨Le.refl, s, .str [c']⟩
theorem jok_range {lo : Int} {n : Nat} : JOk K (Itr lo n) ((List.range n).map fun k => .int (lo + (k : Nat))) (fun _ => True) α H := fun α' S H' l s k i => by
  refine ⟨fun x hx => ?_, fun h => by show n ≤ i; simpa using h⟩
  rw [List.getElem?_map] at hx
  obtain ⟨c, hc, rfl⟩ := Option.map_eq_some_iff.mp hx
  obtain ⟨hi, e⟩ := List.getElem?_eq_some_iff.mp hc
  simp at hi e
  subst e
  refine ⟨hi, fun w H2 hy => ?_⟩
  obtain ⟨rfl, rfl⟩ := hy
  exact ⟨Le.refl, s, .int _⟩
theorem jok_range0 {n : Nat} : JOk K (Itr 0 n) ((List.range n).map fun k => .int (k : Nat)) (fun _ => True) α H := by
  have h := jok_range (K := K) (α := α) (H := H) (lo := 0) (n := n)
  have e : ((List.range n).map fun k => PV.int (0 + (k : Nat))) = (List.range n).map fun k => .int (k : Nat) := List.map_congr_left fun k _ => by rw [Int.zero_add]
  rw [e] at h
  exact h
theorem jok_rangeC {lo c : Int} {n : Nat} : JOk K (Itc lo c n) ((List.range n).map fun k => .int (lo + (k : Nat) * c)) (fun _ => True) α H := fun α' S' H' l s k i => by
  refine ⟨fun x hx => ?_, fun h => by show n ≤ i; simpa using h⟩
  rw [List.getElem?_map] at hx
  obtain ⟨d, hc, rfl⟩ := Option.map_eq_some_iff.mp hx
  obtain ⟨hi, e⟩ := List.getElem?_eq_some_iff.mp hc
  simp at hi e
  subst e
  exact ⟨hi, fun y H'' hy => by obtain ⟨rfl, rfl⟩ := hy; exact ⟨Le.refl, s, .int _⟩⟩
theorem enum_get : ∀ (xs : List PV) (b i : Nat) (x : PV), (enumW b xs)[i]? = some x → ∃ y, xs[i]? = some y ∧ x = .tup [.int ((b + i : Nat) : Int), y]
  | [], _, _, _, h => by simp [enumW] at h
  | y :: r, b, 0, x, h => by
    simp [enumW] at h
    exact ⟨y, rfl, h.symm⟩
  | y :: r, b, i + 1, x, h => by
    simp only [enumW, List.getElem?_cons_succ] at h
    obtain ⟨z, h1, h2⟩ := enum_get r (b + 1) i x h
    refine ⟨z, by simpa using h1, ?_⟩
    rw [h2]
    congr 3
    omega
theorem enum_len : ∀ (xs : List PV) (b : Nat), (enumW b xs).length = xs.length
  | [], _ => rfl
  | y :: r, b => by simp [enumW, enum_len r]
theorem side_tup {p : Addr} {vs : List V} {xs : List PV} (s : Sim K S α H) (h : H p = none) (r : VRs K α H xs vs) : Le K α H α (upd H p (.tup vs)) ∧ Sim K S α (upd H p (.tup vs)) ∧ VR K α (upd H p (.tup vs)) (.tup xs) (.ref p) :=
  ⟨le_upd (.inl h), s.aside h, .tup (.inl (.inl upd_same)) (r.mono (le_upd (.inl h)))⟩
theorem jok_enum {n : Nat} {a : Addr} {xs : List PV} (ra : α[n]? = some a) : JOk K (Ite K a) (enumW 0 xs) (fun S' => getL S' n = some xs) α H := fun α' S H' l s k i => by
  obtain ⟨vs, hl, r⟩ := s.getL k (l.al _ _ ra)
  refine ⟨fun x hx => ?_, fun h => ⟨vs, hl, by rw [← r.length]; rw [enum_len] at h; exact h⟩⟩
  obtain ⟨y, hy, rfl⟩ := enum_get _ _ _ _ hx
  obtain ⟨v, hv, rv⟩ := r.get hy
  refine ⟨⟨vs, v, hl, hv⟩, fun w H2 hyl => ?_⟩
  obtain ⟨T, z, rfl, hT, rfl, f⟩ := hyl
  have e := f _ hl
  rw [hv] at e; cases e
  rw [Nat.zero_add]
  exact side_tup s hT (.cons (.int _) (.cons rv .nil))
theorem zip_get : ∀ (xs ys : List PV) (i : Nat) (x : PV), (zipW xs ys)[i]? = some x → ∃ y z, xs[i]? = some y ∧ ys[i]? = some z ∧ x = .tup [y, z]
  | [], _, _, _, h => by simp [zipW] at h
  | _ :: _, [], _, _, h => by simp [zipW] at h
  | a :: r, b :: t, 0, x, h => by
    simp [zipW] at h
    exact ⟨a, b, rfl, rfl, h.symm⟩
  | a :: r, b :: t, i + 1, x, h => by
    simp only [zipW, List.getElem?_cons_succ] at h
    obtain ⟨y, z, h1, h2, h3⟩ := zip_get r t i x h
    exact ⟨y, z, by simpa using h1, by simpa using h2, h3⟩
theorem zip_len : ∀ (xs ys : List PV) (i : Nat), (zipW xs ys).length ≤ i → xs.length ≤ i ∨ ys.length ≤ i
  | [], _, _, _ => .inl (Nat.zero_le _)
  | _ :: _, [], _, _ => .inr (Nat.zero_le _)
  | a :: r, b :: t, 0, h => by simp [zipW] at h
  | a :: r, b :: t, i + 1, h => by
    simp only [zipW, List.length_cons] at h ⊢
    rcases zip_len r t i (by omega) with h | h
    · exact .inl (by omega)
    · exact .inr (by omega)
theorem jok_zipL {m n : Nat} {a b : Addr} {xs ys : List PV} (ra : α[m]? = some a) (rb : α[n]? = some b) : JOk K (Itz K a b) (zipW xs ys) (fun S' => getL S' m = some xs ∧ getL S' n = some ys) α H := fun α' S H' l s k i => by
  obtain ⟨vs, hl, r⟩ := s.getL k.1 (l.al _ _ ra)
  obtain ⟨ws, hl2, r2⟩ := s.getL k.2 (l.al _ _ rb)
  refine ⟨fun x hx => ?_, fun h => ⟨vs, ws, hl, hl2, by rw [← r.length, ← r2.length]; exact zip_len _ _ _ h⟩⟩
  obtain ⟨y, z, hy, hz, rfl⟩ := zip_get _ _ _ _ hx
  obtain ⟨v, hv, rv⟩ := r.get hy
  obtain ⟨w, hw, rw'⟩ := r2.get hz
  refine ⟨⟨vs, ws, v, w, hl, hl2, hv, hw⟩, fun u H2 hyl => ?_⟩
  obtain ⟨T, p, q, rfl, hT, rfl, f, g⟩ := hyl
  have e := f _ hl
  have e2 := g _ hl2
  rw [hv] at e; cases e
  rw [hw] at e2; cases e2
  exact side_tup s hT (.cons rv (.cons rw' .nil))
theorem jok_zipT {a b : Addr} {xs ys : List PV} {vs ws : List V} (ha : SqT K H a vs) (r0 : VRs K α H xs vs) (hb : SqT K H b ws) (r1 : VRs K α H ys ws) : JOk K (RZ.ItzT K a b) (zipW xs ys) (fun _ => True) α H := fun α' S H' l s k i => by
  have hl := l.te _ _ ha
  have hl2 := l.te _ _ hb
  have r := r0.mono l
  have r2 := r1.mono l
  refine ⟨fun x hx => ?_, fun h => ⟨vs, ws, hl, hl2, by rw [← r.length, ← r2.length]; exact zip_len _ _ _ h⟩⟩
  obtain ⟨y, z, hy, hz, rfl⟩ := zip_get _ _ _ _ hx
  obtain ⟨v, hv, rv⟩ := r.get hy
  obtain ⟨w, hw, rw'⟩ := r2.get hz
  refine ⟨⟨vs, ws, v, w, hl, hl2, hv, hw⟩, fun u H2 hyl => ?_⟩
  obtain ⟨T, p, q, rfl, hT, rfl, f, g⟩ := hyl
  have e := f _ hl
  have e2 := g _ hl2
  rw [hv] at e; cases e
  rw [hw] at e2; cases e2
  exact side_tup s hT (.cons rv (.cons rw' .nil))
theorem jok_enumT {a : Addr} {xs : List PV} {vs : List V} (ha : SqT K H a vs) (r : VRs K α H xs vs) : JOk K (IteT K a vs.length) (enumW 0 xs) (fun _ => True) α H := fun α' S H' l s k i => by
  have hl := l.te _ _ ha
  have r2 := r.mono l
  refine ⟨fun x hx => ?_, fun h => ⟨vs, hl, rfl, by rw [← r2.length]; rw [enum_len] at h; exact h⟩⟩
  obtain ⟨y, hy, rfl⟩ := enum_get _ _ _ _ hx
  obtain ⟨v, hv, rv⟩ := r2.get hy
  refine ⟨⟨vs, v, hl, rfl, hv⟩, fun w H2 hyl => ?_⟩
  obtain ⟨T, z, rfl, hT, rfl, f⟩ := hyl
  have e := f _ hl
  rw [hv] at e; cases e
  rw [Nat.zero_add]
  exact side_tup s hT (.cons (.int _) (.cons rv .nil))
theorem zip3_get : ∀ (xs ys zs : List PV) (i : Nat) (x : PV), (zip3W xs ys zs)[i]? = some x → ∃ y z u, xs[i]? = some y ∧ ys[i]? = some z ∧ zs[i]? = some u ∧ x = .tup [y, z, u]
  | [], _, _, _, _, h => by simp [zip3W] at h
  | _ :: _, [], _, _, _, h => by simp [zip3W] at h
  | _ :: _, _ :: _, [], _, _, h => by simp [zip3W] at h
  | a :: r, b :: t, c :: q, 0, x, h => by
    simp [zip3W] at h
    exact ⟨a, b, c, rfl, rfl, rfl, h.symm⟩
  | a :: r, b :: t, c :: q, i + 1, x, h => by
    simp only [zip3W, List.getElem?_cons_succ] at h
    obtain ⟨y, z, u, h1, h2, h3, h4⟩ := zip3_get r t q i x h
    exact ⟨y, z, u, by simpa using h1, by simpa using h2, by simpa using h3, h4⟩
theorem zip3_len : ∀ (xs ys zs : List PV), (zip3W xs ys zs).length = min (min xs.length ys.length) zs.length
  | [], _, _ => by simp [zip3W]
  | _ :: _, [], _ => by simp [zip3W]
  | _ :: _, _ :: _, [] => by simp [zip3W]
  | a :: r, b :: t, c :: q => by
    simp only [zip3W, List.length_cons, zip3_len r t q]
    omega
theorem jok_zip3 {m n k : Nat} {a b c : Addr} {xs ys zs : List PV} {vs ws us : List V} (ra : α[m]? = some a) (rb : α[n]? = some b) (rc : α[k]? = some c) (l1 : xs.length = vs.length) (l2 : ys.length = ws.length) (l3 : zs.length = us.length) :
    JOk K (Itz3 K a b c (min (min vs.length ws.length) us.length)) (zip3W xs ys zs) (fun S' => getL S' m = some xs ∧ getL S' n = some ys ∧ getL S' k = some zs) α H := fun α' S H' l s kk i => by
  obtain ⟨vs1, h1, r1⟩ := s.getL kk.1 (l.al _ _ ra)
  obtain ⟨ws1, h2, r2⟩ := s.getL kk.2.1 (l.al _ _ rb)
  obtain ⟨us1, h3, r3⟩ := s.getL kk.2.2 (l.al _ _ rc)
  have e1 := r1.length
  have e2 := r2.length
  have e3 := r3.length
  refine ⟨fun x hx => ?_, fun h => ⟨vs1, ws1, us1, h1, h2, h3, by omega, by rw [zip3_len] at h; omega⟩⟩
  obtain ⟨y, z, u, hy, hz, hu, rfl⟩ := zip3_get _ _ _ _ _ hx
  obtain ⟨v, hv, rv⟩ := r1.get hy
  obtain ⟨w, hw, rw'⟩ := r2.get hz
  obtain ⟨o, ho, ro⟩ := r3.get hu
  refine ⟨⟨vs1, ws1, us1, v, w, o, h1, h2, h3, by omega, hv, hw, ho⟩, fun q H2 hyl => ?_⟩
  obtain ⟨T, p1, p2, p3, rfl, hT, rfl, f, g, j⟩ := hyl
  have f1 := f _ h1
  have f2 := g _ h2
  have f3 := j _ h3
  rw [hv] at f1; cases f1
  rw [hw] at f2; cases f2
  rw [ho] at f3; cases f3
  exact side_tup s hT (.cons rv (.cons rw' (.cons ro .nil)))
/-- the iterator of a value -/
def IterR (X : Cx) (tg : Expr) (r : V → Hp → (It → Hp → Prop) → Prop) : Prop :=
  ∀ (pins : List (Addr × Obj)) (s : Shared) (σ : L2.St) (H : Hp) (x : V) (v : Value) (R : It → Hp → Prop), Inv X pins σ H s → RelV x v → r x H R → wpAny (model X.prog X.w) X.A (pyIter v) (PIE X pins σ tg R) X.xe s
variable {X : Cx} {tg : Expr}
def rItSeq (K : PySem.W.Frag) : V → Hp → (It → Hp → Prop) → Prop := fun x H R => (∃ a xs, x = .ref a ∧ SqL K H a xs ∧ R (Itl K a) H) ∨ (∃ a xs, x = .ref a ∧ SqT K H a xs ∧ R (Itt K a) H) ∨ ∃ t, x = .str t ∧ R (Its t) H
theorem iter_seq : IterR X tg (rItSeq X.K) := by
  intro pins s1 σ H1 x v R I1 r1 h
  rcases h with ⟨a, xs, rfl, sq, q⟩ | ⟨a, xs, rfl, sq, q⟩ | ⟨t, rfl, q⟩
  · cases r1
    obtain ⟨el, rw2, pt, hz⟩ := I1.list sq
    refine wpAny_pyIter_list pt.isList ?_
    refine ⟨_, [s1.heap.objs.size], _, _, H1, rfl, I1.kept (t' := s1.toks) fun b o g => Heap.get?_push_of_some _ g, turn_list a _, ⟨_, Heap.get?_push_size _ rfl, rfl, rfl⟩, fun b mb => ?_, q⟩
    have eb : b = s1.heap.objs.size := by simpa using mb
    subst eb
    exact I1.fpOk Nat.le.refl (I1.hok.fresh Nat.le.refl)
  · cases r1
    obtain ⟨el, rw2, pt, hz⟩ := I1.tuple sq
    refine wpAny_pyIter_tuple (show s1.heap.IsTuple a el.toArray from pt) ?_
    refine ⟨_, [s1.heap.objs.size], _, _, H1, rfl, I1.kept (t' := s1.toks) fun b o g => Heap.get?_push_of_some _ g, turn_tuple a _, ⟨_, Heap.get?_push_size _ rfl, rfl, rfl⟩, fun b mb => ?_, q⟩
    have eb : b = s1.heap.objs.size := by simpa using mb
    subst eb
    exact I1.fpOk Nat.le.refl (I1.hok.fresh Nat.le.refl)
  · obtain ⟨u, rfl⟩ := r1
    cases ha : t.cps.all (· < 128)
    · exact wpAny_pyIter_wide ha (pi_one (tk := s1.toks) I1 _ (turn_str _ t u "str_iterator" (.inr rfl)) ⟨_, Heap.get?_push_size _ rfl, rfl, rfl⟩ q)
    · exact wpAny_pyIter_ascii ha (pi_one (tk := s1.toks) I1 _ (turn_str _ t u "str_ascii_iterator" (.inl rfl)) ⟨_, Heap.get?_push_size _ rfl, rfl, rfl⟩ q)
theorem pi_iter {e : Expr} {te : TE} {r : V → Hp → (It → Hp → Prop) → Prop} (he : PE X e te) (hr : IterR X tg r) : PI X tg e (fun σ H R => te σ H fun x H1 => r x H1 R) := by
  constructor
  intro pins s σ H R I h
  exact thn (he.run pins s σ H _ I h) fun v s1 ⟨x, H1, I1, r1, q1⟩ => hr pins s1 σ H1 x v R I1 r1 q1
/-! ### stores to a[i] -/
theorem PSet.or {X : Cx} {t u : TSet} (h : PSet X t) (h' : PSet X u) : PSet X (fun o i v H Q => t o i v H Q ∨ u o i v H Q) := fun pins s σ H o i v ov iv w Q I a b c q => q.elim (h pins s σ H o i v ov iv w Q I a b c) (h' pins s σ H o i v ov iv w Q I a b c)
def rPutK : TSet := fun o k x H Q => ∃ n H1, o = .ref n ∧ DPut H n k x H1 ∧ Q H1
theorem put_key (hu : X.A.units + 1 < cLine) : PSet X rPutK := by
  intro pins s σ H o i v ov iv u Q J ro ri rv hh
  obtain ⟨a, H', rfl, d, q⟩ := hh
  cases ro
  exact d_setItem hu J d ri rv fun s' I' => ⟨H', I', q⟩
def Post1 (K : PySem.W.Frag) (α : List Addr) (H : Hp) (Q : Store → Prop) (Q' : Hp → Prop) : Prop := ∀ (S' : Store) (α' : List Addr) (H' : Hp), Q S' → Le K α H α' H' → Sim K S' α' H' → Q' H'
theorem idx_ix {n j : Nat} {i : Int} (h : idx n i = some j) : ixN n i = some j ∧ j < n := by
  cases i with
  | ofNat k =>
    unfold idx at h
    simp only at h
    split at h
    · rename_i hk
      cases h
      refine ⟨?_, hk⟩
      unfold ixN
      simp only [Int.ofNat_eq_natCast]
      rw [if_pos (by omega), if_pos (by omega)]
      simp
    · cases h
  | negSucc k =>
    unfold idx at h
    simp only at h
    split at h
    · rename_i hk
      cases h
      refine ⟨?_, by omega⟩
      unfold ixN
      rw [if_neg (by omega), if_pos (by omega)]
      congr 1
      omega
    · cases h
theorem snd_set (hu : X.A.units + 1 < cLine) : ∃ t : TSet, PSet X t ∧ ∀ (o i v : PV) (S : Store) (Q : Store → Prop) (α : List Addr) (H : Hp) (o' i' v' : V) (Q' : Hp → Prop), setop o i v S Q → Sim X.K S α H → VR X.K α H o o' → VR X.K α H i i' → VR X.K α H v v' → Post1 X.K α H Q Q' → t o' i' v' H Q' := by
  refine ⟨_, PSet.or set_list (put_key hu), fun o i v S Q α H o' i' v' Q' h s ro ri rv po => ?_⟩
  match o, i, o', i', h, ro, ri with
  | .ref n, .int k, _, _, h, .ref (a := a) ra, .int _ =>
    obtain ⟨xs, j, e, hj, q⟩ := h
    obtain ⟨vs, hl, r⟩ := s.lst e ra
    have mu : H a = none ∨ Mut (H a) := .inr (by rw [hl]; trivial)
    refine .inl ⟨_, vs, k, j, rfl, rfl, hl, by rw [← r.length]; exact (idx_ix hj).1, ?_⟩
    exact po _ α _ q (le_upd mu) (s.write e ra rfl ⟨_, upd_same, (r.set rv j).mono (le_upd mu)⟩)
  | .ref n, .str k, _, _, h, .ref (a := a) ra, .str _ =>
    obtain ⟨kvs, e, hz, q⟩ := h
    obtain ⟨vs, hl, r⟩ := s.obj n _ a e ra
    have mu : H a = none ∨ Mut (H a) := .inr (by rw [hl]; trivial)
    refine .inr ⟨a, _, rfl, DPut.k (k := .inr (ofT k)) hl (by rw [← r.length, big_eq]; exact hz), ?_⟩
    exact po _ α _ q (le_upd mu) (s.write e ra rfl ⟨_, upd_same, (r.mono (le_upd mu)).put (rv.mono (le_upd mu))⟩)
theorem get_list : PGet X (fun x y H Q => ∃ p xs k v, x = .ref p ∧ y = .int (Int.ofNat k) ∧ k < 2 ^ 60 ∧ SqL X.K H p xs ∧ xs[k]? = some v ∧ Q v H) := by
  intro pins s σ H o i ov iv Q I ro ri h
  obtain ⟨p, xs, k, v, rfl, rfl, hk, hl, hv, q⟩ := h
  cases ro
  obtain ⟨t, rfl⟩ := ri
  obtain ⟨its, r, pl, hz⟩ := I.list hl
  obtain ⟨w, ew, rw'⟩ := r.get hv
  exact wpAny_getItem_list pl.isList (by simp only [Int.ofNat_eq_natCast]; omega) (by simp only [Int.ofNat_eq_natCast]; omega) (by simpa using ew) ⟨v, H, I, rw', q⟩
/-! ### min of a list of data -/
theorem minD_toD (d : Dt) (ds : List Dt) : PySem.W.minD (toD d) (toDs ds) = toD (minDt d ds) := by
  rw [toDs_map]
  unfold PySem.W.minD minDt ltDt
  induction ds generalizing d with
  | nil => rfl
  | cons x r ih =>
    rw [List.map_cons, List.foldl_cons, List.foldl_cons, ← ih]
    congr 1
    split <;> rfl
def rMinDt (K : PySem.W.Frag) : List V → Hp → VK → Prop := fun vs H Q => ∃ (a : Addr) (xs : List V) (d : PyData) (ds : List PyData), vs = [V.ref a] ∧ SqL K H a xs ∧ DpAll K H xs (d :: ds) ∧ PySem.W.AlikeAll (d :: ds) ∧ PyData.depthAll (d :: ds) ≤ 50 ∧
  ∀ (i : Nat) (x : V), xs[i]? = some x → (d :: ds)[i]? = some (PySem.W.minD d ds) → Q x H
theorem reads_all_get {h : Heap} : ∀ {vs : List Value} {ds : List PyData} {as : List Addr}, ReadsAll h vs ds as → ∀ (i : Nat) (v : Value), vs[i]? = some v → ∃ d bs, ds[i]? = some d ∧ Reads h v d bs
  | _, _, _, .nil, i, v, e => by simp at e
  | _, _, _, .cons r rs, 0, v, e => by
    have : v = _ := (Option.some.inj e).symm
    subst this
    exact ⟨_, _, rfl, r⟩
  | _, _, _, .cons r rs, i + 1, v, e => reads_all_get rs i v (by simpa using e)
theorem cr_minDt {X : Cx} (hc : X.calm = true) (hu : X.A.units + 65 < cLine) : CallR X (.builtin "min") (rMinDt X.K) := by
  intro pins s σ H vs us Q I r h
  obtain ⟨a, xs, d, ds, rfl, hs, hd, hal, hdep, q⟩ := h
  obtain ⟨its, rv, hl, hz⟩ := I.list hs
  rw [Vals.ref1 r]
  obtain ⟨as, hr⟩ := Dp.readsAll I _ _ _ hd rv
  refine PySem.W.min_list_data (vs := its.toArray) (I.ok.hd hc) hl.isList (by simpa using hr) hal (by omega) fun i v h' tk bs hv hm hk => ?_
  have hv' : its[i]? = some v := by simpa using hv
  obtain ⟨d', bs', hd', hr'⟩ := reads_all_get hr i v hv'
  obtain ⟨x, hx, rx⟩ : ∃ x, xs[i]? = some x ∧ RelV x v := by
    have hlen := rv.length
    have hi := (List.getElem?_eq_some_iff.mp hv').1
    obtain ⟨u, hu1, ru⟩ := rv.get (List.getElem?_eq_getElem (show i < xs.length by omega))
    rw [hv'] at hu1
    cases hu1
    exact ⟨_, List.getElem?_eq_getElem _, ru⟩
  have e : d' = PySem.W.minD d ds := (PySem.Reads.unique (PySem.W.reads_keeps hk hr') _ _ hm).1
  rw [e] at hd'
  exact ⟨x, H, I.kept hk, rx, q i x hx hd'⟩
theorem dnl_len : ∀ {S : Store} {k : Nat} {xs : List PV} {ds : List Dt}, DnL S k xs ds → xs.length = ds.length
  | _, _, _, _, .nil => rfl
  | _, _, _, _, .cons _ t => by rw [List.length_cons, List.length_cons, dnl_len t]
mutual
theorem toD_inj : ∀ {a b : Dt}, toD a = toD b → a = b
  | .non, b, h => by cases b <;> simp only [toD] at h <;> first | rfl | cases h
  | .bl x, b, h => by cases b <;> simp only [toD] at h <;> first | (cases h; done) | (cases h; rfl)
  | .int x, b, h => by cases b <;> simp only [toD] at h <;> first | (cases h; done) | (cases h; rfl)
  | .str x, b, h => by
    cases b <;> simp only [toD] at h <;> first | (cases h; done) | skip
    injection h with h
    rw [ofT_inj h]
  | .tup x, b, h => by
    cases b <;> simp only [toD] at h <;> first | (cases h; done) | skip
    injection h with h
    rw [toDs_inj h]
  | .lst x, b, h => by
    cases b <;> simp only [toD] at h <;> first | (cases h; done) | skip
    injection h with h
    rw [toDs_inj h]
theorem toDs_inj : ∀ {a b : List Dt}, toDs a = toDs b → a = b
  | [], [], _ => rfl
  | [], _ :: _, h => by simp only [toDs] at h; cases h
  | _ :: _, [], h => by simp only [toDs] at h; cases h
  | x :: r, y :: t, h => by
    simp only [toDs] at h
    injection h with h1 h2
    rw [toD_inj h1, toDs_inj h2]
end
theorem snd_minD {X : Cx} (hc : X.calm = true) (hu : X.A.units + 65 < cLine) : CallSnd X (.builtin "min") (bltop .minD) := by
  refine ⟨_, cr_minDt hc hu, fun xs S Q α H xs' Q' h s r po => ?_⟩
  match xs, h, r with
  | [.ref n], h, .cons (.ref ra) .nil =>
    obtain ⟨ys, d, ds, g, hd, hal, q⟩ := h
    obtain ⟨vs, hl, r⟩ := s.getL g ra
    refine ⟨_, vs, toD d, toDs ds, rfl, hl, ?_, ?_, ?_, fun i x hx he => ?_⟩
    · have := DnL.dp s hd r
      rwa [toDs] at this
    · have mem : ∀ z ∈ toD d :: toDs ds, ∃ y ∈ d :: ds, z = toD y := by
        intro z hz
        rw [toDs_map] at hz
        rcases List.mem_cons.mp hz with e | e
        · exact ⟨d, List.mem_cons_self, e⟩
        · obtain ⟨y, hy, e⟩ := List.mem_map.mp e
          exact ⟨y, List.mem_cons_of_mem _ hy, e.symm⟩
      refine ⟨fun z hz w hw => ?_, fun z hz => ?_⟩
      · obtain ⟨y, hy, rfl⟩ := mem z hz
        obtain ⟨y', hy', rfl⟩ := mem w hw
        exact (hal y hy).1 y' hy'
      · obtain ⟨y, hy, rfl⟩ := mem z hz
        have := (hal y hy).2
        intro e
        cases y <;> simp only [toD] at e <;> first | (exact this rfl) | cases e
    · have := (DnL.shape hd).2
      rwa [toDs] at this
    · rw [minD_toD] at he
      have hi := (List.getElem?_eq_some_iff.mp hx).1
      have hlen := r.length
      have hj : ys[i]? = some ys[i] := List.getElem?_eq_getElem (by omega)
      obtain ⟨v, hv, rv⟩ := r.get hj
      rw [hx] at hv
      cases hv
      refine po _ _ _ _ _ (q i _ hj ?_) Le.refl s rv
      have hdl : (d :: ds).length = ys.length := (dnl_len hd).symm
      have hk : (d :: ds)[i]? = some (d :: ds)[i] := List.getElem?_eq_getElem (by omega)
      have e2 : (toD d :: toDs ds)[i]? = some (toD (d :: ds)[i]) := by
        have : toD d :: toDs ds = (d :: ds).map toD := by rw [toDs_map]; rfl
        rw [this, List.getElem?_map, hk]
        rfl
      rw [e2] at he
      rw [hk, toD_inj (Option.some.inj he)]
theorem maxD_toD (d : Dt) (ds : List Dt) : PySem.W.maxD (toD d) (toDs ds) = toD (maxDt d ds) := by
  rw [toDs_map]
  unfold PySem.W.maxD maxDt ltDt
  induction ds generalizing d with
  | nil => rfl
  | cons x r ih =>
    rw [List.map_cons, List.foldl_cons, List.foldl_cons, ← ih]
    congr 1
    split <;> rfl
def rMaxDt (K : PySem.W.Frag) : List V → Hp → VK → Prop := fun vs H Q => ∃ (a : Addr) (xs : List V) (d : PyData) (ds : List PyData), vs = [V.ref a] ∧ SqL K H a xs ∧ DpAll K H xs (d :: ds) ∧ PySem.W.AlikeAll (d :: ds) ∧ PyData.depthAll (d :: ds) ≤ 50 ∧
  ∀ (i : Nat) (x : V), xs[i]? = some x → (d :: ds)[i]? = some (PySem.W.maxD d ds) → Q x H
theorem cr_maxDt {X : Cx} (hc : X.calm = true) (hu : X.A.units + 65 < cLine) : CallR X (.builtin "max") (rMaxDt X.K) := by
  intro pins s σ H vs us Q I r h
  obtain ⟨a, xs, d, ds, rfl, hs, hd, hal, hdep, q⟩ := h
  obtain ⟨its, rv, hl, hz⟩ := I.list hs
  rw [Vals.ref1 r]
  obtain ⟨as, hr⟩ := Dp.readsAll I _ _ _ hd rv
  refine PySem.W.max_list_data (vs := its.toArray) (I.ok.hd hc) hl.isList (by simpa using hr) hal (by omega) fun i v h' tk bs hv hm hk => ?_
  have hv' : its[i]? = some v := by simpa using hv
  obtain ⟨d', bs', hd', hr'⟩ := reads_all_get hr i v hv'
  obtain ⟨x, hx, rx⟩ : ∃ x, xs[i]? = some x ∧ RelV x v := by
    have hlen := rv.length
    have hi := (List.getElem?_eq_some_iff.mp hv').1
    obtain ⟨u, hu1, ru⟩ := rv.get (List.getElem?_eq_getElem (show i < xs.length by omega))
    rw [hv'] at hu1
    cases hu1
    exact ⟨_, List.getElem?_eq_getElem _, ru⟩
  have e : d' = PySem.W.maxD d ds := (PySem.Reads.unique (PySem.W.reads_keeps hk hr') _ _ hm).1
  rw [e] at hd'
  exact ⟨x, H, I.kept hk, rx, q i x hx hd'⟩
theorem snd_maxD {X : Cx} (hc : X.calm = true) (hu : X.A.units + 65 < cLine) : CallSnd X (.builtin "max") (bltop .maxD) := by
  refine ⟨_, cr_maxDt hc hu, fun xs S Q α H xs' Q' h s r po => ?_⟩
  match xs, h, r with
  | [.ref n], h, .cons (.ref ra) .nil =>
    obtain ⟨ys, d, ds, g, hd, hal, q⟩ := h
    obtain ⟨vs, hl, r⟩ := s.getL g ra
    refine ⟨_, vs, toD d, toDs ds, rfl, hl, ?_, ?_, ?_, fun i x hx he => ?_⟩
    · have := DnL.dp s hd r
      rwa [toDs] at this
    · have mem : ∀ z ∈ toD d :: toDs ds, ∃ y ∈ d :: ds, z = toD y := by
        intro z hz
        rw [toDs_map] at hz
        rcases List.mem_cons.mp hz with e | e
        · exact ⟨d, List.mem_cons_self, e⟩
        · obtain ⟨y, hy, e⟩ := List.mem_map.mp e
          exact ⟨y, List.mem_cons_of_mem _ hy, e.symm⟩
      refine ⟨fun z hz w hw => ?_, fun z hz => ?_⟩
      · obtain ⟨y, hy, rfl⟩ := mem z hz
        obtain ⟨y', hy', rfl⟩ := mem w hw
        exact (hal y hy).1 y' hy'
      · obtain ⟨y, hy, rfl⟩ := mem z hz
        have := (hal y hy).2
        intro e
        cases y <;> simp only [toD] at e <;> first | (exact this rfl) | cases e
    · have := (DnL.shape hd).2
      rwa [toDs] at this
    · rw [maxD_toD] at he
      have hi := (List.getElem?_eq_some_iff.mp hx).1
      have hlen := r.length
      have hj : ys[i]? = some ys[i] := List.getElem?_eq_getElem (by omega)
      obtain ⟨v, hv, rv⟩ := r.get hj
      rw [hx] at hv
      cases hv
      refine po _ _ _ _ _ (q i _ hj ?_) Le.refl s rv
      have hdl : (d :: ds).length = ys.length := (dnl_len hd).symm
      have hk : (d :: ds)[i]? = some (d :: ds)[i] := List.getElem?_eq_getElem (by omega)
      have e2 : (toD d :: toDs ds)[i]? = some (toD (d :: ds)[i]) := by
        have : toD d :: toDs ds = (d :: ds).map toD := by rw [toDs_map]; rfl
        rw [this, List.getElem?_map, hk]
        rfl
      rw [e2] at he
      rw [hk, toD_inj (Option.some.inj he)]
/-! ### dicts, walked -/
def tLockV (t : TE) : TE := fun σ H Q => t σ H fun x H1 => ∃ d u, x = .ref d ∧ H1 d = some u ∧ Mut (some u) ∧ ∀ od, Q x (upd H1 d (.frz od u))
theorem pe_lockV {X : Cx} {e : Expr} {t : TE} (h : PE X e t) : PE X e (tLockV t) := by
  constructor
  intro pins s σ H Q I hw
  refine thn (h.run pins s σ H _ I hw) fun v s1 ⟨x, H1, I1, r, d, u, ex, hd, mu, q⟩ => ?_
  obtain ⟨od, I2⟩ := I1.lock hd mu
  exact ⟨x, _, I2, r, q od⟩
theorem KVR.get : ∀ {ds : List (Txt × PV)} {vs : List (Key × V)} {i : Nat} {k : Txt} {d : PV}, KVR K α H ds vs → ds[i]? = some (k, d) → ∃ v, vs[i]? = some (.inr (ofT k), v) ∧ VR K α H d v
  | _, _, _, _, _, .nil, e => by simp at e
  | _, _, 0, _, _, .cons r _, e => by
    simp at e
    obtain ⟨rfl, rfl⟩ := e
    exact ⟨_, rfl, r⟩
  | _, _, i + 1, _, _, .cons _ t, e => by
    obtain ⟨v, h1, h2⟩ := KVR.get t (by simpa using e)
    exact ⟨v, by simpa using h1, h2⟩
theorem jok_vals {a : Addr} {o : Obj} {vs : List (Key × V)} {kvs : List (Txt × PV)} (h : H a = some (.frz o (.dK vs))) (r : KVR K α H kvs vs) : JOk K (Itd a o vs) (kvs.map (·.2)) (fun _ => True) α H := fun α' S H' l s k i => by
  have hf := l.fz _ _ _ h
  have r' := r.mono l
  refine ⟨fun x hx => ?_, fun hh => ⟨hf, by rw [← r'.length]; simpa using hh⟩⟩
  rw [List.getElem?_map] at hx
  obtain ⟨⟨k, d⟩, hk, rfl⟩ := Option.map_eq_some_iff.mp hx
  obtain ⟨v, hv, rv⟩ := r'.get hk
  refine ⟨⟨hf, (List.getElem?_eq_some_iff.mp hv).1⟩, fun w H2 hy => ?_⟩
  obtain ⟨rfl, k', hk'⟩ := hy
  rw [hv] at hk'; cases hk'
  exact ⟨Le.refl, s, rv⟩
theorem jok_keys {a : Addr} {o : Obj} {vs : List (Key × V)} {kvs : List (Txt × PV)} (h : H a = some (.frz o (.dK vs))) (r : KVR K α H kvs vs) : JOk K (Itk a o vs) (kvs.map fun q => .str q.1) (fun _ => True) α H := fun α' S H' l s k i => by
  have hf := l.fz _ _ _ h
  have r' := r.mono l
  refine ⟨fun x hx => ?_, fun hh => ⟨hf, by rw [← r'.length]; simpa using hh⟩⟩
  rw [List.getElem?_map] at hx
  obtain ⟨⟨k, d⟩, hk, rfl⟩ := Option.map_eq_some_iff.mp hx
  obtain ⟨v, hv, rv⟩ := r'.get hk
  refine ⟨⟨hf, (List.getElem?_eq_some_iff.mp hv).1⟩, fun w H2 hy => ?_⟩
  obtain ⟨rfl, k', v', hk', rfl⟩ := hy
  rw [hv] at hk'; cases hk'
  exact ⟨Le.refl, s, .str k⟩
theorem sim_lock {n : Nat} {a : Addr} {o : Obj} {vs : List (Key × V)} {kvs : List (Txt × PV)} (s : Sim K S α H) (h : S[n]? = some (.dic kvs)) (ha : α[n]? = some a) (hH : H a = some (.dK vs)) (r : KVR K α H kvs vs) :
    Le K α H α (upd H a (.frz o (.dK vs))) ∧ Sim K (S.set n (.ldc kvs)) α (upd H a (.frz o (.dK vs))) := by
  have l : Le K α H α (upd H a (.frz o (.dK vs))) := le_upd (.inr (by rw [hH]; trivial))
  exact ⟨l, s.write h ha rfl ⟨vs, o, upd_same, r.mono l⟩⟩
section
variable {prog : Program} {w : World} {A : Around} {E : Value → Shared → Prop} {s : Shared}
theorem adj_back (n : Nat) : Builtin.Slice.sliceAdjust none none (-1) (n : Int) = ((n : Int) - 1, -1) := by
  unfold Builtin.Slice.sliceAdjust
  simp
theorem places_back (n : Nat) : Builtin.Slice.slicePlaces ((n : Int) - 1) (-1) (-1) = n := by
  unfold Builtin.Slice.slicePlaces
  simp
  omega
theorem applied_back {sl : Addr} {t : Tok} {n : Nat} {Q : Int × Int × Nat → Shared → Prop} (hs : s.heap.IsSliceOf sl .none .none (.int (-1) t))
    (h : Q ((n : Int) - 1, -1, n) s) : wpAny (model prog w) A (Builtin.Slice.sliceApplied (.ref sl) (pure (n : Int))) Q E s := by
  obtain ⟨os, hos, hcs, hds⟩ := id hs
  unfold Builtin.Slice.sliceApplied Builtin.Slice.sliceFields
  refine wpAny_bind (wpAny_bind (wpAny_field hos hds (x := .none) rfl (wpAny_bind (wpAny_field hos hds (x := .none) rfl (wpAny_bind (wpAny_field hos hds (x := .int (-1) t) rfl (wpAny_pure ?_)))))))
  refine wpAny_bind (HT.slicePart_ (.int (-1) t) ?_)
  show wpAny _ _ (if ((-1 : Int) == 0) = true then _ else _) _ _ s
  rw [if_neg (by decide)]
  refine wpAny_bind (HT.slicePart_ .none (wpAny_bind (HT.slicePart_ .none (wpAny_bind (wpAny_pure ?_)))))
  show wpAny _ _ (match Builtin.Slice.sliceAdjust none none (-1) (n : Int) with | (lo, hi) => pure (lo, (-1 : Int), Builtin.Slice.slicePlaces lo hi (-1))) _ _ s
  rw [adj_back n]
  show wpAny _ _ (pure ((n : Int) - 1, (-1 : Int), Builtin.Slice.slicePlaces ((n : Int) - 1) (-1) (-1))) _ _ s
  rw [places_back]
  exact wpAny_pure h
theorem pick_back (xs : List Value) : ((List.range xs.length).filterMap fun (m : Nat) => xs.toArray[((xs.length : Int) - 1 + (m : Int) * (-1)).toNat]?).toArray = xs.reverse.toArray := by
  congr 1
  have e : ∀ m ∈ List.range xs.length, xs.toArray[((xs.length : Int) - 1 + (m : Int) * (-1)).toNat]? = xs.reverse[m]? := by
    intro m hm
    have := List.mem_range.mp hm
    rw [show ((xs.length : Int) - 1 + (m : Int) * (-1)).toNat = xs.length - 1 - m by omega, List.getElem?_reverse this]
    simp
  have h2 : ∀ (l : List Nat) (f g : Nat → Option Value), (∀ m ∈ l, f m = g m) → l.filterMap f = l.filterMap g := by
    intro l f g
    induction l with
    | nil => intro _; rfl
    | cons a r ih =>
      intro h
      rw [List.filterMap_cons, List.filterMap_cons, h a List.mem_cons_self, ih fun m hm => h m (List.mem_cons_of_mem _ hm)]
  rw [h2 _ _ _ e]
  have h3 : ∀ (ys : List Value), (List.range ys.length).filterMap (fun m => ys[m]?) = ys := by
    intro ys
    induction ys with
    | nil => rfl
    | cons y r ih =>
      rw [List.length_cons, List.range_succ_eq_map, List.filterMap_cons]
      simp only [List.getElem?_cons_zero]
      rw [List.filterMap_map]
      congr 1
  have := h3 xs.reverse
  rw [List.length_reverse] at this
  exact this
theorem item_tup_back {a sl : Addr} {items : List Value} {t : Tok} {Q : Value → Shared → Prop} (ht : IsTup s.heap a items.toArray) (hs : s.heap.IsSliceOf sl .none .none (.int (-1) t))
    (h : Q (.ref s.heap.objs.size) { s with heap := s.heap.push { cls := .type "tuple", data := .seq items.reverse.toArray } })
    (hsz : items.length ≤ sizeLine) : wpAny (model prog w) A (getItem (.ref a) (.ref sl)) Q E s := by
  have hok : sizeOk (.seq items.reverse.toArray) := by
    show items.reverse.toArray.size ≤ sizeLine
    rw [List.size_toArray, List.length_reverse]
    exact hsz
  obtain ⟨os, hos, hcs, hds⟩ := id hs
  have hTs : s.TypeIs (.ref sl) "slice" := ⟨os, hos, hcs⟩
  unfold getItem
  try with_reducible refine wpAny_holding ?_
  first | refine wpAny_bind (wpAny_pure ?_) | skip
  refine wpAny_bind (wpAny_sequenceKey ht.typeIs (by decide) ?_)
  refine wpAny_bind (wpAny_callSpecial?_slot (name := Str.ofString "__getitem__") ht.typeIs PyProof.Rows.slot_tuple_getitem
    (wpAny_call_entry PyProof.Rows.slot_tuple_getitem ht.typeIs PyProof.Rows.entry_tuple_getitem ?_ (PyProof.Rows.args_tuple_getitem _ _)))
  show wpAny _ _ (Builtin.Tuple.tupleItemsOf (.ref a) >>= _) _ _ s
  refine wpAny_bind (PyProof.Rows.tupleItemsOf_ ht ?_)
  refine wpAny_bind (wpAny_typeOf hTs ?_)
  rw [if_pos (by decide)]
  refine wpAny_bind (applied_back (n := items.toArray.size) hs ?_)
  show wpAny _ _ (if ((((items.toArray.size : Nat) : Int) - 1) == 0 && (-1 : Int) == 1 && items.toArray.size == items.toArray.size) = true then _ else _) _ _ s
  rw [if_neg (by simp), List.size_toArray, pick_back]
  first
    | exact wpAny_bind (m := Builtin.Tuple.tupleExact _) (wpAny_newObj_type (wpAny_pure ⟨_, rfl, wpAny_pure h⟩) hok)
    | exact wpAny_bind (m := Builtin.Tuple.tupleExact _) (wpAny_newObj_type (wpAny_bind (wpAny_pure (wpAny_pure ⟨_, rfl, wpAny_pure h⟩))) hok)
    | exact wpAny_bind (wpAny_bind (m := Builtin.Tuple.tupleExact _) (wpAny_newObj_type (wpAny_pure (wpAny_pure ⟨_, rfl, wpAny_pure h⟩)) hok))
    | exact wpAny_bind (wpAny_bind (m := Builtin.Tuple.tupleExact _) (wpAny_newObj_type (wpAny_pure ⟨_, rfl, wpAny_pure h⟩) hok))
end
/-! ### xs[::-1], a list or a tuple -/
def tBack (K : PySem.W.Frag) (te : TE) : TE := fun σ H Q => te σ H fun x H1 => ∃ a xs, x = .ref a ∧ ((SqL K H1 a xs ∧ ∀ p, H1 p = none → Q (.ref p) (upd H1 p (.lst xs.reverse))) ∨ (SqT K H1 a xs ∧ ∀ p, H1 p = none → Q (.ref p) (upd H1 p (.tup xs.reverse))))
theorem pe_back {X : Cx} {e : Expr} {te : TE} {k : Nat} {p1 p2 p3 pos : Pos} (he : PE X e te) : PE X (.Subscript e (.Slice none none (some (.UnaryOp .USub (.Constant (.int 1) k p1) p2)) p3) pos) (tBack X.K te) := by
  constructor
  intro pins s σ H Q I h
  refine Subscript_ (thn (he.run pins s σ H _ I h) fun v s1 ⟨x, H1, I1, r1, a, xs, ex, q⟩ => ?_)
  subst ex
  cases r1
  have hst : L2.PO X (some (.UnaryOp .USub (.Constant (.int 1) k p1) p2)) (tPart (tUn (rU fun i => .int (-i)) (tC (.int 1)))) := po_some (pe_un un_neg pe_int)
  refine wpAny_Slice (thn (po_none.run pins s1 σ H1 (fun o H2 => o = none ∧ H2 = H1) I1 ⟨rfl, rfl⟩) fun vl s2 ⟨l, H2, I2, pl, el, e2⟩ => ?_)
  subst el e2
  refine thn (po_none.run pins s2 σ H2 (fun o H3 => o = none ∧ H3 = H2) I2 ⟨rfl, rfl⟩) fun vu s3 ⟨u, H3, I3, pu, eu, e3⟩ => ?_
  subst eu e3
  refine thn (hst.run pins s3 σ H3 (fun o H4 => o = some (-1) ∧ H4 = H3) I3 ⟨1, rfl, -1, rfl, rfl, rfl⟩) fun vs s4 ⟨o, H4, I4, ps, eo, e4⟩ => ?_
  subst eo e4
  have I5 : Inv X pins σ H4 { s4 with heap := s4.heap.push { cls := .type "slice", data := .fields #[vl, vu, vs] } } := I4.kept (t' := s4.toks) fun b ob g => Heap.get?_push_of_some _ g
  show wpAny (model X.prog X.w) X.A (subscriptTail e (.Slice none none (some (.UnaryOp .USub (.Constant (.int 1) k p1) p2)) p3) (.ref a) (.ref s4.heap.objs.size)) (EP X pins σ Q) X.xe { s4 with heap := s4.heap.push { cls := .type "slice", data := .fields #[vl, vu, vs] } }
  rcases q with ⟨hx, q⟩ | ⟨hx, q⟩
  · obtain ⟨its, r, ht, hz⟩ := I5.list hx
    have hlen := r.length
    refine tail_any (ops := [.ref a, .ref s4.heap.objs.size]) ht.isList.typeIs (PySem.slot_list_getitem.lookup) ?_ (by with_unfolding_all rfl)
    refine wpAny_getItem_list_slice ht.isList (Heap.IsSliceOf.new _ vl vu vs) pl pu ps (by decide) ?_ (by rw [List.size_toArray]; omega)
    rw [PySem.W.krv_pick]
    refine ⟨.ref _, _, I5.laid (t' := s4.toks) (o := .lst xs.reverse) (fun b ob g => Heap.get?_push_of_some _ g) Nat.le.refl ?_, rfl, q _ (I5.hok.fresh Nat.le.refl)⟩
    exact ⟨by rw [List.length_reverse]; exact hz, _, 0, r.reverse, Heap.get?_push_size _ rfl⟩
  · obtain ⟨its, r, ht, hz⟩ := I5.tuple hx
    have hlen := r.length
    cases pl
    cases pu
    cases ps with
    | int i t =>
    refine tail_any (ops := [.ref a, .ref s4.heap.objs.size]) ht.typeIs PyProof.Rows.slot_tuple_getitem.lookup ?_ (by with_unfolding_all rfl)
    refine item_tup_back ht (Heap.IsSliceOf.new _ .none .none (.int (-1) t)) ?_ (by omega)
    refine ⟨.ref _, _, I5.laid (t' := s4.toks) (o := .tup xs.reverse) (fun b ob g => Heap.get?_push_of_some _ g) Nat.le.refl ?_, rfl, q _ (I5.hok.fresh Nat.le.refl)⟩
    exact ⟨by rw [List.length_reverse]; exact hz, _, r.reverse, IsTup.new _ _⟩
end PyI
set_option autoImplicit false
set_option linter.all false
set_option Elab.async false
set_option maxRecDepth 100000
set_option maxHeartbeats 4000000
namespace PyI
open PySem PySem.Spec PyProof.Rows L2
/-! ### list.count(True) over bools -/
def eqbT (v : Value) : Bool := match v with
  | .bool b => b
  | _ => false
theorem bools_rel : ∀ {bs : List Bool} {us : List Value}, Vals (bs.map V.bl) us → us = bs.map Value.bool
  | [], _, .nil => rfl
  | b :: r, _, .cons h t => by
    rw [List.map_cons, bools_rel t]
    congr 1
theorem countB (bs : List Bool) : (bs.map Value.bool).countP eqbT = bs.count true := by
  induction bs with
  | nil => rfl
  | cons b r ih => rw [List.map_cons, List.countP_cons, List.count_cons, ih]; cases b <;> rfl
def rCntB (K : PySem.W.Frag) : V → List V → Hp → VK → Prop := fun x xs H Q => ∃ (p : Addr) (bs : List Bool), x = .ref p ∧ xs = [.bl true] ∧ SqL K H p (bs.map V.bl) ∧ Q (.int (bs.count true : Nat)) H
theorem mt_countB {X : Cx} : MtR X "list.count" (rCntB X.K) := by
  intro pins s σ H x xs v us Q I rx rxs h
  obtain ⟨p, bs, rfl, rfl, hs, q⟩ := h
  cases rx
  obtain ⟨u, rfl, ru⟩ := rxs.one
  obtain rfl : u = Value.bool true := ru
  obtain ⟨its, rv, ⟨⟨cls, dd, data, sl⟩, n, ho, hc, hdn, hd⟩, hlen⟩ := I.list hs
  simp only at hc hd
  subst hc hd
  have hi := bools_rel rv
  subst hi
  refine call_meets PySem.F.slot_list_count ⟨_, ho, rfl⟩ PySem.F.entry_list_count (PySem.F.args_list_count_2 _ _)
    (SeqAt.list_countAt p (bs.map Value.bool).toArray n dd sl (.bool true) eqbT) ⟨ho, fun y hy => ?_, ?_⟩
  · obtain ⟨b, _, rfl⟩ := List.mem_map.mp (List.mem_toArray.mp hy)
    have := SeqAt.EqAt.bool_bool (A := X.A.in1) (s := s) b true
    cases b <;> exact this
  have ec : (bs.map Value.bool).toArray.toList.countP eqbT = bs.count true := countB bs
  refine ⟨.int (bs.count true : Nat), H, I.tok _, ⟨s.toks, ?_⟩, q⟩
  show Value.int (((bs.map Value.bool).toArray.toList.countP eqbT : Nat) : Int) s.toks = Value.int ((bs.count true : Nat) : Int) s.toks
  rw [ec]
/-! ### which exception is it -/
def wNames : List Str := [("InvalidDate" : Str), "InvalidSpan", "InvalidPattern", "InvalidPatterns", "InvalidText", "Unreadable", "InvalidFormat"]
def isinB (x : Str) : Expr → Bool
  | .Call (.Name f _) [.Name e _, .Name y _] [] _ => (f == ("isinstance" : Str)) && (e == ("_law_error" : Str)) && (y == x)
  | _ => false
def isinsB : List Str → List Expr → Bool
  | [], [] => true
  | x :: xs, e :: es => isinB x e && isinsB xs es
  | _, _ => false
def ownB : Expr → Bool
  | .Name o _ => o == ("_law_own" : Str)
  | _ => false
def extB (xs : List Str) : Stmt → Bool
  | .Expr (.Call (.Attribute o m ap) [.List es _] [] cp) _ => ownB o && (m == ("extend" : Str)) && (ap.endLine == cp.line) && isinsB xs es && decide (es.length ≤ 2)
  | _ => false
def appB (x : Str) : Stmt → Bool
  | .Expr (.Call (.Attribute o m ap) [e] [] cp) _ => ownB o && (m == ("append" : Str)) && (ap.endLine == cp.line) && isinB x e
  | _ => false
def asgOwnB (xs : List Str) : Stmt → Bool
  | .Assign [.Name o _] (.List es _) _ => (o == ("_law_own" : Str)) && isinsB xs es && decide (es.length ≤ 2)
  | _ => false
def cntB : Expr → Bool
  | .Compare (.Call (.Attribute o m ap) [.Constant (.bool true) _ _] [] cp) [.NotEq] [.Constant (.int k) _ _] _ => ownB o && (m == ("count" : Str)) && (ap.endLine == cp.line) && (k == 1)
  | _ => false
def idxB : Expr → Bool
  | .Call (.Attribute o m ap) [.Constant (.bool true) _ _] [] cp => ownB o && (m == ("index" : Str)) && (ap.endLine == cp.line)
  | _ => false
def lastB : Stmt → Bool
  | .Return (some (.Tuple [.Constant (.str r) _ _, e] _ _)) _ => (r == ("raised" : Str)) && idxB e
  | _ => false
def ifB : Stmt → Bool
  | .If (.BoolOp .Or [a, .UnaryOp .Not b _] _) _ [] _ => cntB a && isinB "ValueError" b
  | _ => false
def whichB : List Stmt → Bool
  | [s0, s1, s2, s3, s4, s5, s6] => asgOwnB ["InvalidDate", "InvalidSpan"] s0 && extB ["InvalidPattern"] s1 && extB ["InvalidPatterns", "InvalidText"] s2 && extB ["Unreadable"] s3 && appB "InvalidFormat" s4 && ifB s5 && lastB s6
  | _ => false
/-- what is known of the classes -/
structure WFacts (K : PySem.W.Frag) (mg : Str → Option Value) (cv : Nat → Value) : Prop where
  nm : ∀ (i : Nat) (x : Str), wNames[i]? = some x → ∃ C : Addr, cv i = .ref C ∧ mg x = some (.ref C)
  ec : ∀ (i : Nat) (C : Addr), i < 7 → cv i = .ref C → ExcC K C
  kit : ∀ i j, i < 7 → j < 7 → PySem.W.kitOne K (cv i) (cv j) = some (decide (i = j))
  kitV : ∀ i, i < 7 → PySem.W.kitOne K (cv i) (.type "ValueError") = some true
  ve : mg "ValueError" = none
  isi : mg "isinstance" = none
section
variable {X : Cx} {p : Addr × Obj} {D : Addr}
theorem call_isP (C : ExcC X.K D) (hp : p ∈ X.pn) (hz : Zc (.ref D) none p.2) (hf : ∃ vs, p.2.data = .fields vs) : CallR X (.builtin "isinstance") (rIsE X.K D p.1) := by
  intro pins s σ H xs us Q I r h
  obtain ⟨c, cv, b, rfl, hcv, e, q⟩ := h
  cases r with
  | cons rx rr =>
    cases rr with
    | cons rt rr =>
      cases rr
      cases rx
      have ec := hcv _ rt
      subst ec
      obtain ⟨hget, _⟩ := I.pin p (List.mem_append.mpr (.inl hp))
      obtain ⟨vs, hv⟩ := hf
      have J : PySem.W.InstAt s.heap p.1 p.2 D none := by
        obtain ⟨a, oe⟩ := p
        obtain ⟨oc, od, oda, osl⟩ := oe
        obtain ⟨h1, h2⟩ := hz
        dsimp only at h1 h2 hv
        subst h1 h2 hv
        exact ⟨hget, rfl, rfl, trivial⟩
      exact PySem.W.kia_one (PySem.W.handS_kitx_exc C.hg C.hk C.hs C.hd C.ha C.hn C.ht C.hm) I.kIn J e (fun z => nomatch z) fun tk => ⟨.bl b, H, I.kept (t' := tk) fun _ _ z => z, rfl, q⟩
variable {cv : Nat → Value} {c : Nat}
/-- where _law_which stands -/
structure WAt (X : Cx) (p : Addr × Obj) (cv : Nat → Value) (c : Nat) (D : Addr) : Prop where
  F : WFacts X.K X.mg cv
  hN : X.N = [("_law_error" : Str), "_law_own"]
  hp : p ∈ X.pn
  hz : Zc (.ref D) none p.2
  hf : ∃ vs, p.2.data = .fields vs
  c7 : c < 7
  hc : cv c = .ref D
  loc : X.env.scope.names.lookup ("_law_error" : Str) = some NameKind.local
  loc2 : X.env.scope.names.lookup ("_law_own" : Str) = some NameKind.local
  gl : ∀ x ∈ ("isinstance" : Str) :: "ValueError" :: wNames, Gl X x
def tIs (p : Addr × Obj) (b : Bool) : TE := fun σ H Q => σ[0]? = some (some (.ref p.1)) ∧ Q (.bl b) H
theorem pe_isin {i : Nat} {x : Str} {e : Expr} (W : WAt X p cv c D) (hi : wNames[i]? = some x) (h : isinB x e = true) : PE X e (tIs p (decide (c = i))) := by
  unfold isinB at h
  split at h
  · simp only [Bool.and_eq_true, beq_iff_eq] at h
    obtain ⟨⟨rfl, rfl⟩, rfl⟩ := h
    obtain ⟨C, hC, hm⟩ := W.F.nm i _ hi
    have hx := List.mem_of_getElem? hi
    have i7 : i < 7 := (List.getElem?_eq_some_iff.mp hi).1
    refine ⟨fun pins s σ H Q I h => ?_⟩
    refine (pe_callB (call_isP (W.F.ec c D W.c7 W.hc) W.hp W.hz W.hf) (W.gl _ (by simp)) W.F.isi PyProof.Rows.boot_isinstance (pa_cons (pe_var (i := 0) (by rw [W.hN]; rfl) (.inl W.loc)) (pa_cons (pe_glob (v := .ref C) (W.gl _ (by simp [hx])) hm rfl ((by decide +kernel : ∀ z ∈ wNames, (z == ("__debug__" : Str)) = false) _ hx)) pa_nil))).run pins s σ H Q I ?_
    refine ⟨.ref p.1, h.1, ?_⟩
    refine ⟨.ref C, .ref C, _, rfl, fun u hu => hu, ?_, h.2⟩
    have := W.F.kit c i W.c7 i7
    rw [W.hc, hC] at this
    exact this
  · cases h
theorem pe_isinV {e : Expr} (W : WAt X p cv c D) (h : isinB "ValueError" e = true) : PE X e (tIs p true) := by
  unfold isinB at h
  split at h
  · simp only [Bool.and_eq_true, beq_iff_eq] at h
    obtain ⟨⟨rfl, rfl⟩, rfl⟩ := h
    refine ⟨fun pins s σ H Q I h => ?_⟩
    refine (pe_callB (call_isP (W.F.ec c D W.c7 W.hc) W.hp W.hz W.hf) (W.gl _ (by simp)) W.F.isi PyProof.Rows.boot_isinstance (pa_cons (pe_var (i := 0) (by rw [W.hN]; rfl) (.inl W.loc)) (pa_cons (pe_bltn (v := .ty "ValueError") (W.gl _ (by simp)) W.F.ve (by decide +kernel) rfl) pa_nil))).run pins s σ H Q I ?_
    refine ⟨.ref p.1, h.1, ?_⟩
    refine ⟨.ty "ValueError", .type "ValueError", true, rfl, fun u hu => hu, ?_, h.2⟩
    have := W.F.kitV c W.c7
    rw [W.hc] at this
    exact this
  · cases h
/-- isinstance for each of some classes -/
def tIss (p : Addr × Obj) (bs : List Bool) : TA := fun σ H Q => σ[0]? = some (some (.ref p.1)) ∧ Q (bs.map V.bl) H
theorem pa_isins (W : WAt X p cv c D) : ∀ {xs : List Str} {k : Nat} {es : List Expr}, (∀ (j : Nat) x, xs[j]? = some x → wNames[k + j]? = some x) → isinsB xs es = true → PA X es (tIss p ((List.range' k xs.length).map fun i => decide (c = i)))
  | [], k, [], _, _ => ⟨fun pos pins s σ H Q I h => (pa_nil (X := X)).run pos pins s σ H Q I h.2⟩
  | x :: xs, k, e :: es, hx, h => by
    simp only [isinsB, Bool.and_eq_true] at h
    have h0 : wNames[k]? = some x := by simpa using hx 0 x rfl
    have ih := pa_isins W (xs := xs) (k := k + 1) (es := es) (fun j y hy => by have := hx (j + 1) y hy; rw [show k + 1 + j = k + (j + 1) by omega]; exact this) h.2
    refine ⟨fun pos pins s σ H Q I hq => ?_⟩
    refine (pa_cons (pe_isin W h0 h.1) ih (by
      have : ∀ e : Expr, isinB x e = true → starEach (e :: es) X.env = (false, eval e X.env) :: starEach es X.env := by
        intro e he
        unfold isinB at he
        split at he
        · rfl
        · cases he
      exact this e h.1)).run pos pins s σ H Q I ⟨hq.1, hq.1, ?_⟩
    rw [List.length_cons, List.range'_succ, List.map_cons] at hq
    exact hq.2
/-- the list of answers stands at l -/
def OwnAt (p : Addr × Obj) (H0 : Hp) (bs : List Bool) (σ : L2.St) (H : Hp) : Prop := ∃ l, σ = [some (.ref p.1), some (.ref l)] ∧ H l = some (.lst (bs.map V.bl)) ∧ H0 l = none ∧ ∀ a o, H0 a = some o → H a = some o
theorem pv_own (W : WAt X p cv c D) {e : Expr} (h : ownB e = true) : PE X e (fun σ H Q => ∃ v, σ[1]? = some (some v) ∧ Q v H) ∧ ∀ nm, attributeBase e nm X.env (eval e X.env) = eval e X.env := by
  unfold ownB at h
  split at h
  · rename_i o q
    obtain rfl : o = ("_law_own" : Str) := by simpa using h
    exact ⟨pe_var (i := 1) (by rw [W.hN]; rfl) (.inl W.loc2), fun nm => rfl⟩
  · cases h
theorem ps_asgOwn (W : WAt X p cv c D) {xs : List Str} {k : Nat} {st : Stmt} (hx : ∀ (j : Nat) x, xs[j]? = some x → wNames[k + j]? = some x) (hl : xs.length ≤ 2) (h : asgOwnB xs st = true) :
    PS X st (fun D σ H => ∃ o, σ = [some (.ref p.1), o] ∧ ∀ σ' H', OwnAt p H ((List.range' k xs.length).map fun i => decide (c = i)) σ' H' → D.nx σ' H') := by
  unfold asgOwnB at h
  split at h
  · rename_i o q1 es q2 q3
    simp only [Bool.and_eq_true, beq_iff_eq, decide_eq_true_eq] at h
    obtain ⟨⟨rfl, h⟩, h2⟩ := h
    refine ⟨fun pins s σ H D I hq => ?_⟩
    obtain ⟨o, rfl, hq⟩ := hq
    refine (ps_set (i := 1) (X := X) (by rw [W.hN]; decide) (by rw [W.hN]; rfl) (.inl W.loc2) (pe_lst (pa_isins W hx h)) rfl (.inr W.loc2)).run pins s _ H D I ?_
    refine ⟨rfl, by rw [List.length_map, List.length_map, List.length_range', big_eq]; unfold big; omega, fun l hl => ?_⟩
    exact hq _ _ ⟨l, rfl, upd_same, hl, fun a o e => by rw [upd_ne (ne_of_none e hl)]; exact e⟩
  · cases h
theorem ps_ext (W : WAt X p cv c D) {xs : List Str} {k : Nat} {st : Stmt} (hx : ∀ (j : Nat) x, xs[j]? = some x → wNames[k + j]? = some x) (hl : xs.length ≤ 2) (h : extB xs st = true) (bs : List Bool) (hbs : bs.length ≤ 10) (H0 : Hp) :
    PS X st (fun D σ H => OwnAt p H0 bs σ H ∧ ∀ σ' H', OwnAt p H0 (bs ++ (List.range' k xs.length).map fun i => decide (c = i)) σ' H' → D.nx σ' H') := by
  unfold extB at h
  split at h
  · rename_i o m ap es q1 cp q2
    simp only [Bool.and_eq_true, beq_iff_eq, decide_eq_true_eq] at h
    obtain ⟨⟨⟨⟨ho, rfl⟩, h1⟩, h⟩, h2⟩ := h
    obtain ⟨po, pb⟩ := pv_own W ho
    refine ⟨fun pins s σ H D I hq => ?_⟩
    obtain ⟨⟨l, rfl, hH, hn, hk⟩, hq⟩ := hq
    refine (ps_expr (pe_bm PySem.F.plainAttrs_list PySem.F.slot_list_extend PySem.F.type_list_extend mt_extend po (pa_cons (pe_lst (pa_isins W hx h)) pa_nil) (pb _) (by rfl) (by rw [h1]; exact beq_self_eq_true _)) rfl).run pins s _ H D I ?_
    refine ⟨.ref l, rfl, .inl ⟨rfl, _, .inl (.inl hH)⟩, ?_⟩
    refine ⟨rfl, by rw [List.length_map, List.length_map, List.length_range', big_eq]; unfold big; omega, fun b hb => ?_⟩
    have hlb : l ≠ b := ne_of_none hH hb
    refine ⟨l, b, _, _, rfl, rfl, by rw [upd_ne hlb]; exact hH, upd_same, by simp only [List.length_map, List.length_range', big_eq]; unfold big; omega, ?_⟩
    refine hq _ _ ⟨l, rfl, ?_, hn, fun a o e => ?_⟩
    · rw [upd_same, List.map_append]
    · have h1 : a ≠ l := fun z => by rw [z, hn] at e; cases e
      rw [upd_ne h1, upd_ne (ne_of_none (hk a o e) hb)]
      exact hk a o e
  · cases h
theorem ps_appW (W : WAt X p cv c D) {x : Str} {k : Nat} {st : Stmt} (hx : wNames[k]? = some x) (h : appB x st = true) (bs : List Bool) (hbs : bs.length ≤ 10) (H0 : Hp) :
    PS X st (fun D σ H => OwnAt p H0 bs σ H ∧ ∀ σ' H', OwnAt p H0 (bs ++ [decide (c = k)]) σ' H' → D.nx σ' H') := by
  unfold appB at h
  split at h
  · rename_i o m ap e cp q2
    simp only [Bool.and_eq_true, beq_iff_eq] at h
    obtain ⟨⟨⟨ho, rfl⟩, h1⟩, h⟩ := h
    obtain ⟨po, pb⟩ := pv_own W ho
    have hst : starEach [e] X.env = [(false, eval e X.env)] := by
      unfold isinB at h
      split at h
      · rfl
      · cases h
    refine ⟨fun pins s σ H D I hq => ?_⟩
    obtain ⟨⟨l, rfl, hH, hn, hk⟩, hq⟩ := hq
    refine (ps_expr (pe_bm PySem.F.plainAttrs_list PySem.F.slot_list_append PySem.F.type_list_append mt_append po (pa_cons (pe_isin W hx h) pa_nil (by rw [hst]; rfl)) (pb _) (by rw [hst]; rfl) (by rw [h1]; exact beq_self_eq_true _) (by rw [hst]; rfl)) rfl).run pins s _ H D I ?_
    refine ⟨.ref l, rfl, .inl ⟨rfl, _, .inl (.inl hH)⟩, rfl, l, _, _, rfl, rfl, hH, by rw [List.length_map, big_eq]; unfold big; omega, ?_⟩
    refine hq _ _ ⟨l, rfl, ?_, hn, fun a o e => ?_⟩
    · rw [upd_same, List.map_append]; rfl
    · have h1 : a ≠ l := fun z => by rw [z, hn] at e; cases e
      rw [upd_ne h1]
      exact hk a o e
  · cases h
def allB (c : Nat) : List Bool := (List.range 7).map fun i => decide (c = i)
theorem allB_count : ∀ c : Fin 7, (allB c.1).count true = 1 := by decide
theorem ps_ifW (W : WAt X p cv c D) {st : Stmt} (h : ifB st = true) (H0 : Hp) : PS X st (fun D σ H => OwnAt p H0 (allB c) σ H ∧ ∀ σ' H', OwnAt p H0 (allB c) σ' H' → D.nx σ' H') := by
  unfold ifB at h
  split at h
  · rename_i a b q1 q2 sts q3
    simp only [Bool.and_eq_true] at h
    obtain ⟨h1, h2⟩ := h
    unfold cntB at h1
    split at h1
    · rename_i o m ap u1 u2 cp k u3 u4 u5
      simp only [Bool.and_eq_true, beq_iff_eq] at h1
      obtain ⟨⟨⟨ho, rfl⟩, hl⟩, rfl⟩ := h1
      obtain ⟨po, pb⟩ := pv_own W ho
      refine ⟨fun pins s σ H D I hq => ?_⟩
      obtain ⟨⟨l, rfl, hH, hn, hk⟩, hq⟩ := hq
      refine (ps_if (u := tNext) (t := fun _ _ _ => False) (PW.pt (pw_or (pt_cmpR op_ne (pe_bm PySem.F.plainAttrs_list PySem.F.slot_list_count PySem.F.type_list_count mt_countB po (pa_cons (pe_bl (b := true)) pa_nil) (pb _) (by rfl) (by rw [hl]; exact beq_self_eq_true _)) pe_int (nomark _)) (pw_or1 (pt_not (pt_val (pe_isinV W h2) ?_))))) ⟨fun _ _ _ _ _ _ z => z.elim⟩ pss_nil).run pins s _ H D I ?_
      · unfold isinB at h2
        split at h2
        · intro _; rfl
        · cases h2
      · refine ⟨.ref l, rfl, .inl ⟨rfl, _, .inl (.inl hH)⟩, l, _, rfl, rfl, .inl (.inl hH), ?_⟩
        have e1 : (allB c).count true = 1 := allB_count ⟨c, W.c7⟩
        rw [e1]
        refine ⟨rfl, ?_⟩
        refine ⟨false, by rfl, ?_⟩
        show (if false = true then _ else _)
        rw [if_neg (by decide)]
        refine ⟨rfl, true, rfl, ?_⟩
        show (if (!true) = true then _ else _)
        rw [if_neg (by decide)]
        exact hq _ _ ⟨l, rfl, hH, hn, hk⟩
    · cases h1
  · cases h
theorem ps_lastW (W : WAt X p cv c D) {st : Stmt} (h : lastB st = true) (H0 : Hp) : PS X st (fun D' σ H => OwnAt p H0 (allB c) σ H ∧ ∀ t H', H0 t = none → H' t = some (.tup [.str (ofT raisedT), .int (c : Nat)]) → (∀ a o, H0 a = some o → H' a = some o) → D'.rt (.ref t) H') := by
  unfold lastB at h
  split at h
  · rename_i r u1 u2 e u3 u4 u5
    simp only [Bool.and_eq_true, beq_iff_eq] at h
    obtain ⟨rfl, h⟩ := h
    unfold idxB at h
    split at h
    · rename_i o m ap u6 u7 cp
      simp only [Bool.and_eq_true, beq_iff_eq] at h
      obtain ⟨⟨ho, rfl⟩, hl⟩ := h
      obtain ⟨po, pb⟩ := pv_own W ho
      refine ⟨fun pins s σ H D I hq => ?_⟩
      obtain ⟨⟨l, rfl, hH, hn, hk⟩, hq⟩ := hq
      refine (ps_ret (pe_tup (pa_cons pe_str (pa_cons (pe_bm PySem.F.plainAttrs_list PySem.F.slot_list_index PySem.F.type_list_index mt_index po (pa_cons (pe_bl (b := true)) pa_nil) (pb _) (by rfl) (by rw [hl]; exact beq_self_eq_true _)) pa_nil)))).run pins s _ H D I ?_
      refine ⟨.ref l, rfl, .inl ⟨rfl, _, .inl (.inl hH)⟩, l, _, .bl true, c, .bl true, rfl, rfl, .inl (.inl hH), rfl, ?_, ?_, rfl, ?_, ?_⟩
      · have : ∀ bs : List Bool, (bs.map V.bl).all flatV = true := by
          intro bs
          induction bs with
          | nil => rfl
          | cons b r ih => rw [List.map_cons, List.all_cons, ih]; rfl
        exact this _
      · have : ∀ c : Fin 7, ((allB c.1).map V.bl)[c.1]? = some (V.bl true) := by
          intro c
          have h : ∀ c : Fin 7, (allB c.1)[c.1]? = some true := by decide
          rw [List.getElem?_map, h c]
          rfl
        exact this ⟨c, W.c7⟩
      · intro m z' hm hz
        have h : ∀ c m : Fin 7, m.1 < c.1 → (allB c.1)[m.1]? = some false := by decide
        have c7 := W.c7
        rw [List.getElem?_map, h ⟨c, c7⟩ ⟨m, by omega⟩ hm] at hz
        cases hz
        rfl
      · refine ⟨by show 2 ≤ sizeLine; rw [big_eq]; decide, fun t ht => ?_⟩
        have hr : ("raised" : Str) = ofT raisedT := by decide +kernel
        rw [hr]
        refine hq t _ ?_ upd_same fun a o e => ?_
        · cases h0 : H0 t with
          | none => rfl
          | some o => rw [hk t o h0] at ht; cases ht
        · rw [upd_ne (ne_of_none (hk a o e) ht)]
          exact hk a o e
    · cases h
  · cases h
end
/-! ### _law_which, called within an except suite -/
def WhichOk (P : Program) (w : World) (K : PySem.W.Frag) (mg : Str → Option Value) (base : Heap) (cv : Nat → Value) (k : Nat) (f : Addr) (fd : FuncData) : Prop :=
  ∀ (c : Nat) (D : Addr), c < 7 → cv c = .ref D → ∀ (A : Around) (outer : List PySem.Env) (s : Shared) (H : Hp) (args : Args) (Q : VK) (E : XK) (p : Addr × Obj), L2H.RoomH k A → L2H.Hot1 A p → L2H.PinOk outer H s p → Zc (.ref D) none p.2 → Env0 P w K mg base A outer s H →
    BindsTo s fd args [(("_law_error" : Str), .ref p.1)] → (∀ t H', H t = none → H' t = some (.tup [.str (ofT raisedT), .int (c : Nat)]) → (∀ a o, H a = some o → H' a = some o) → Q (.ref t) H') → codeAny (model P w) A (.call (.ref f) args) (CR (L2N.CX P w) outer P w H s Q E) s
theorem WhichOk.mono {P : Program} {w : World} {K : PySem.W.Frag} {mg : Str → Option Value} {base : Heap} {cv : Nat → Value} {j k : Nat} {f : Addr} {fd : FuncData} (h : WhichOk P w K mg base cv j f fd) (hk : j ≤ k) : WhichOk P w K mg base cv k f fd :=
  fun c D h7 hc A outer s H args Q E p r => h c D h7 hc A outer s H args Q E p (r.mono hk)
theorem which_ok {P : Program} {w : World} {K : PySem.W.Frag} {mg : Str → Option Value} {base : Heap} {cv : Nat → Value} {x qual : Str} {st : Stmt} {f : Addr} {fd : FuncData} (F : Fun K x qual st f fd) (S : FnScope [("_law_error" : Str), "_law_own"] [("_law_error" : Str)] (defScope st))
    (hb : whichB (defBody st) = true) (WF : WFacts K mg cv) (l1 : (defScope st).names.lookup ("_law_error" : Str) = some NameKind.local) (l2 : (defScope st).names.lookup ("_law_own" : Str) = some NameKind.local)
    (gl : ∀ y ∈ ("isinstance" : Str) :: "ValueError" :: wNames, (defScope st).names.lookup y = some NameKind.globalImplicit) : WhichOk P w K mg base cv 1 f fd := by
  intro c D h7 hc A outer s H args Q E p hr hot hpin hz e0 hbd hq
  obtain ⟨oc, od, kV, doc, pm, an, cdv, ct, osl, rfl, lk, hcd⟩ := F.ex
  have KX : K.In s.heap := e0.mod.kin.keeps fun b o e => (e0.bs b o e).1
  have lim : s.heap.NoLimit := e0.mod.nolimit.keeps fun b o e => (e0.bs b o e).1
  have hkind : ∀ y ∈ ([("_law_error" : Str)]).zip [Value.ref p.1], (defScope st).names.lookup y.1 = some .local ∨ ((defScope st).names.lookup y.1 = some .cell ∧ ((cellsFrom (s.heap.objs.size + 1) (defScope st).names []).lookup y.1).isSome = true) := fun ⟨n, v⟩ hy => by
    rcases S.par n (List.of_mem_zip hy).1 with q | q
    · exact .inl q
    · exact .inr ⟨q, PySem.W.cellsFrom_some _ _ _ (.inl q)⟩
  refine codeAny_call_function hr.depth (KX _ _ lk) rfl S.co S.gen rfl (PySem.W.codeRec_of KX hcd) (hbd _ _ _ _ ?_)
  refine wpAny_newFunctionEnv_cells S.kind hkind fun env he s1 x => ?_
  subst he
  refine ⟨lim.keeps x.toInCall.keep, codeAny_func ?_⟩
  have r : Vals [V.ref p.1] [Value.ref p.1] := .cons rfl .nil
  have I : Inv (L2H.cxH (L2N.CX P w) P w K mg base [("_law_error" : Str), "_law_own"] qual (defScope st) f cdv A outer s H E p) [] (L2.start [("_law_error" : Str), "_law_own"] [V.ref p.1]) H s1 := L2H.inv_startH S hpin e0 rfl r x
  obtain ⟨_, vs, hvs, _⟩ := hot
  have W : WAt (L2H.cxH (L2N.CX P w) P w K mg base [("_law_error" : Str), "_law_own"] qual (defScope st) f cdv A outer s H E p) p cv c D :=
    ⟨WF, rfl, List.mem_singleton.mpr rfl, hz, ⟨vs, hvs⟩, h7, hc, l1, l2, gl⟩
  have fin : ∀ {σ' : L2.St} {H' : Hp} {v : V} {u : Value} {s' : Shared}, Inv (L2H.cxH (L2N.CX P w) P w K mg base [("_law_error" : Str), "_law_own"] qual (defScope st) f cdv A outer s H E p) [] σ' H' s' → RelV v u → Q v H' → CE outer P w H s Q u s' :=
    fun {σ' H' v u s'} J rv q => ⟨v, H', J.os, J.bare, J.base, J.hok, rv, q⟩
  generalize defBody st = body at hb ⊢
  unfold whichB at hb
  split at hb
  · rename_i s0 s1' s2 s3 s4 s5 s6
    simp only [Bool.and_eq_true] at hb
    obtain ⟨⟨⟨⟨⟨⟨b0, b1⟩, b2⟩, b3⟩, b4⟩, b5⟩, b6⟩ := hb
    have hx0 : ∀ (j : Nat) y, [("InvalidDate" : Str), "InvalidSpan"][j]? = some y → wNames[0 + j]? = some y := fun j y h => by
      rcases j with _ | _ | j
      · exact h
      · exact h
      · simp at h
    have hx1 : ∀ (j : Nat) y, [("InvalidPattern" : Str)][j]? = some y → wNames[2 + j]? = some y := fun j y h => by
      rcases j with _ | j
      · exact h
      · simp at h
    have hx2 : ∀ (j : Nat) y, [("InvalidPatterns" : Str), "InvalidText"][j]? = some y → wNames[3 + j]? = some y := fun j y h => by
      rcases j with _ | _ | j
      · exact h
      · exact h
      · simp at h
    have hx3 : ∀ (j : Nat) y, [("Unreadable" : Str)][j]? = some y → wNames[5 + j]? = some y := fun j y h => by
      rcases j with _ | j
      · exact h
      · simp at h
    refine wpAny_mono ((pss_cons (ps_asgOwn W (k := 0) hx0 (by decide) b0) (pss_cons (ps_ext W (k := 2) hx1 (by decide) b1 [decide (c = 0), decide (c = 1)] (by simp) H) (pss_cons (ps_ext W (k := 3) hx2 (by decide) b2 [decide (c = 0), decide (c = 1), decide (c = 2)] (by simp) H)
      (pss_cons (ps_ext W (k := 5) hx3 (by decide) b3 [decide (c = 0), decide (c = 1), decide (c = 2), decide (c = 3), decide (c = 4)] (by simp) H) (pss_cons (ps_appW W (k := 6) (by decide) b4 [decide (c = 0), decide (c = 1), decide (c = 2), decide (c = 3), decide (c = 4), decide (c = 5)] (by simp) H)
      (pss_cons (ps_ifW W b5 H) (pss_one (ps_lastW W b6 H)))))))).run [] s1 _ H { nx := fun _ _ => False, rt := Q } I ?_) (fun fl s' hs => ?_) fun e s' hs => hs
    · refine ⟨none, rfl, fun σ1 H1 o1 => ⟨o1, fun σ2 H2 o2 => ⟨o2, fun σ3 H3 o3 => ⟨o3, fun σ4 H4 o4 => ⟨o4, fun σ5 H5 o5 => ⟨o5, fun σ6 H6 o6 => ⟨o6, fun t H7 g1 g2 g3 => hq t H7 g1 g2 g3⟩⟩⟩⟩⟩⟩⟩
    · cases fl with
      | ret u =>
        obtain ⟨v, σ', H', J, rv, q⟩ := hs
        exact fin J rv q
      | next =>
        obtain ⟨σ', H', J, q⟩ := hs
        exact False.elim q
      | brk =>
        obtain ⟨_, _, _, q⟩ := hs
        exact False.elim q
      | cont =>
        obtain ⟨_, _, _, q⟩ := hs
        exact False.elim q
  · cases hb
end PyI
set_option autoImplicit false
set_option linter.all false
set_option Elab.async false
set_option maxRecDepth 100000
set_option maxHeartbeats 4000000
namespace PyI
open PySem PySem.Spec PyProof.Rows L2
/-! ### the look: does the IR say what the text says -/
structure CS where
  N : List Str
  fns : List (Str × (Nat × Nat))
  gls : List (Str × Nat)
  mts : List (Str × (Nat × Nat))
def nameOk (x : Str) : Bool := !(x == ("__debug__" : Str)) && !(x == ("__classdict__" : Str)) && !(x == ("__name__" : Str))
def visB (sc : Scope) (x : Str) : Bool := match sc.names.lookup x with
  | some .local => true | some .cell => true | some .free => true | _ => false
def locB (sc : Scope) (x : Str) : Bool := match sc.names.lookup x with
  | some .local => true | some .cell => true | _ => false
def glB (sc : Scope) (x : Str) : Bool := match sc.names.lookup x with
  | some .globalImplicit => true | _ => false
def opBe : BOp → Operator → Bool
  | .add, .Add | .sub, .Sub | .mul, .Mult | .div, .FloorDiv | .mod, .Mod | .pow, .Pow => true
  | _, _ => false
def opCe : COp → CmpOp → Bool
  | .eq, .Eq | .ne, .NotEq | .lt, .Lt | .le, .LtE | .gt, .Gt | .ge, .GtE | .is, .Is | .isn, .IsNot | .isin, .In | .nin, .NotIn => true
  | _, _ => false
def noSet : Expr → Bool
  | .Set .. => false | .Starred .. => false | .Slice .. => false | _ => true
def plainBase : Expr → Bool
  | .Call (.Name _ _) [] [] _ => false
  | _ => true
def mName : MI → Str
  | .append => "append" | .extend => "extend" | .pop => "pop" | .popAt => "pop" | .index => "index" | .insert => "insert" | .join => "join" | .isalpha => "isalpha" | .split => "split"
  | .partition => "partition" | .startswith => "startswith" | .sindex => "index" | .get => "get" | .setdefault => "setdefault" | .lcount => "count"
def mArity : MI → Nat
  | .pop | .isalpha => 0 | .get | .setdefault | .insert => 2 | _ => 1
def mKnown : MI → Bool
  | .append | .extend | .pop | .popAt | .index | .insert | .join | .isalpha | .split | .partition | .startswith | .sindex | .get | .setdefault => true
  | _ => false
def bName : BI → Str
  | .dictP => "dict" | .len => "len" | .str => "str" | .int => "int" | .tuple => "tuple" | .list => "list" | .lrange => "list" | .sum => "sum" | .all => "all" | .any => "any" | .min => "min" | .max => "max" | .min2 => "min" | .max2 => "max"
  | .isInt => "isinstance" | .isBool => "isinstance" | .isStr => "isinstance" | .isTup => "isinstance" | .isSeq => "isinstance" | .lenset => "len" | .minD => "min" | .maxD => "max" | .sumL => "sum" | .sortD => "sorted"
def bKnown : BI → Bool
  | .dictP | .len | .str | .int | .tuple | .list | .sum | .all | .any | .min | .max | .min2 | .max2 | .minD | .maxD | .sumL | .sortD => true
  | _ => false
def isiT : BI → Option Str
  | .isInt => some "int" | .isBool => some "bool" | .isStr => some "str" | .isTup => some "tuple" | _ => none
def isSeqB : BI → Bool
  | .isSeq => true
  | _ => false
def isTupE : Expr → Bool
  | .Tuple .. => true | _ => false
/-- the walked things of a for: its arguments -/
def iterArgs (sc : Scope) (k : ItK) (tg iter : Expr) : Option (List Expr) := match k with
  | .seq | .keys => some [iter]
  | .vals => match iter with
    | .Call (.Attribute e x p) [] [] q => if x == ("values" : Str) && plainBase e && (p.endLine == q.line) then some [e] else none
    | _ => none
  | .rng1 => match iter with
    | .Call (.Name x _) [a] [] _ => if x == ("range" : Str) && glB sc x then some [a] else none
    | _ => none
  | .rng2 => match iter with
    | .Call (.Name x _) [a, b] [] _ => if x == ("range" : Str) && glB sc x then some [a, b] else none
    | _ => none
  | .rng3 => match iter with
    | .Call (.Name x _) [a, b, c] [] _ => if x == ("range" : Str) && glB sc x then some [a, b, c] else none
    | _ => none
  | .enm => match iter with
    | .Call (.Name x _) [a] [] _ => if x == ("enumerate" : Str) && glB sc x && isTupE tg then some [a] else none
    | _ => none
  | .zip2 => match iter with
    | .Call (.Name x _) [a, b] [] _ => if x == ("zip" : Str) && glB sc x && isTupE tg then some [a, b] else none
    | _ => none
  | .zip3 => match iter with
    | .Call (.Name x _) [a, b, c] [] _ => if x == ("zip" : Str) && glB sc x && isTupE tg then some [a, b, c] else none
    | _ => none
def chkN (N : List Str) (sc : Scope) (i : Nat) : Expr → Bool
  | .Name x _ => (N[i]? == some x) && locB sc x
  | _ => false
def chkNs (N : List Str) (sc : Scope) : List Nat → List Expr → Bool
  | [], [] => true
  | i :: r, e :: t => chkN N sc i e && chkNs N sc r t
  | _, _ => false
def chkT (N : List Str) (sc : Scope) : Tg → Expr → Bool
  | .nm i, e => chkN N sc i e
  | .tp l, .Tuple es _ _ => chkNs N sc l es
  | _, _ => false
def tgIx : Tg → List Nat
  | .nm i => [i]
  | .tp l => l
def ownOf (N : List Str) (own : List Nat) : List (Str × Nat) := own.map fun i => (N.getD i ("" : Str), i)
def boRest (op : BoolOp) (r : Expr) (rest : List Expr) (p : Pos) : Expr := match rest with
  | [] => r
  | _ => .BoolOp op (r :: rest) p
/-- a written row of defs -/
def selB (cs : CS) (sc : Scope) (n : Nat) : List Nat → List Expr → Bool
  | [], [] => true
  | f :: fs, .Name x _ :: es => (cs.fns.lookup x == some (f, n)) && glB sc x && nameOk x && selB cs sc n fs es
  | _, _ => false
def isCallE : Expr → Bool
  | .Call .. => true
  | _ => false
def isLst0 : IE → Bool
  | .lst .nil => true
  | _ => false
def selIx (cs : CS) (sc : Scope) : IE → Expr → Bool
  | .var j, .Name x _ => (cs.N[j]? == some x) && visB sc x && nameOk x
  | .bin .sub (.var j) (.int c), .BinOp (.Name x _) .Sub (.Constant (.int d) _ _) _ => (cs.N[j]? == some x) && visB sc x && nameOk x && (c == d)
  | _, _ => false
mutual
def chkE (cs : CS) : Scope → IE → Expr → Bool
  | sc, .var i, .Name x _ => (cs.N[i]? == some x) && visB sc x && nameOk x
  | sc, .glb k, .Name x _ => decide (k < 10) && (cs.gls.lookup x == some k) && glB sc x && nameOk x
  | sc, .glbsub k i, .Subscript (.Name x _) s _ => (k == 10) && (cs.gls.lookup x == some 10) && glB sc x && nameOk x && chkE cs sc i s
  | _, .int i, .Constant (.int j) _ _ => i == j
  | _, .str s, .Constant (.str t) _ _ => ofT s == t
  | _, .bl b, .Constant (.bool c) _ _ => b == c
  | _, .non, .Constant .none _ _ => true
  | sc, .bin op a b, .BinOp l o r _ => opBe op o && chkE cs sc a l && chkE cs sc b r
  | sc, .cmp op a b, .Compare l [o] [r] _ => opCe op o && chkE cs sc a l && chkE cs sc b r
  | sc, .chain o1 o2 a b c, .Compare l [p, q] [r, t] _ => opCe o1 p && opCe o2 q && chkE cs sc a l && chkE cs sc b r && chkE cs sc c t
  | sc, .neg a, .UnaryOp .USub e _ => chkE cs sc a e
  | sc, .and a b, .BoolOp .And (l :: r :: rest) p => chkE cs sc a l && chkE cs sc b (boRest .And r rest p)
  | sc, .or a b, .BoolOp .Or (l :: r :: rest) p => chkE cs sc a l && chkE cs sc b (boRest .Or r rest p)
  | sc, .orv a b, .BoolOp .Or [l, r] _ => isCallE l && isLst0 b && chkE cs sc a l && chkE cs sc b r
  | sc, .not a, .UnaryOp .Not e _ => chkE cs sc a e
  | sc, .ite c a b, .IfExp t x y _ => chkE cs sc c t && chkE cs sc a x && chkE cs sc b y
  | sc, .tup a, .Tuple es _ _ => decide (es.length ≤ 1000) && chkA cs sc a es
  | sc, .lst a, .List es _ => decide (es.length ≤ 1000) && chkA cs sc a es
  | _, .dic0, .Dict [] [] _ => true
  | sc, .sub a i, .Subscript v s _ => chkE cs sc a v && chkE cs sc i s
  | sc, .slice a lo hi, .Subscript v (.Slice l h none _) _ => chkE cs sc a v &&
      (match l with | none => isNil lo | some e => !isNil lo && chkE cs sc lo e) && (match h with | none => isNil hi | some e => !isNil hi && chkE cs sc hi e)
  | sc, .lrg a, .Call (.Name x _) [.Call (.Name y _) [e] [] _] [] _ => x == ("list" : Str) && y == ("range" : Str) && glB sc x && glB sc y && noSet e && chkE cs sc a e
  | sc, .newc f a, .Call (.Name x _) (e :: es) [] _ => (x == ("Reader" : Str)) && (cs.mts.lookup ("__init__" : Str) == some (f, es.length + 2)) && glB sc x && nameOk x && chkA cs sc a (e :: es)
  | sc, .mcl f o a, .Call (.Attribute v nm apos) es [] cpos => (cs.mts.lookup nm == some (f, es.length + 1)) && !(nm == fldS 0) && !(nm == fldS 1) && plainBase v && (apos.endLine == cpos.line) && decide (es.length ≤ 5) && chkE cs sc o v && chkA cs sc a es
  | sc, .lenc f o, .Call (.Name x _) [e] [] _ => (x == ("len" : Str)) && (cs.mts.lookup ("__len__" : Str) == some (f, 1)) && glB sc x && nameOk x && chkE cs sc o e
  | sc, .fld o f, .Attribute e nm _ => decide (f < 2) && (nm == fldS f) && plainBase e && (cs.gls.lookup ("Reader" : Str) == some 98) && chkE cs sc o e
  | sc, .selc fs i a, .Call (.Subscript (.List ns _) ix _) (e :: es) [] _ => decide (fs.length ≤ 100) && selB cs sc (es.length + 1) fs ns && selIx cs sc i ix && chkA cs sc a (e :: es)
  | sc, .rev a, .Subscript v (.Slice none none (some (.UnaryOp .USub (.Constant (.int j) _ _) _)) _) _ => j == 1 && chkE cs sc a v
  | sc, .call f a, .Call (.Name x _) (e :: es) [] _ => cs.fns.lookup x == some (f, es.length + 1) && glB sc x && nameOk x && chkA cs sc a (e :: es)
  | sc, .blt b a, .Call (.Name x _) (e :: es) [] _ => (x == bName b) && glB sc x && nameOk x &&
      (match isiT b with
        | some T => (match es with
          | [.Name y _] => (y == T) && glB sc y && nameOk y && chkA cs sc a [e]
          | _ => false)
        | none => if isSeqB b then (match es with
            | [.Tuple [.Name y _, .Name z _] _ _] => (y == ("list" : Str)) && (z == ("tuple" : Str)) && glB sc y && glB sc z && chkA cs sc a [e]
            | _ => false)
          else bKnown b && chkA cs sc a (e :: es))
  | sc, .meth m o a, .Call (.Attribute v nm apos) es [] cpos => (mName m == nm) && mKnown m && plainBase v && (apos.endLine == cpos.line) && (es.length == mArity m) && chkE cs sc o v && chkA cs sc a es
  | sc, .comp t k its own c e, .ListComp elt [⟨tg, iter, ifs, as⟩] scope _ => (as == 0) && noSet iter && (match iterArgs sc k tg iter with | some es => chkA cs sc its es | none => false) && chkT cs.N scope t tg &&
      ((tgIx t).all fun i => own.contains i) && blkC cs.N sc scope (ownOf cs.N own) && (own.all fun i => i < cs.N.length) && chkE cs scope e elt && (match ifs with | [] => isNil c | [x] => !isNil c && chkE cs scope c x | _ => false)
  | _, _, _ => false
def chkA (cs : CS) : Scope → IE → List Expr → Bool
  | _, .nil, [] => true
  | sc, .cons a b, e :: es => chkE cs sc a e && chkA cs sc b es
  | _, _, _ => false
end
/-! ### contexts -/
def PostR (K : PySem.W.Frag) (α : List Addr) (H : Hp) (R : PR) (cv : Nat → Value) (W' : Value → Hp → Prop) : Prop := ∀ (c : Nat) (S' : Store) (α' : List Addr) (H' : Hp), R c S' → Le K α H α' H' → Sim K S' α' H' → W' (cv c) H'
def spOf (K : PySem.W.Frag) (ct : Ct) (n : Nat) (cv : Nat → Value) : Sp := fun vs H Q E => ∃ (α : List Addr) (S : Store) (ds : List PV) (Q0 : PQ) (R0 : PR), ds.length = n ∧ Sim K S α H ∧ VRs K α H ds vs ∧
  ct ds S Q0 R0 ∧ Post K α H Q0 Q ∧ PostR K α H R0 cv (fun c H' => E c none H')
/-- an exception class of the program -/
structure ExcAt (K : PySem.W.Frag) (mg : Str → Option Value) (x : Str) (v : Value) : Prop where
  ex : ∃ C : Addr, v = .ref C ∧ mg x = some (.ref C) ∧ PySem.W.keepIn K (.ref C) = true ∧ PySem.W.excIn K C [.type "ValueError", .type "Exception", .type "BaseException", .type "object"] "ValueError.__new__" = true ∧
    PySem.W.subIn K (.ref C) (.type "BaseException") = some true ∧ PySem.W.typeIn K (.ref C) = some (.type "type")
/-- what except suites need: the base class, _law_which -/
structure HotAt (P : Program) (w : World) (K : PySem.W.Frag) (mg : Str → Option Value) (base : Heap) (cv : Nat → Value) (k : Nat) : Prop where
  ex : ∃ D : Addr, mg "DateError" = some (.ref D) ∧ ∀ c, c < 7 → ∃ C : Addr, cv c = .ref C ∧ PySem.W.exmOne K (.ref C) (.ref D) = some true
  wh : ∃ (f : Addr) (fd : FuncData), mg "_law_which" = some (.ref f) ∧ PySem.W.keepIn K (.ref f) = true ∧ Binds K fd [("_law_error" : Str)] [] ∧ WhichOk P w K mg base cv k f fd
/-- the program's one class -/
structure ClsAt (K : PySem.W.Frag) (mg : Str → Option Value) (C : Addr) : Prop where
  nm : PySem.W.nsIn K mainGlobals ("Reader" : Str) = some (some (.ref C))
  g : mg "Reader" = some (.ref C)
  cl : Cls K C
  n0 : NoAttr K C (fldS 0)
  n1 : NoAttr K C (fldS 1)
structure FmtAt (K : PySem.W.Frag) (mg : Str → Option Value) (cv : Nat → Value) : Prop where
  ex : ∃ C : Addr, cv 6 = .ref C ∧ mg "InvalidFormat" = some (.ref C) ∧ PySem.W.exmOne K (.ref C) (.ref C) = some true
structure XOk (X : Cx) (cs : CS) (sc : Scope) (Γ : Sig) (W : WX) (cv : Nat → Value) : Prop where
  hN : X.N = cs.N
  nd : X.N.Nodup
  vis : ∀ x, visB sc x = true → Vis X.env.scope x
  loc : ∀ x, locB sc x = true → Loc X.env.scope x ∧ (X.fn x = true ∨ X.env.scope.names.lookup x = some .local)
  fre : ∀ x, sc.names.lookup x = some .cell ∨ sc.names.lookup x = some .free → X.env.scope.names.lookup x = some .cell ∨ X.env.scope.names.lookup x = some .free
  gl : ∀ x, glB sc x = true → Gl X x
  calm : X.calm = true
  units : X.A.units + 65 < cLine
  fn : ∀ x f n, cs.fns.lookup x = some (f, n) → ∃ a fd ps k, X.mg x = some (.ref a) ∧ FnOk X.prog X.w X.K X.mg X.base (L2N.CX X.prog X.w) k a fd ps (spOf X.K (Γ.ct f) n cv) ∧ Room k X.A ∧ PySem.W.keepIn X.K (.ref a) = true ∧ Binds X.K fd ps []
  lng : ∀ x, cs.gls.lookup x = some 10 → ∃ a, X.mg x = some (.ref a) ∧ ∀ t n, lngT.lookup t = some n → KDct X.K X.w a (ofT t) (.int n)
  glo : ∀ x g, g < 10 → cs.gls.lookup x = some g → ∃ v u u', Γ.gl g = some v ∧ X.mg x = some u ∧ RelV u' u ∧ ∀ α H, VR X.K α H v u'
  blt : ∀ x : Str, x ∈ ([("len" : Str), "str", "int", "tuple", "list", "sum", "all", "any", "min", "max", "isinstance", "range", "enumerate", "zip", "bool", "set", "sorted", "dict"] : List Str) → X.mg x = none
  tk : L2N.Takes X W
  exc : ∀ x c, cs.gls.lookup x = some (100 + c) → ExcAt X.K X.mg x (cv c)
  hot : cs.gls.lookup ("DateError" : Str) = some 99 → ∃ k, HotAt X.prog X.w X.K X.mg X.base cv k ∧ L2H.RoomH (k + 1) X.A
  fmt : cs.gls.lookup ("InvalidFormat" : Str) = some 106 → FmtAt X.K X.mg cv
  cls : cs.gls.lookup ("Reader" : Str) = some 98 → ∃ C, ClsAt X.K X.mg C
  mts : ∀ m f n, cs.mts.lookup m = some (f, n) → ∃ C ad fd ps k, ClsAt X.K X.mg C ∧ Meth X.K C m ad ∧ FnOk X.prog X.w X.K X.mg X.base (L2N.CX X.prog X.w) k ad fd ps (spOf X.K (Γ.ct f) n cv) ∧ Room (k + 1) X.A ∧ Binds X.K fd ps [] ∧ (m = ("__init__" : Str) → Mk X.K C ad)
def tE (X : Cx) (e : Expr) : TE := fun σ H Q' => ∀ (pins : List (Addr × Obj)) (s : Shared), Inv X pins σ H s → wpAny (model X.prog X.w) X.A (eval e X.env) (EP X pins σ Q') X.xe s
def tT (X : Cx) (e : Expr) : TT := fun σ H Q' => ∀ (pins : List (Addr × Obj)) (s : Shared), Inv X pins σ H s → wpAny (model X.prog X.w) X.A (isTrue e X.env (eval e X.env)) (TP X pins σ Q') X.xe s
def tAr (X : Cx) (es : List Expr) : TA := fun σ H Q' => ∀ (pos : Pos) (pins : List (Addr × Obj)) (s : Shared), Inv X pins σ H s → wpAny (model X.prog X.w) X.A (spliced (backTo pos (starEach es X.env))) (AP X pins σ Q') X.xe s
theorem pe_sem (X : Cx) (e : Expr) : PE X e (tE X e) := ⟨fun pins s σ H Q I h => h pins s I⟩
theorem pt_sem (X : Cx) (e : Expr) : PT X e (tT X e) := ⟨fun pins s σ H Q I h => h pins s I⟩
theorem pa_sem (X : Cx) (e : List Expr) : PA X e (tAr X e) := ⟨fun pos pins s σ H Q I h => h pos pins s I⟩
structure ER (K : PySem.W.Frag) (α : List Addr) (H : Hp) (ρ : Env) (σ : L2.St) : Prop where
  len : ρ.length = σ.length
  at_ : ∀ (i : Nat) (d : PV), getv ρ i = some d → ∃ v, σ[i]? = some (some v) ∧ VR K α H d v
theorem ER.mono {K : PySem.W.Frag} {α α' : List Addr} {H H' : Hp} {ρ : Env} {σ : L2.St} (e : ER K α H ρ σ) (l : Le K α H α' H') : ER K α' H' ρ σ := ⟨e.len, fun i d h => let ⟨v, h1, h2⟩ := e.at_ i d h; ⟨v, h1, h2.mono l⟩⟩
theorem PostR.le {K : PySem.W.Frag} {α α' : List Addr} {H H' : Hp} {R : PR} {cv : Nat → Value} {W' : Value → Hp → Prop} (p : PostR K α H R cv W') (l : Le K α H α' H') : PostR K α' H' R cv W' := fun c S' a h r l' s => p c S' a h r (l.trans l') s
def SE (X : Cx) (W : WX) (cv : Nat → Value) (e : Expr) (P : Env → Store → PQ → PR → Prop) : Prop :=
  ∀ (ρ : Env) (S : Store) (Q : PQ) (R : PR), P ρ S Q R → ∀ (σ : L2.St) (H : Hp) (α : List Addr), ER X.K α H ρ σ → Sim X.K S α H → ∀ Q' : VK, Post X.K α H Q Q' → PostR X.K α H R cv (fun c H' => W c none σ H') → tE X e σ H Q'
def PostB (K : PySem.W.Frag) (α : List Addr) (H : Hp) (Q : Bool → Store → Prop) (Q' : Bool → Hp → Prop) : Prop := ∀ (b : Bool) (S' : Store) (α' : List Addr) (H' : Hp), Q b S' → Le K α H α' H' → Sim K S' α' H' → Q' b H'
def STt (X : Cx) (W : WX) (cv : Nat → Value) (e : Expr) (P : Env → Store → PQ → PR → Prop) : Prop :=
  ∀ (ρ : Env) (S : Store) (Q : Bool → Store → Prop) (R : PR), P ρ S (tst Q) R → ∀ (σ : L2.St) (H : Hp) (α : List Addr), ER X.K α H ρ σ → Sim X.K S α H → ∀ Q' : Bool → Hp → Prop, PostB X.K α H Q Q' → PostR X.K α H R cv (fun c H' => W c none σ H') → tT X e σ H Q'
def SA (X : Cx) (W : WX) (cv : Nat → Value) (es : List Expr) (P : Env → Store → (List PV → Store → Prop) → PR → Prop) : Prop :=
  ∀ (ρ : Env) (S : Store) (Q : List PV → Store → Prop) (R : PR), P ρ S Q R → ∀ (σ : L2.St) (H : Hp) (α : List Addr), ER X.K α H ρ σ → Sim X.K S α H →
    ∀ Q' : List V → Hp → Prop, (∀ ds S' α' H' vs, Q ds S' → ds.length = es.length → Le X.K α H α' H' → Sim X.K S' α' H' → VRs X.K α' H' ds vs → Q' vs H') → PostR X.K α H R cv (fun c H' => W c none σ H') → tAr X es σ H Q'
/-! ### facts about texts -/
theorem noSet_star {e : Expr} (h : noSet e = true) (es : List Expr) (env : PySem.Env) : starEach (e :: es) env = (false, eval e env) :: starEach es env := by
  cases e <;> first | rfl | cases h
theorem base_ok {o : Expr} (h : plainBase o = true) (nm : Str) (env : PySem.Env) (w : Sem Value) : attributeBase o nm env w = w := by
  unfold attributeBase
  split
  · cases h
  · rfl
theorem chkE_noSet {cs : CS} {sc : Scope} {ie : IE} {e : Expr} (h : chkE cs sc ie e = true) : noSet e = true := by
  cases e <;> first | rfl | skip
  all_goals (cases ie <;> simp [chkE] at h)
theorem chkA_len {cs : CS} {sc : Scope} : ∀ {ie : IE} {es : List Expr}, chkA cs sc ie es = true → ∀ e ∈ es, noSet e = true
  | .nil, [], _, _, m => by cases m
  | .cons a b, e :: es, h, x, m => by
    simp only [chkA, Bool.and_eq_true] at h
    rcases List.mem_cons.mp m with rfl | m
    · exact chkE_noSet h.1
    · exact chkA_len h.2 x m
theorem star_all {env : PySem.Env} : ∀ {es : List Expr}, (∀ e ∈ es, noSet e = true) → starEach es env = es.map fun e => (false, eval e env)
  | [], _ => rfl
  | e :: es, h => by rw [noSet_star (h e List.mem_cons_self), star_all fun x hx => h x (List.mem_cons_of_mem _ hx)]; rfl
end PyI
set_option autoImplicit false
set_option linter.all false
set_option Elab.async false
set_option maxRecDepth 100000
set_option maxHeartbeats 4000000
namespace PyI
open PySem PySem.Spec PyProof.Rows L2
variable {X : Cx} {cs : CS} {sc : Scope} {Γ : Sig} {W : WX} {cv : Nat → Value}
theorem opBe_eq {op : BOp} {o : Operator} (h : opBe op o = true) : o = opB op := by
  cases op <;> cases o <;> first | rfl | cases h
theorem opCe_eq {op : COp} {o : CmpOp} (h : opCe op o = true) : o = opC op := by
  cases op <;> cases o <;> first | rfl | cases h
theorem getv_eq : ∀ {ρ : Env} {i : Nat} {d : PV}, getv ρ i = some d → ρ[i]? = some (some d)
  | [], _, _, h => by simp [getv] at h
  | o :: _, 0, _, h => by simp [getv] at h; simp [h]
  | _ :: r, i + 1, _, h => by simp only [getv] at h; simpa using getv_eq h
theorem getv_of : ∀ {ρ : Env} {i : Nat} {d : PV}, ρ[i]? = some (some d) → getv ρ i = some d
  | [], _, _, h => by simp at h
  | o :: _, 0, _, h => by simp at h; simp [getv, h]
  | _ :: r, i + 1, _, h => by simp only [getv]; exact getv_of (by simpa using h)
theorem nm1 {x : Str} (h : nameOk x = true) : (x == ("__debug__" : Str)) = false ∧ (x == ("__classdict__" : Str)) = false ∧ x ≠ ("__name__" : Str) := by
  unfold nameOk at h
  simp only [Bool.and_eq_true, Bool.not_eq_true'] at h
  exact ⟨h.1.1, h.1.2, fun e => by rw [e] at h; simp at h⟩
theorem behind0 {op : CmpOp} {e : Expr} (h : noSet e = true) : behindInMarks op e = false := by
  cases e <;> first | rfl | cases h
theorem se_var {i : Nat} {x : Str} {p : Pos} (ok : XOk X cs sc Γ W cv) (h1 : cs.N[i]? = some x) (h2 : visB sc x = true) (h3 : nameOk x = true) : SE X W cv (.Name x p) (wpE Γ (.var i)) := by
  intro ρ S Q R h σ H α er s Q' po pr pins st I
  rw [wpE] at h
  obtain ⟨v, hv, q⟩ := h
  obtain ⟨v', e, r⟩ := er.at_ i v hv
  exact (pe_var (i := i) (by rw [ok.hN]; exact h1) (ok.vis x h2) (nm1 h3).1 (nm1 h3).2.1).run pins st σ H Q' I ⟨v', e, post_same s po r q⟩
theorem se_glb {k : Nat} {x : Str} {p : Pos} (ok : XOk X cs sc Γ W cv) (h0 : k < 10) (h1 : cs.gls.lookup x = some k) (h2 : glB sc x = true) (h3 : nameOk x = true) : SE X W cv (.Name x p) (wpE Γ (.glb k)) := by
  intro ρ S Q R h σ H α er s Q' po pr pins st I
  rw [wpE] at h
  obtain ⟨v, hv, q⟩ := h
  obtain ⟨v', u, u', e, hm, ru, rv⟩ := ok.glo x k h0 h1
  rw [hv] at e; cases e
  exact (pe_glob (ok.gl x h2) hm ru (nm1 h3).1).run pins st σ H Q' I (post_same s po (rv α H) q)
theorem se_int {i : Int} {j : Nat} {p : Pos} : SE X W cv (.Constant (.int i) j p) (wpE Γ (.int i)) := by
  intro ρ S Q R h σ H α er s Q' po pr pins st I
  rw [wpE] at h
  exact (pe_int (X := X)).run pins st σ H Q' I (post_same s po (.int i) h)
theorem se_str {t : Txt} {j : Nat} {p : Pos} : SE X W cv (.Constant (.str (ofT t)) j p) (wpE Γ (.str t)) := by
  intro ρ S Q R h σ H α er s Q' po pr pins st I
  rw [wpE] at h
  exact (pe_str (X := X)).run pins st σ H Q' I (post_same s po (.str t) h)
theorem se_bl {b : Bool} {j : Nat} {p : Pos} : SE X W cv (.Constant (.bool b) j p) (wpE Γ (.bl b)) := by
  intro ρ S Q R h σ H α er s Q' po pr pins st I
  rw [wpE] at h
  exact (pe_bl (X := X)).run pins st σ H Q' I (post_same s po (.bl b) h)
theorem se_non {j : Nat} {p : Pos} : SE X W cv (.Constant .none j p) (wpE Γ .non) := by
  intro ρ S Q R h σ H α er s Q' po pr pins st I
  rw [wpE] at h
  exact (pe_non (X := X)).run pins st σ H Q' I (post_same s po .non h)
theorem se_bin {a b : IE} {l r : Expr} {op : BOp} {p : Pos} (ha : SE X W cv l (wpE Γ a)) (hb : SE X W cv r (wpE Γ b)) : SE X W cv (.BinOp l (opB op) r p) (wpE Γ (.bin op a b)) := by
  intro ρ S Q R h σ H α er s Q' po pr pins st I
  rw [wpE] at h
  obtain ⟨rr, hr, hv⟩ := snd_bin (X := X) op
  refine (pe_op hr (pe_sem X l) (pe_sem X r)).run pins st σ H Q' I ?_
  refine ha ρ S _ R h σ H α er s _ (fun d S1 α1 H1 v q l1 s1 rv => ?_) pr
  refine hb ρ S1 _ R q σ H1 α1 (er.mono l1) s1 _ (fun d2 S2 α2 H2 v2 q2 l2 s2 rv2 => ?_) (pr.le l1)
  exact hv _ _ _ _ _ _ _ _ _ q2 s2 (rv.mono l2) rv2 (po.le (l1.trans l2))
theorem se_cmp {a b : IE} {l r : Expr} {op : COp} {p : Pos} (ok : XOk X cs sc Γ W cv) (ns : noSet r = true) (ha : SE X W cv l (wpE Γ a)) (hb : SE X W cv r (wpE Γ b)) : SE X W cv (.Compare l [opC op] [r] p) (wpE Γ (.cmp op a b)) := by
  intro ρ S Q R h σ H α er s Q' po pr pins st I
  rw [wpE] at h
  obtain ⟨rr, hr, hv⟩ := snd_cmp (X := X) ok.units op
  refine (pe_cmpR hr (pe_sem X l) (pe_sem X r) (behind0 ns)).run pins st σ H Q' I ?_
  refine ha ρ S _ R h σ H α er s _ (fun d S1 α1 H1 v q l1 s1 rv => ?_) pr
  refine hb ρ S1 _ R q σ H1 α1 (er.mono l1) s1 _ (fun d2 S2 α2 H2 v2 q2 l2 s2 rv2 => ?_) (pr.le l1)
  exact hv _ _ _ _ _ _ _ _ _ q2 s2 (rv.mono l2) rv2 (po.le (l1.trans l2))
theorem st_cmp {a b : IE} {l r : Expr} {op : COp} {p : Pos} (ok : XOk X cs sc Γ W cv) (ns : noSet r = true) (ha : SE X W cv l (wpE Γ a)) (hb : SE X W cv r (wpE Γ b)) : STt X W cv (.Compare l [opC op] [r] p) (wpE Γ (.cmp op a b)) := by
  intro ρ S Q R h σ H α er s Q' po pr pins st I
  rw [wpE] at h
  obtain ⟨rr, hr, hv⟩ := snd_cmp (X := X) ok.units op
  refine (pt_cmpR hr (pe_sem X l) (pe_sem X r) (behind0 ns)).run pins st σ H Q' I ?_
  refine ha ρ S _ R h σ H α er s _ (fun d S1 α1 H1 v q l1 s1 rv => ?_) pr
  refine hb ρ S1 _ R q σ H1 α1 (er.mono l1) s1 _ (fun d2 S2 α2 H2 v2 q2 l2 s2 rv2 => ?_) (pr.le l1)
  refine hv _ _ _ _ _ _ _ _ _ q2 s2 (rv.mono l2) rv2 fun d3 S3 α3 H3 v3 q3 l3 s3 rv3 => ?_
  cases d3 <;> first | exact (show False from q3).elim | skip
  cases rv3
  exact ⟨_, rfl, po _ _ _ _ q3 ((l1.trans l2).trans l3) s3⟩
theorem chain_core {a b c : IE} {l r t : Expr} {o1 o2 : COp} (ok : XOk X cs sc Γ W cv) (ha : SE X W cv l (wpE Γ a)) (hb : SE X W cv r (wpE Γ b)) (hc : SE X W cv t (wpE Γ c)) {r1 r2 : R2}
    (hv1 : ∀ (x y : PV) (S : Store) (Q : PQ) (α : List Addr) (H : Hp) (x' y' : V) (Q' : VK), cmpop o1 x y S Q → Sim X.K S α H → VR X.K α H x x' → VR X.K α H y y' → Post X.K α H Q Q' → r1 x' y' H Q')
    (hv2 : ∀ (x y : PV) (S : Store) (Q : PQ) (α : List Addr) (H : Hp) (x' y' : V) (Q' : VK), cmpop o2 x y S Q → Sim X.K S α H → VR X.K α H x x' → VR X.K α H y y' → Post X.K α H Q Q' → r2 x' y' H Q')
    {ρ : Env} {S : Store} {Q : PQ} {R : PR} (h : wpE Γ (.chain o1 o2 a b c) ρ S Q R) {σ : L2.St} {H : Hp} {α : List Addr} (er : ER X.K α H ρ σ) (s : Sim X.K S α H) {Q' : VK} (po : Post X.K α H Q Q') (pr : PostR X.K α H R cv (fun c H' => W c none σ H')) :
    tChain r1 r2 (tE X l) (tE X r) (tE X t) σ H Q' := by
  rw [wpE] at h
  refine ha ρ S _ R h σ H α er s _ (fun d S1 α1 H1 v q l1 s1 rv => ?_) pr
  refine hb ρ S1 _ R q σ H1 α1 (er.mono l1) s1 _ (fun d2 S2 α2 H2 v2 q2 l2 s2 rv2 => ?_) (pr.le l1)
  refine hv1 _ _ _ _ _ _ _ _ _ q2 s2 (rv.mono l2) rv2 fun d3 S3 α3 H3 v3 q3 l3 s3 rv3 => ?_
  cases d3 <;> first | exact (show False from q3).elim | skip
  rename_i k
  cases rv3
  refine ⟨k, rfl, ?_⟩
  cases k with
  | true =>
    have q3' : wpE Γ c ρ S3 (fun z S4 => cmpop o2 d2 z S4 Q) R := q3
    rw [if_pos rfl]
    have l13 := (l1.trans l2).trans l3
    refine hc ρ S3 _ R q3' σ H3 α3 (er.mono l13) s3 _ (fun d4 S4 α4 H4 v4 q4 l4 s4 rv4 => ?_) (pr.le l13)
    exact hv2 _ _ _ _ _ _ _ _ _ q4 s4 (rv2.mono (l3.trans l4)) rv4 (po.le (l13.trans l4))
  | false =>
    have q3' : Q (.bl false) S3 := q3
    rw [if_neg (by decide)]
    exact po _ _ _ _ _ q3' ((l1.trans l2).trans l3) s3 (.bl _)
theorem se_chain {a b c : IE} {l r t : Expr} {o1 o2 : COp} {p : Pos} (ok : XOk X cs sc Γ W cv) (ns : noSet t = true) (ha : SE X W cv l (wpE Γ a)) (hb : SE X W cv r (wpE Γ b)) (hc : SE X W cv t (wpE Γ c)) : SE X W cv (.Compare l [opC o1, opC o2] [r, t] p) (wpE Γ (.chain o1 o2 a b c)) := by
  intro ρ S Q R h σ H α er s Q' po pr pins st I
  obtain ⟨r1, h1, hv1⟩ := snd_cmp (X := X) ok.units o1
  obtain ⟨r2, h2, hv2⟩ := snd_cmp (X := X) ok.units o2
  exact (pe_chain h1 h2 (pe_sem X l) (pe_sem X r) (pe_sem X t) (by show behindInMarks _ t = false; exact behind0 ns)).run pins st σ H Q' I (chain_core ok ha hb hc hv1 hv2 h er s po pr)
theorem st_chain {a b c : IE} {l r t : Expr} {o1 o2 : COp} {p : Pos} (ok : XOk X cs sc Γ W cv) (ns : noSet t = true) (ha : SE X W cv l (wpE Γ a)) (hb : SE X W cv r (wpE Γ b)) (hc : SE X W cv t (wpE Γ c)) : STt X W cv (.Compare l [opC o1, opC o2] [r, t] p) (wpE Γ (.chain o1 o2 a b c)) := by
  intro ρ S Q R h σ H α er s Q' po pr pins st I
  obtain ⟨r1, h1, hv1⟩ := snd_cmp (X := X) ok.units o1
  obtain ⟨r2, h2, hv2⟩ := snd_cmp (X := X) ok.units o2
  refine (pt_chain h1 h2 (pe_sem X l) (pe_sem X r) (pe_sem X t) (by show behindInMarks _ t = false; exact behind0 ns)).run pins st σ H Q' I (chain_core ok ha hb hc hv1 hv2 h er s (fun d3 S3 α3 H3 v3 q3 l3 s3 rv3 => ?_) pr)
  cases d3 <;> first | exact (show False from q3).elim | skip
  cases rv3
  exact ⟨_, rfl, po _ _ _ _ q3 l3 s3⟩
theorem se_neg {a : IE} {e : Expr} {p : Pos} (ha : SE X W cv e (wpE Γ a)) : SE X W cv (.UnaryOp .USub e p) (wpE Γ (.neg a)) := by
  intro ρ S Q R h σ H α er s Q' po pr pins st I
  rw [wpE] at h
  refine (pe_un un_neg (pe_sem X e)).run pins st σ H Q' I ?_
  refine ha ρ S _ R h σ H α er s _ (fun d S1 α1 H1 v q l1 s1 rv => ?_) pr
  cases d <;> first | exact (show False from q).elim | skip
  cases rv
  exact ⟨_, rfl, po _ _ _ _ _ q l1 s1 (.int _)⟩
/-- where a test is asked: a value that is True or False -/
theorem post_tst {K : PySem.W.Frag} {α : List Addr} {H : Hp} {Q : Bool → Store → Prop} {Q' : VK} (h : ∀ (b : Bool) (S' : Store) (α' : List Addr) (H' : Hp), Q b S' → Le K α H α' H' → Sim K S' α' H' → Q' (.bl b) H') : Post K α H (tst Q) Q' := by
  intro d S' α' H' v q l s r
  cases d <;> first | exact (show False from q).elim | skip
  cases r
  exact h _ _ _ _ q l s
theorem se_and {a b : IE} {l r : Expr} {rest : List Expr} {p : Pos} (ha : SE X W cv l (wpE Γ a)) (hb : SE X W cv (boRest .And r rest p) (wpE Γ b)) : SE X W cv (.BoolOp .And (l :: r :: rest) p) (wpE Γ (.and a b)) := by
  intro ρ S Q R h σ H α er s Q' po pr pins st I
  rw [wpE] at h
  have hB : PE X (.BoolOp .And (r :: rest) p) (tE X (boRest .And r rest p)) := by
    cases rest with
    | nil => exact pe_one (pe_sem X r)
    | cons y t => exact pe_sem X _
  refine (pe_and (pe_sem X l) hB).run pins st σ H Q' I ?_
  refine ha ρ S _ R h σ H α er s _ (post_tst fun k S1 α1 H1 q l1 s1 => ⟨k, rfl, ?_⟩) pr
  cases k with
  | true =>
    rw [if_pos rfl] at q ⊢
    exact hb ρ S1 _ R q σ H1 α1 (er.mono l1) s1 _ (po.le l1) (pr.le l1)
  | false =>
    rw [if_neg (by decide)] at q ⊢
    exact po _ _ _ _ _ q l1 s1 (.bl _)
theorem se_or {a b : IE} {l r : Expr} {rest : List Expr} {p : Pos} (ha : SE X W cv l (wpE Γ a)) (hb : SE X W cv (boRest .Or r rest p) (wpE Γ b)) : SE X W cv (.BoolOp .Or (l :: r :: rest) p) (wpE Γ (.or a b)) := by
  intro ρ S Q R h σ H α er s Q' po pr pins st I
  rw [wpE] at h
  have hB : PE X (.BoolOp .Or (r :: rest) p) (tE X (boRest .Or r rest p)) := by
    cases rest with
    | nil => exact pe_one (pe_sem X r)
    | cons y t => exact pe_sem X _
  refine (pe_or (pe_sem X l) hB).run pins st σ H Q' I ?_
  refine ha ρ S _ R h σ H α er s _ (post_tst fun k S1 α1 H1 q l1 s1 => ⟨k, rfl, ?_⟩) pr
  cases k with
  | true =>
    rw [if_pos rfl] at q ⊢
    exact po _ _ _ _ _ q l1 s1 (.bl _)
  | false =>
    rw [if_neg (by decide)] at q ⊢
    exact hb ρ S1 _ R q σ H1 α1 (er.mono l1) s1 _ (po.le l1) (pr.le l1)
theorem se_not {a : IE} {l : Expr} {p : Pos} (ha : SE X W cv l (wpE Γ a)) : SE X W cv (.UnaryOp .Not l p) (wpE Γ (.not a)) := by
  intro ρ S Q R h σ H α er s Q' po pr pins st I
  rw [wpE] at h
  refine (pe_not (pe_sem X l)).run pins st σ H Q' I ?_
  exact ha ρ S _ R h σ H α er s _ (post_tst fun k S1 α1 H1 q l1 s1 => ⟨k, rfl, po _ _ _ _ _ q l1 s1 (.bl _)⟩) pr
theorem st_and {a b : IE} {l r : Expr} {rest : List Expr} {p : Pos} (ha : STt X W cv l (wpE Γ a)) (hb : STt X W cv (boRest .And r rest p) (wpE Γ b)) : STt X W cv (.BoolOp .And (l :: r :: rest) p) (wpE Γ (.and a b)) := by
  intro ρ S Q R h σ H α er s Q' po pr pins st I
  rw [wpE] at h
  have hB : PW X (.BoolOp .And (r :: rest) p) (tT X (boRest .And r rest p)) := by
    cases rest with
    | nil => exact pw_and1 (pt_sem X r)
    | cons y t => exact ⟨fun whole pins s σ H Q I h => h pins s I⟩
  refine (PW.pt (pw_and (pt_sem X l) hB)).run pins st σ H Q' I ?_
  refine ha ρ S _ R h σ H α er s _ (fun k S1 α1 H1 q l1 s1 => ?_) pr
  cases k with
  | true =>
    rw [if_pos rfl] at q ⊢
    exact hb ρ S1 _ R q σ H1 α1 (er.mono l1) s1 _ (fun k S2 α2 H2 q l2 s2 => po _ _ _ _ q (l1.trans l2) s2) (pr.le l1)
  | false =>
    rw [if_neg (by decide)] at q ⊢
    exact po _ _ _ _ q l1 s1
theorem st_or {a b : IE} {l r : Expr} {rest : List Expr} {p : Pos} (ha : STt X W cv l (wpE Γ a)) (hb : STt X W cv (boRest .Or r rest p) (wpE Γ b)) : STt X W cv (.BoolOp .Or (l :: r :: rest) p) (wpE Γ (.or a b)) := by
  intro ρ S Q R h σ H α er s Q' po pr pins st I
  rw [wpE] at h
  have hB : PW X (.BoolOp .Or (r :: rest) p) (tT X (boRest .Or r rest p)) := by
    cases rest with
    | nil => exact pw_or1 (pt_sem X r)
    | cons y t => exact ⟨fun whole pins s σ H Q I h => h pins s I⟩
  refine (PW.pt (pw_or (pt_sem X l) hB)).run pins st σ H Q' I ?_
  refine ha ρ S _ R h σ H α er s _ (fun k S1 α1 H1 q l1 s1 => ?_) pr
  cases k with
  | true =>
    rw [if_pos rfl] at q ⊢
    exact po _ _ _ _ q l1 s1
  | false =>
    rw [if_neg (by decide)] at q ⊢
    exact hb ρ S1 _ R q σ H1 α1 (er.mono l1) s1 _ (fun k S2 α2 H2 q l2 s2 => po _ _ _ _ q (l1.trans l2) s2) (pr.le l1)
theorem st_not {a : IE} {l : Expr} {p : Pos} (ha : STt X W cv l (wpE Γ a)) : STt X W cv (.UnaryOp .Not l p) (wpE Γ (.not a)) := by
  intro ρ S Q R h σ H α er s Q' po pr pins st I
  rw [wpE] at h
  refine (pt_not (pt_sem X l)).run pins st σ H Q' I ?_
  exact ha ρ S _ R h σ H α er s _ (fun k S1 α1 H1 q l1 s1 => po _ _ _ _ q l1 s1) pr
theorem se_ite {c a b : IE} {t l r : Expr} {p : Pos} (hc : STt X W cv t (wpE Γ c)) (ha : SE X W cv l (wpE Γ a)) (hb : SE X W cv r (wpE Γ b)) : SE X W cv (.IfExp t l r p) (wpE Γ (.ite c a b)) := by
  intro ρ S Q R h σ H α er s Q' po pr pins st I
  rw [wpE] at h
  refine (pe_ifExp (pt_sem X t) (pe_sem X l) (pe_sem X r)).run pins st σ H Q' I ?_
  refine hc ρ S _ R h σ H α er s _ (fun k S1 α1 H1 q l1 s1 => ?_) pr
  cases k with
  | true =>
    rw [if_pos rfl] at q ⊢
    exact ha ρ S1 _ R q σ H1 α1 (er.mono l1) s1 _ (po.le l1) (pr.le l1)
  | false =>
    rw [if_neg (by decide)] at q ⊢
    exact hb ρ S1 _ R q σ H1 α1 (er.mono l1) s1 _ (po.le l1) (pr.le l1)
/-- a test that is a value -/
theorem st_val {a : IE} {e : Expr} (he : ∀ whole, isTrue e X.env whole = (do let v ← whole; standAt e.pos; holding [v] (truthy v))) (ha : SE X W cv e (wpE Γ a)) : STt X W cv e (wpE Γ a) := by
  intro ρ S Q R h σ H α er s Q' po pr pins st I
  refine (pt_val (pe_sem X e) he).run pins st σ H Q' I ?_
  exact ha ρ S _ R h σ H α er s _ (post_tst fun k S1 α1 H1 q l1 s1 => ⟨k, rfl, po _ _ _ _ q l1 s1⟩) pr
theorem se_tup {a : IE} {es : List Expr} {k : Nat} {p : Pos} (few : es.length ≤ 1000) (ha : SA X W cv es (wpA Γ a)) : SE X W cv (.Tuple es k p) (wpE Γ (.tup a)) := by
  intro ρ S Q R h σ H α er s Q' po pr pins st I
  rw [wpE] at h
  refine (pe_tup (pa_sem X es)).run pins st σ H Q' I ?_
  refine ha ρ S _ R h σ H α er s _ (fun ds S1 α1 H1 vs q hl l1 s1 rv => ?_) pr
  refine ⟨by rw [← rv.length, hl, big_eq]; show _ ≤ 16777216; omega, fun q0 hq0 => ?_⟩
  exact post_tup s1 (po.le l1) hq0 rv q
theorem se_lst {a : IE} {es : List Expr} {p : Pos} (few : es.length ≤ 1000) (ha : SA X W cv es (wpA Γ a)) : SE X W cv (.List es p) (wpE Γ (.lst a)) := by
  intro ρ S Q R h σ H α er s Q' po pr pins st I
  rw [wpE] at h
  refine (pe_lst (pa_sem X es)).run pins st σ H Q' I ?_
  refine ha ρ S _ R h σ H α er s _ (fun ds S1 α1 H1 vs q hl l1 s1 rv => ?_) pr
  refine ⟨by rw [← rv.length, hl, big_eq]; show _ ≤ 16777216; omega, fun q0 hq0 => ?_⟩
  exact post_new s1 (po.le l1) hq0 rv q
theorem se_dic0 {p : Pos} : SE X W cv (.Dict [] [] p) (wpE Γ .dic0) := by
  intro ρ S Q R h σ H α er s Q' po pr pins st I
  rw [wpE] at h
  exact (pe_dnewK (X := X)).run pins st σ H Q' I fun q0 hq0 => post_newD s po hq0 h
theorem se_sub {a b : IE} {l r : Expr} {p : Pos} (ok : XOk X cs sc Γ W cv) (ns : noSet r = true) (ha : SE X W cv l (wpE Γ a)) (hb : SE X W cv r (wpE Γ b)) : SE X W cv (.Subscript l r p) (wpE Γ (.sub a b)) := by
  intro ρ S Q R h σ H α er s Q' po pr pins st I
  rw [wpE] at h
  obtain ⟨rr, hr, hv⟩ := snd_sub_ix (X := X) (by have := ok.units; omega)
  refine (pe_ix hr (pe_sem X l) (pe_sem X r) (fun o i => by cases r <;> first | rfl | cases ns)).run pins st σ H Q' I ?_
  refine ha ρ S _ R h σ H α er s _ (fun d S1 α1 H1 v q l1 s1 rv => ?_) pr
  refine hb ρ S1 _ R q σ H1 α1 (er.mono l1) s1 _ (fun d2 S2 α2 H2 v2 q2 l2 s2 rv2 => ?_) (pr.le l1)
  exact hv _ _ _ _ _ _ _ _ _ q2 s2 (rv.mono l2) rv2 (po.le (l1.trans l2))
theorem se_lng {k : Nat} {i : IE} {x : Str} {e : Expr} {p p2 : Pos} (ok : XOk X cs sc Γ W cv) (h1 : cs.gls.lookup x = some 10) (h2 : glB sc x = true) (h3 : nameOk x = true) (ns : noSet e = true) (ha : SE X W cv e (wpE Γ i)) : SE X W cv (.Subscript (.Name x p2) e p) (wpE Γ (.glbsub k i)) := by
  intro ρ S Q R h σ H α er s Q' po pr pins st I
  rw [wpE] at h
  obtain ⟨a, hm, hK⟩ := ok.lng x h1
  refine (pe_ix ix_kdict (pe_glob (v := .ref a) (ok.gl x h2) hm rfl (nm1 h3).1) (pe_sem X e) (fun o i => by cases e <;> first | rfl | cases ns)).run pins st σ H Q' I ?_
  refine ha ρ S _ R h σ H α er s _ (fun d S1 α1 H1 v q l1 s1 rv => ?_) pr
  obtain ⟨t, n, rfl, hl, q⟩ := q
  cases rv
  exact ⟨_, _, _, rfl, rfl, hK t n hl, po _ _ _ _ _ q l1 s1 (.int n)⟩
/-- a part of a slice -/
def tO (X : Cx) : Option Expr → TO
  | none => tNoPart
  | some e => tPart (tE X e)
theorem po_sem (X : Cx) (e : Option Expr) : L2.PO X e (tO X e) := by
  cases e with
  | none => exact po_none
  | some e => exact po_some (pe_sem X e)
def SO (X : Cx) (W : WX) (cv : Nat → Value) (Γ : Sig) (ie : IE) (e : Option Expr) : Prop := match e with
  | none => isNil ie = true
  | some e => isNil ie = false ∧ SE X W cv e (wpE Γ ie)
theorem so_core {ie : IE} {e : Option Expr} (ho : SO X W cv Γ ie e) {ρ : Env} {S : Store} {Q : Option Int → Store → Prop} {R : PR} (h : if isNil ie = true then Q none S else wpE Γ ie ρ S (opt Q) R) {σ : L2.St} {H : Hp} {α : List Addr} (er : ER X.K α H ρ σ) (s : Sim X.K S α H)
    {Q' : Option Int → Hp → Prop} (po : ∀ o S' α' H', Q o S' → Le X.K α H α' H' → Sim X.K S' α' H' → Q' o H') (pr : PostR X.K α H R cv (fun c H' => W c none σ H')) : tO X e σ H Q' := by
  cases e with
  | none =>
    have ho' : isNil ie = true := ho
    rw [if_pos ho'] at h
    exact po _ _ _ _ h Le.refl s
  | some e =>
    rw [if_neg (by rw [ho.1]; decide)] at h
    refine ho.2 ρ S _ R h σ H α er s _ (fun d S1 α1 H1 v q l1 s1 rv => ?_) pr
    cases d <;> first | exact (show False from q).elim | skip
    cases rv
    exact ⟨_, rfl, po _ _ _ _ q l1 s1⟩
theorem se_slice {a lo hi : IE} {l : Expr} {x y : Option Expr} {p p2 : Pos} (ha : SE X W cv l (wpE Γ a)) (hx : SO X W cv Γ lo x) (hy : SO X W cv Γ hi y) : SE X W cv (.Subscript l (.Slice x y none p2) p) (wpE Γ (.slice a lo hi)) := by
  intro ρ S Q R h σ H α er s Q' po pr pins st I
  rw [wpE] at h
  obtain ⟨rr, hr, hv⟩ := snd_cut (X := X)
  refine (pe_slice hr (pe_sem X l) (po_sem X x) (po_sem X y)).run pins st σ H Q' I ?_
  refine ha ρ S _ R h σ H α er s _ (fun d S1 α1 H1 v q l1 s1 rv => ?_) pr
  refine so_core hx q (er.mono l1) s1 (fun o1 S2 α2 H2 q2 l2 s2 => ?_) (pr.le l1)
  refine so_core hy q2 (er.mono (l1.trans l2)) s2 (fun o2 S3 α3 H3 q3 l3 s3 => ?_) (pr.le (l1.trans l2))
  exact hv _ _ _ _ _ _ _ _ _ q3 s3 (rv.mono (l2.trans l3)) (po.le ((l1.trans l2).trans l3))
theorem se_rev {a : IE} {l : Expr} {k : Nat} {p p1 p2 p3 : Pos} (ha : SE X W cv l (wpE Γ a)) : SE X W cv (.Subscript l (.Slice none none (some (.UnaryOp .USub (.Constant (.int 1) k p1) p2)) p3) p) (wpE Γ (.rev a)) := by
  intro ρ S Q R h σ H α er s Q' po pr pins st I
  rw [wpE] at h
  refine (pe_back (pe_sem X l)).run pins st σ H Q' I ?_
  refine ha ρ S _ R h σ H α er s _ (fun d S1 α1 H1 v q l1 s1 rv => ?_) pr
  cases d <;> first | exact (show False from q).elim | skip
  · cases rv with | tup hb r =>
    exact ⟨_, _, rfl, .inr ⟨hb, fun q0 hq0 => post_tup s1 (po.le l1) hq0 r.reverse q⟩⟩
  · cases rv with | ref ra =>
    obtain ⟨xs, g, q⟩ := q
    obtain ⟨vs, hl, r⟩ := s1.getL g ra
    exact ⟨_, vs, rfl, .inl ⟨hl, fun q0 hq0 => post_new s1 (po.le l1) hq0 r.reverse q⟩⟩
theorem se_lrg {a : IE} {e : Expr} {p p2 p3 p4 : Pos} (ok : XOk X cs sc Γ W cv) (g1 : glB sc "list" = true) (g2 : glB sc "range" = true) (ns : noSet e = true) (ha : SE X W cv e (wpE Γ a)) :
    SE X W cv (.Call (.Name "list" p2) [.Call (.Name "range" p4) [e] [] p3] [] p) (wpE Γ (.lrg a)) := by
  intro ρ S Q R h σ H α er s Q' po pr pins st I
  rw [wpE] at h
  have star1 : ∀ a : Expr, noSet a = true → starEach [a] X.env = [(false, eval a X.env)] := fun a ha => noSet_star ha [] _
  refine (pe_listRg ok.calm (ok.gl _ g1) (ok.blt _ (by simp)) (prg_1 (ok.gl _ g2) (ok.blt _ (by simp)) (pe_sem X e) (noSet_star ns _ _)) (by rfl)).run pins st σ H Q' I ?_
  refine ha ρ S _ R h σ H α er s _ (fun d S1 α1 H1 v q l1 s1 rv => ?_) pr
  obtain ⟨k, rfl, h1, h2, q⟩ := q
  cases rv
  refine ⟨k, rfl, ⟨by omega, by omega, by omega, by omega, by omega⟩, fun q0 hq0 => ?_⟩
  refine post_new s1 (po.le l1) hq0 ?_ q
  unfold rgV
  rw [Int.sub_zero]
  have go : ∀ l : List Nat, VRs X.K α1 H1 (l.map fun i => PV.int (i : Nat)) (l.map fun i => V.int (0 + (i : Nat))) := by
    intro l
    induction l with
    | nil => exact .nil
    | cons i r ih => exact .cons (by show VR X.K α1 H1 (.int (i : Nat)) (.int (0 + (i : Nat))); rw [Int.zero_add]; exact .int _) ih
  exact go _
theorem back_all {env : PySem.Env} {pos : Pos} {es : List Expr} (h : ∀ e ∈ es, noSet e = true) : (backTo pos (starEach es env)).any (·.1) = false := by
  rw [star_all h]
  unfold backTo
  rw [List.map_map, List.any_map, List.any_eq_false]
  intro x hx
  simp
/-- the address list as before, a new object -/
theorem le_new1 {K : PySem.W.Frag} {α : List Addr} {H : Hp} {p : Addr} {o : HO} (h : H p = none) : Le K α H α (upd H p o) := le_upd (.inl h)
theorem se_call {a : IE} {f : Nat} {x : Str} {e : Expr} {es : List Expr} {p p2 : Pos} (ok : XOk X cs sc Γ W cv) (h1 : cs.fns.lookup x = some (f, es.length + 1)) (h2 : glB sc x = true) (h3 : nameOk x = true) (ns : ∀ y ∈ e :: es, noSet y = true) (ha : SA X W cv (e :: es) (wpA Γ a)) :
    SE X W cv (.Call (.Name x p2) (e :: es) [] p) (wpE Γ (.call f a)) := by
  intro ρ S Q R h σ H α er s Q' po pr pins st I
  rw [wpE] at h
  obtain ⟨ad, fd, ps, k, hm, F, hr, hk, hb⟩ := ok.fn x f _ h1
  refine (pe_callS F hr (ok.gl x h2) hm hk hb (fun σ => L2N.passAt ok.tk σ) (pa_sem X (e :: es)) (nm1 h3).1 (noSet_star (ns e List.mem_cons_self) _ _) (back_all fun y hy => ns y (List.mem_cons_of_mem _ hy))).run pins st σ H Q' I ?_
  refine ha ρ S _ R h σ H α er s _ (fun ds S1 α1 H1 vs q hl l1 s1 rv => ?_) pr
  exact ⟨α1, S1, ds, Q, R, by rw [hl]; rfl, s1, rv, q, po.le l1, pr.le l1⟩
/-! ### one def out of a written row, called -/
theorem sel_ix {i : IE} {e : Expr} (ok : XOk X cs sc Γ W cv) (h : selIx cs sc i e = true) : noSet e = true ∧ ∃ t, PE X e t ∧ ∀ (ρ : PyI.Env) (S : Store) (Q : PQ) (R : PR) (σ : L2.St) (H H2 : Hp) (α : List Addr) (Q' : VK), wpE Γ i ρ S Q R → ER X.K α H ρ σ → (∀ d, Q d S → ∃ i : Int, d = .int i) → (∀ i : Int, Q (.int i) S → Q' (.int i) H2) → t σ H2 Q' := by
  unfold selIx at h
  split at h
  · rename_i j x p
    simp only [Bool.and_eq_true, beq_iff_eq] at h
    obtain ⟨⟨h1, h2⟩, h3⟩ := h
    refine ⟨rfl, _, pe_var (i := j) (by rw [ok.hN]; exact h1) (ok.vis x h2) (nm1 h3).1 (nm1 h3).2.1, fun ρ S Q R σ H H2 α Q' hw er hd hq => ?_⟩
    rw [wpE] at hw
    obtain ⟨v, hv, q⟩ := hw
    obtain ⟨n, rfl⟩ := hd v q
    obtain ⟨v', e, r⟩ := er.at_ j _ hv
    cases r
    exact ⟨_, e, hq n q⟩
  · rename_i j c x p d k p2 p3
    simp only [Bool.and_eq_true, beq_iff_eq] at h
    obtain ⟨⟨⟨h1, h2⟩, h3⟩, rfl⟩ := h
    refine ⟨rfl, _, pe_op op_sub (pe_var (i := j) (by rw [ok.hN]; exact h1) (ok.vis x h2) (nm1 h3).1 (nm1 h3).2.1) pe_int, fun ρ S Q R σ H H2 α Q' hw er hd hq => ?_⟩
    simp only [wpE] at hw
    obtain ⟨v, hv, q⟩ := hw
    obtain ⟨v', e, r⟩ := er.at_ j _ hv
    cases v <;> first | exact (show False from q).elim | skip
    cases r
    exact ⟨_, e, _, _, rfl, rfl, hq _ q⟩
  · cases h
theorem pa_sel {n : Nat} (ok : XOk X cs sc Γ W cv) : ∀ {fs : List Nat} {ns : List Expr}, selB cs sc n fs ns = true → ∃ as : List Addr, as.length = fs.length ∧ PA X ns (fun σ H Q => Q (as.map V.ref) H) ∧
    ∀ (k f : Nat), fs[k]? = some f → ∃ ad fd ps kk, as[k]? = some ad ∧ FnOk X.prog X.w X.K X.mg X.base (L2N.CX X.prog X.w) kk ad fd ps (spOf X.K (Γ.ct f) n cv) ∧ Room kk X.A ∧ PySem.W.keepIn X.K (.ref ad) = true ∧ Binds X.K fd ps []
  | [], [], _ => ⟨[], rfl, pa_nil, fun k f h => by cases h⟩
  | [], _ :: _, h => by simp [selB] at h
  | f :: fs, [], h => by simp [selB] at h
  | f :: fs, e :: ns, h => by
    cases e <;> simp only [selB, Bool.and_eq_true, beq_iff_eq, Bool.false_eq_true] at h
    rename_i x p
    obtain ⟨⟨⟨h1, h2⟩, h3⟩, h4⟩ := h
    obtain ⟨as, hl, hpa, hfs⟩ := pa_sel ok h4
    obtain ⟨ad, fd, ps, k, hm, F, hr, hk, hb⟩ := ok.fn x f _ h1
    refine ⟨ad :: as, by simp [hl], pa_cons (pe_glob (v := .ref ad) (ok.gl x h2) hm rfl (nm1 h3).1) hpa (noSet_star rfl _ _), fun j g hj => ?_⟩
    cases j with
    | zero => cases hj; exact ⟨ad, fd, ps, k, rfl, F, hr, hk, hb⟩
    | succ j => exact hfs j g hj
theorem se_selc {fs : List Nat} {i a : IE} {ns : List Expr} {ix e : Expr} {es : List Expr} {p p2 p3 : Pos} (ok : XOk X cs sc Γ W cv) (few : fs.length ≤ 100) (h1 : selB cs sc (es.length + 1) fs ns = true) (h2 : selIx cs sc i ix = true) (hns : ∀ y ∈ e :: es, noSet y = true) (ha : SA X W cv (e :: es) (wpA Γ a)) :
    SE X W cv (.Call (.Subscript (.List ns p2) ix p3) (e :: es) [] p) (wpE Γ (.selc fs i a)) := by
  intro ρ S Q R h σ H α er s Q' po pr pins st I
  rw [wpE] at h
  obtain ⟨as, hal, hpa, hfs⟩ := pa_sel ok h1
  obtain ⟨nx, t, ht, hix⟩ := sel_ix ok h2
  show wpAny _ _ (eval (.Subscript (.List ns p2) ix p3) X.env >>= fun f => callWith p f [] (backTo p (starEach (e :: es) X.env)) (backToKw p (keywordEach [] X.env))) _ _ _
  refine wpAny_bind (thn ((pe_ix ix_list (pe_lst hpa) ht (fun o i => by cases ix <;> first | rfl | cases nx)).run pins st σ H (fun v H1 => ∃ ad fd ps kk f, v = V.ref ad ∧ FnOk X.prog X.w X.K X.mg X.base (L2N.CX X.prog X.w) kk ad fd ps (spOf X.K (Γ.ct f) (es.length + 1) cv) ∧ Room kk X.A ∧ PySem.W.keepIn X.K (.ref ad) = true ∧ Binds X.K fd ps [] ∧
      tAr X (e :: es) σ H1 (fun vs H2 => spOf X.K (Γ.ct f) (es.length + 1) cv vs H2 Q' (WE W σ))) I ?_) fun fv s1 ⟨v, H1, I1, r1, q1⟩ => ?_)
  · refine ⟨by rw [List.length_map, hal, big_eq]; show _ ≤ 16777216; omega, fun q0 hq0 => ?_⟩
    have s' : Sim X.K S α (upd H q0 (.lst (as.map V.ref))) := ⟨s.len, fun n o a e1 e2 => (s.obj n o a e1 e2).keep (le_new1 hq0) (fun u hb => by rw [upd_ne (fun z => by subst z; rw [hq0] at hb; cases hb)]; exact hb), s.inj⟩
    refine hix ρ S _ R σ H _ α _ h er (fun d ⟨k, f, e1, _⟩ => ⟨_, e1⟩) fun n ⟨k, f, e1, e2, q⟩ => ?_
    cases e1
    obtain ⟨ad, fd, ps, kk, hk, F, hr, hkp, hb⟩ := hfs k f e2
    refine ⟨q0, as.map V.ref, k, V.ref ad, rfl, rfl, .inl (.inl upd_same), ?_, ad, fd, ps, kk, f, rfl, F, hr, hkp, hb, ?_⟩
    · refine atP_atI ?_
      show (as.map V.ref)[k]? = _
      rw [List.getElem?_map, hk]
      rfl
    · refine ha ρ S _ R q σ _ α (er.mono (le_new1 hq0)) s' _ (fun ds S1 α1 H1 vs q hl l1 s1 rv => ?_) (pr.le (le_new1 hq0))
      exact ⟨α1, S1, ds, Q, R, by rw [hl]; rfl, s1, rv, q, po.le ((le_new1 hq0).trans l1), pr.le ((le_new1 hq0).trans l1)⟩
  · obtain ⟨ad, fd, ps, kk, f, rfl, F, hr, hk, hb, ht⟩ := q1
    cases r1
    refine PySem.W.callWith_K (h₀ := X.base) I1.ok.mod.kin hk (thn ((pa_sem X (e :: es)).run p pins s1 σ H1 _ I1 ht) fun us s2 ⟨vs, H2, I2, r, q⟩ => ⟨I2.kIn, ?_⟩) (noSet_star (hns e List.mem_cons_self) _ _) (back_all fun y hy => hns y (List.mem_cons_of_mem _ hy))
    exact run_fnS F hr hb (L2N.passAt ok.tk σ) I2 r q
end PyI

set_option autoImplicit false
set_option linter.all false
set_option Elab.async false
set_option maxRecDepth 100000
set_option maxHeartbeats 4000000
namespace PyI
open PySem PySem.Spec PyProof.Rows L2
/-! ### the sum of lists -/
theorem lst_str : isSubtype (.type "list") (.type "str") = pure false := by rw [isSubtype_type]; kernel_rfl
theorem lst_bytes : isSubtype (.type "list") (.type "bytes") = pure false := by rw [isSubtype_type]; kernel_rfl
theorem lst_barr : isSubtype (.type "list") (.type "bytearray") = pure false := by rw [isSubtype_type]; kernel_rfl
theorem sum2_args (a b : Value) : argsOk "sum" ⟨[a, b], []⟩ := by unfold argsOk; kernel_rfl
def flA (its : Nat → Array Value) : Nat → Array Value
  | 0 => #[]
  | i + 1 => flA its i ++ its i
theorem flA_le (its : Nat → Array Value) : ∀ n i, i ≤ n → (flA its i).size ≤ (flA its n).size
  | 0, i, h => by
    obtain rfl : i = 0 := by omega
    exact Nat.le_refl _
  | n + 1, i, h => by
    by_cases e : i = n + 1
    · subst e; exact Nat.le_refl _
    · refine Nat.le_trans (flA_le its n i (by omega)) ?_
      show _ ≤ (flA its n ++ its n).size
      rw [Array.size_append]
      omega
section
variable {prog : Program} {w : World} {A : Around} {R : Result → Shared → Prop} {I : Addr} {fp wr : List Addr} {G : Array GenState → Array GenState → Prop} {n : Nat} {P : Nat → Value → Prop} {St : Nat → Shared → Prop}
theorem sumL_loop (W : WalksS prog w A.in1 I fp wr G n P St) (adr : Nat → Addr) (its : Nat → Array Value) (hv : ∀ i v, i < n → P i v → v = .ref (adr i)) (S : Addr) (hSf : S ∉ fp) (hwS : ∀ b ∈ wr, b < S) (hna : ∀ i, i < n → adr i ∉ S :: wr) (hsz : (flA its n).size ≤ sizeLine) :
    ∀ (k i : Nat) (s : Shared) (acc : Addr) (m c : Nat), n - i = k → i ≤ n → St i s → s.heap.get? S = some { cls := .type "list", dict := none, data := .seq #[.ref acc] c, slots := #[] } → IsL s.heap acc (flA its i) m → acc ∉ S :: wr →
    (∀ j, j < n → ∃ q, IsL s.heap (adr j) (its j) q) →
    (∀ s' acc' m', Moved (S :: wr) G s s' → IsL s'.heap acc' (flA its n) m' → (acc' = acc ∧ i = n ∨ S < acc' ∧ i < n) → R (.ok (.ret (.ref acc'))) s') →
    codeAny (model prog w) A (.builtin "sum.loop" ⟨[.ref I, .ref S, rawInt 2, rawInt 0], []⟩) R s := by
  have hwr : S ∉ wr := fun z => hSf (W.sub _ z)
  have sub2 : ∀ b ∈ wr, b ∈ S :: wr := fun b z => List.mem_cons_of_mem _ z
  intro k
  induction k with
  | zero =>
    intro i s acc m c hk hi hst hS hA hac hj hR
    have hin : i = n := by omega
    subst hin
    refine codeAny_builtin F.entry_sum_loop ?_
    rw [Around.under_plainId F.plain_sum_loop _]
    show wpAny _ A.in1 (seqItems? (.ref S) >>= _) _ _ s
    refine wpAny_bind (wpAny_seqItems hS rfl ?_)
    show wpAny _ A.in1 (tryCatch (pyNext (.ref I)) _ >>= _) _ _ s
    refine wpAny_bind (wpAny_tryCatch (W.done s _ _ hst fun s' hm => ?_))
    exact wpAny_pure (hR s' acc m (hm.mono sub2) (hm.heap _ _ (fun z => hac (sub2 _ z)) hA) (.inl ⟨rfl, rfl⟩))
  | succ k ih =>
    intro i s acc m c hk hi hst hS hA hac hj hR
    have hlt : i < n := by omega
    refine codeAny_builtin F.entry_sum_loop ?_
    rw [Around.under_plainId F.plain_sum_loop _]
    show wpAny _ A.in1 (seqItems? (.ref S) >>= _) _ _ s
    refine wpAny_bind (wpAny_seqItems hS rfl ?_)
    show wpAny _ A.in1 (tryCatch (pyNext (.ref I)) _ >>= _) _ _ s
    refine wpAny_bind (wpAny_tryCatch (W.item i s _ _ hlt hst fun v s' hP hst' hm => ?_))
    obtain rfl := hv i v hlt hP
    have S1 := hm.heap S _ hwr hS
    have A1 : IsL s'.heap acc (flA its i) m := hm.heap _ _ (fun z => hac (sub2 _ z)) hA
    have j1 : ∀ j, j < n → ∃ q, IsL s'.heap (adr j) (its j) q := fun j hjn => let ⟨q, e⟩ := hj j hjn; ⟨q, hm.heap _ _ (fun z => hna j hjn (sub2 _ z)) e⟩
    obtain ⟨q, B1⟩ := j1 i hlt
    have hSl : S < s'.heap.objs.size := Heap.lt_size S1
    have hfit : (flA its i).size + (its i).size ≤ sizeLine := by
      have := flA_le its n (i + 1) hlt
      have e : (flA its (i + 1)).size = (flA its i).size + (its i).size := Array.size_append
      omega
    show wpAny _ A.in1 ((holding [Value.ref (adr i)] (binaryOp .Add (.ref acc) (.ref (adr i)))).attempt >>= _) _ _ _
    refine wpAny_bind (wpAny_attempt (wpAny_holding (PySem.P.add_list A1 B1 ?_ hfit)))
    have hp : ∀ (o : Obj) (b : Addr) (u : Obj), s'.heap.get? b = some u → (s'.heap.push o).get? b = some u := fun o b u e => Heap.get?_push_of_some _ e
    have S2 := hp { cls := .type "list", data := .seq (flA its i ++ its i) } _ _ S1
    show wpAny _ A.in1 (updateSeq S (fun _ => #[Value.ref s'.heap.objs.size]) >>= _) _ _ _
    refine wpAny_bind (wpAny_updateSeq S2 rfl ?_)
    have S3 := Heap.get?_update_self (Obj.mapSeq fun _ => #[Value.ref s'.heap.objs.size]) S2 rfl
    refine wpAny_bind (wpAny_letGo ?_)
    have N1 : IsL (s'.heap.push { cls := .type "list", data := .seq (flA its i ++ its i) }) s'.heap.objs.size (flA its (i + 1)) 0 := IsL.new _ _
    have oth : ∀ (b : Addr) (u : Obj), b ≠ S → s'.heap.get? b = some u → (((s'.heap.push { cls := .type "list", data := .seq (flA its i ++ its i) }).update S (Obj.mapSeq fun _ => #[Value.ref s'.heap.objs.size])).update S (Obj.mapSeq fun _ => #[Value.ref s'.heap.objs.size])).get? b = some u := fun b u hb e =>
      (Heap.get?_update_other _ _ (fun z => hb z.symm)).trans ((Heap.get?_update_other _ _ (fun z => hb z.symm)).trans (hp _ b u e))
    refine wpAny_bind (wpAny_updateSeq S3 rfl (wpAny_pure ⟨plainId_quiet F.plain_sum_loop _, ih (i + 1) _ s'.heap.objs.size 0 _ (by omega) hlt (W.frame _ s' _ _ hst' (Nat.le_refl _) fun b hb o e => oth b o (fun z => hSf (z ▸ hb)) e) (Heap.get?_update_self _ S3 rfl) ?_ ?_ (fun j hjn => ?_) fun s'' acc'' m'' hm'' hl'' hor => ?_⟩))
    · exact (IsL.update_other (IsL.update_other N1 (Nat.ne_of_lt hSl) _) (Nat.ne_of_lt hSl) _)
    · intro z
      rcases List.mem_cons.mp z with z | z
      · exact Nat.ne_of_gt hSl z
      · exact Nat.lt_asymm hSl (hwS _ z)
    · obtain ⟨q', e⟩ := j1 j hjn
      exact ⟨q', oth _ _ (fun z => hna j hjn (z ▸ List.mem_cons_self)) e⟩
    · refine hR s'' acc'' m'' (Moved.trans W.gtrans ((hm.mono sub2).then_heap (Nat.le_refl _) fun b o hb e => oth b o (fun z => hb (z ▸ List.mem_cons_self)) e) hm'') hl'' (.inr ⟨?_, hlt⟩)
      rcases hor with ⟨h, _⟩ | h
      · rw [h]
        exact hSl
      · exact h.1
end
section
variable {prog : Program} {w : World} {A : Around} {E : Value → Shared → Prop} {s : Shared}
theorem sum_lists {l b : Addr} {m : Nat} (adr : Nat → Addr) (its : Nat → Array Value) {n : Nat} {vs : Array Value} {Q : Value → Shared → Prop} (hh : A.handled = none) (hl : s.heap.IsList l vs) (hn : vs.size = n) (hvs : ∀ i, i < n → vs[i]? = some (.ref (adr i))) (hb : IsL s.heap b #[] m)
    (hj : ∀ j, j < n → ∃ q, IsL s.heap (adr j) (its j) q) (hsz : (flA its n).size ≤ sizeLine)
    (h : ∀ h' tk acc m', (∀ c o, s.heap.get? c = some o → h'.get? c = some o) → IsL h' acc (flA its n) m' → (acc = b ∧ n = 0 ∨ s.heap.objs.size ≤ acc ∧ 0 < n) → Q (.ref acc) { s with heap := h', toks := tk }) :
    wpAny (model prog w) A (call (.builtin "sum") [.ref l, .ref b]) Q E s := by
  refine call_function_tree F.kind_sum F.plain_sum F.entry_sum (sum2_args _ _) ?_
  unfold Builtin.«sum»
  simp only [List.length_cons, List.length_nil]
  rw [if_neg (by decide)]
  refine wpAny_bind (wpAny_of_eq (show Builtin.Builtins.bindParams "sum" ["start"] 0 ⟨[.ref b], []⟩ = pure [some (.ref b)] from rfl) ?_)
  refine wpAny_bind (wpAny_pyIter_list hl ?_)
  dsimp only
  obtain ⟨hp2, hps⟩ : ∃ h2, h2 = s.heap.push { cls := .type "list_iterator", data := .fields #[.ref l, .int 0 0] } := ⟨_, rfl⟩
  have keep : ∀ (c : Addr) (o : Obj), s.heap.get? c = some o → hp2.get? c = some o := fun c o e => by rw [hps]; exact Heap.get?_push_of_some _ e
  have size2 : hp2.objs.size = s.heap.objs.size + 1 := by rw [hps]; exact Heap.size_push _ _
  have hb2 : IsL hp2 b #[] m := keep _ _ hb
  have tb : ∀ tk, Shared.TypeIs { s with heap := hp2, toks := tk } (.ref b) "list" := fun tk => ⟨_, hb2, rfl⟩
  have it2 : hp2.IsListIter s.heap.objs.size l 0 := by rw [hps]; exact ⟨_, Heap.get?_push_size _ rfl, rfl, rfl⟩
  rw [← hps]
  refine wpAny_bind (wpAny_pure ?_)
  simp only [List.forIn_cons, List.forIn_nil]
  refine wpAny_bind (wpAny_bind (wpAny_bind (wpAny_isInstance (T := "list") (b := false) (tb _) lst_str ?_)))
  simp only [Bool.false_eq_true, if_false]
  refine wpAny_pure (wpAny_bind (wpAny_bind (wpAny_isInstance (T := "list") (b := false) (tb _) lst_bytes ?_)))
  simp only [Bool.false_eq_true, if_false]
  refine wpAny_pure (wpAny_bind (wpAny_bind (wpAny_isInstance (T := "list") (b := false) (tb _) lst_barr ?_)))
  simp only [Bool.false_eq_true, if_false]
  refine wpAny_pure (wpAny_pure ?_)
  refine wpAny_bind (wpAny_newObj_type ?_)
  have hll : l < s.heap.objs.size := by obtain ⟨_, e, _⟩ := hl; exact Heap.lt_size e
  have hlI : l ≠ s.heap.objs.size := Nat.ne_of_lt hll
  have hli2 : hp2.IsList l vs := hl.at (keep l)
  have hIlt : s.heap.objs.size < hp2.objs.size := by rw [size2]; exact Nat.lt_succ_self _
  have W := (Walks.list (prog := prog) (w := w) (A := A.in1) hh s.heap.objs.size l hlI vs).toS
  refine wpAny_pure ⟨plainId_quiet F.plain_sum_loop _, ?_⟩
  rw [hn] at W
  refine sumL_loop W adr its (fun i v hi e => Option.some.inj (e.symm.trans (hvs i hi))) hp2.objs.size ?_ ?_ ?_ hsz n 0 _ b m 0 rfl (Nat.zero_le _) ?_ (Heap.get?_push_size _ rfl) (IsL.push hb2 _) ?_ ?_ ?_
  · intro z
    rcases List.mem_cons.mp z with z | z
    · exact Nat.ne_of_gt hIlt z
    · rcases List.mem_cons.mp z with z | z
      · exact Nat.ne_of_gt (Nat.lt_trans hll hIlt) z
      · cases z
  · intro c z
    rw [List.mem_singleton.mp z]
    exact hIlt
  · intro i hi z
    obtain ⟨q, e⟩ := hj i hi
    have hlt : adr i < s.heap.objs.size := Heap.lt_size e
    rcases List.mem_cons.mp z with z | z
    · exact Nat.ne_of_lt (Nat.lt_trans hlt hIlt) z
    · exact Nat.ne_of_lt hlt (List.mem_singleton.mp z)
  · exact ⟨it2.at fun o e => Heap.get?_push_of_some _ e, hli2.at fun o e => Heap.get?_push_of_some _ e⟩
  · intro z
    have hlt : b < s.heap.objs.size := Heap.lt_size hb
    rcases List.mem_cons.mp z with z | z
    · exact Nat.ne_of_lt (Nat.lt_trans hlt hIlt) z
    · exact Nat.ne_of_lt hlt (List.mem_singleton.mp z)
  · intro j hjn
    obtain ⟨q, e⟩ := hj j hjn
    exact ⟨q, Heap.get?_push_of_some _ (keep _ _ e)⟩
  · intro s' acc' m' hm hl' hor
    obtain ⟨h', g', d', tk', os'⟩ := s'
    obtain rfl : g' = s.gens := hm.gens
    obtain rfl : d' = s.drawn := hm.drawn
    obtain rfl : os' = s.os := hm.os
    refine h h' tk' acc' m' (fun c o e => hm.heap c o (fun z => ?_) (Heap.get?_push_of_some _ (keep c o e))) hl' ?_
    · have hlt : c < s.heap.objs.size := Heap.lt_size e
      rcases List.mem_cons.mp z with z | z
      · exact Nat.ne_of_lt (Nat.lt_trans hlt hIlt) z
      · exact Nat.ne_of_lt hlt (List.mem_singleton.mp z)
    · rcases hor with ⟨h1, h2⟩ | h1
      · exact .inl ⟨h1, h2.symm⟩
      · exact .inr ⟨Nat.le_of_lt (Nat.lt_trans hIlt h1.1), h1.2⟩
end
/-- in H these lists at these addresses -/
def lstsH (H : Hp) : List Addr → List (List V) → Prop
  | [], [] => True
  | r :: rs, xs :: xss => H r = some (.lst xs) ∧ lstsH H rs xss
  | _, _ => False
def rSumL (K : PySem.W.Frag) : List V → Hp → VK → Prop := fun vs H Q => ∃ (a b : Addr) (rs : List Addr) (xss : List (List V)), vs = [V.ref a, V.ref b] ∧ SqL K H a (rs.map V.ref) ∧ H b = some (.lst []) ∧ lstsH H rs xss ∧ xss.flatten.length ≤ sizeLine ∧
  (rs = [] → Q (.ref b) H) ∧ ∀ p, H p = none → rs ≠ [] → Q (.ref p) (upd H p (.lst xss.flatten))
section
variable {X : Cx} {pins : List (Addr × Obj)} {σ : L2.St} {H : Hp} {s : Shared}
theorem vals_refs : ∀ {rs : List Addr} {us : List Value}, Vals (rs.map V.ref) us → us = rs.map Value.ref
  | [], _, .nil => rfl
  | r :: rs, _, .cons h t => by
    rw [vals_refs t]
    cases h
    rfl
def conA (a : Array Value) (f : Nat → Array Value) : Nat → Array Value
  | 0 => a
  | k + 1 => f k
theorem flA_con (a : Array Value) (f : Nat → Array Value) : ∀ n, flA (conA a f) (n + 1) = a ++ flA f n
  | 0 => by
    show #[] ++ a = a ++ #[]
    simp
  | n + 1 => by
    show flA (conA a f) (n + 1) ++ f n = a ++ (flA f n ++ f n)
    rw [flA_con a f n, Array.append_assoc]
/-- the lists' items in the heap -/
theorem lsts_raw (I : Inv X pins σ H s) : ∀ (rs : List Addr) (xss : List (List V)), lstsH H rs xss → ∃ its : Nat → Array Value, (∀ j, j < rs.length → ∃ q, IsL s.heap (rs.getD j 0) (its j) q) ∧ Vals xss.flatten (flA its rs.length).toList
  | [], [], _ => ⟨fun _ => #[], fun j h => absurd h (Nat.not_lt_zero _), .nil⟩
  | [], _ :: _, h => h.elim
  | _ :: _, [], h => h.elim
  | r :: rs, xs :: xss, h => by
    obtain ⟨its, h1, h2⟩ := lsts_raw I rs xss h.2
    obtain ⟨z, us, n, rv, hl, e⟩ := I.lstM h.1
    refine ⟨conA us.toArray its, fun j hj => ?_, ?_⟩
    · cases j with
      | zero => exact ⟨n, e⟩
      | succ j => exact h1 j (by simpa using hj)
    · rw [List.length_cons, flA_con, List.flatten_cons, Array.toList_append]
      exact rv.append h2
theorem cr_sumL (hc : X.calm = true) : CallR X (.builtin "sum") (rSumL X.K) := by
  intro pins s σ H vs us Q I r h
  obtain ⟨a, b, rs, xss, rfl, hs, hb, hx, hz, q0, q1⟩ := h
  obtain ⟨its, rv, hl, _⟩ := I.list hs
  have eu : us = [Value.ref a, Value.ref b] := by
    cases r with
    | cons r1 t =>
      cases t with
      | cons r2 t2 =>
        cases t2
        cases r1
        cases r2
        rfl
  subst eu
  obtain ⟨fs, h1, h2⟩ := lsts_raw I rs xss hx
  obtain ⟨z0, us0, n0, rv0, hl0, e0⟩ := I.lstM hb
  cases rv0
  have hi := vals_refs rv
  have hlen : its.length = rs.length := by rw [hi, List.length_map]
  have hfl : (flA fs rs.length).size = xss.flatten.length := by rw [← Array.length_toList]; exact h2.length.symm
  refine sum_lists (fun i => rs.getD i 0) fs (I.ok.hd hc) hl.isList (show its.toArray.size = rs.length by rw [List.size_toArray]; exact hlen) (fun i hlt => ?_) e0 h1 (by rw [hfl]; exact hz) fun h' tk acc m' keep hacc hor => ?_
  · rw [List.getElem?_toArray, hi, List.getElem?_map, List.getD_eq_getElem?_getD, List.getElem?_eq_getElem hlt]
    rfl
  · rcases hor with ⟨h3, h4⟩ | ⟨h3, h4⟩
    · subst h3
      exact ⟨.ref _, H, I.kept keep, rfl, q0 (List.length_eq_zero_iff.mp h4)⟩
    · exact ⟨.ref acc, upd H acc (.lst xss.flatten), I.laid keep h3 ⟨hz, _, m', h2, hacc⟩, rfl, q1 acc (I.hok.fresh h3) (fun z => by rw [z] at h4; exact absurd h4 (Nat.lt_irrefl _))⟩
end
theorem lsts_of {K : PySem.W.Frag} {S : Store} {α : List Addr} {H : Hp} (s : Sim K S α H) : ∀ (rs : List Nat) (xss : List (List PV)) (vs : List V), VRs K α H (rs.map PV.ref) vs → lstsOf S rs xss → ∃ (as : List Addr) (yss : List (List V)), vs = as.map V.ref ∧ lstsH H as yss ∧ VRs K α H xss.flatten yss.flatten ∧ as.length = rs.length
  | [], [], _, .nil, _ => ⟨[], [], rfl, trivial, .nil, rfl⟩
  | [], _ :: _, _, _, h => h.elim
  | _ :: _, [], _, _, h => h.elim
  | r :: rs, xs :: xss, _, .cons (.ref ra) t, h => by
    obtain ⟨as, yss, h1, h2, h3, h4⟩ := lsts_of s rs xss _ t h.2
    obtain ⟨ys, h5, h6⟩ := s.lst h.1 ra
    refine ⟨_ :: as, ys :: yss, by rw [h1]; rfl, ⟨h5, h2⟩, ?_, by rw [List.length_cons, List.length_cons, h4]⟩
    rw [List.flatten_cons, List.flatten_cons]
    exact h6.append h3
theorem snd_sumL {X : Cx} (hc : X.calm = true) : CallSnd X (.builtin "sum") (bltop .sumL) := by
  refine ⟨_, cr_sumL hc, fun xs S Q α H xs' Q' h s r po => ?_⟩
  match xs, h, r with
  | [.ref n, .ref m], h, .cons (.ref ra) (.cons (.ref rb) .nil) =>
    obtain ⟨rs, xss, g, gm, hl, hz, q0, q1⟩ := h
    obtain ⟨vs, hs, r⟩ := s.getL g ra
    obtain ⟨as, yss, rfl, h2, h3, h4⟩ := lsts_of s rs xss vs r hl
    obtain ⟨v0, hv0, r0⟩ := s.lst gm rb
    cases r0
    refine ⟨_, _, as, yss, rfl, hs, hv0, h2, by rw [← h3.length, big_eq]; exact hz, fun e => ?_, fun p hp hne => ?_⟩
    · subst e
      exact po _ _ _ _ _ (q0 (List.length_eq_zero_iff.mp h4.symm)) Le.refl s (.ref rb)
    · exact post_new s po hp h3 (q1 fun z => by subst z; exact hne (List.length_eq_zero_iff.mp h4))
/-! ### sorted data -/
def rSortDt (K : PySem.W.Frag) : List V → Hp → VK → Prop := fun vs H Q => ∃ (a : Addr) (ts : List (V × PyData)), vs = [V.ref a] ∧ SqL K H a (ts.map (·.1)) ∧ DpAll K H (ts.map (·.1)) (ts.map (·.2)) ∧ PySem.W.AllAlike (ts.map (·.2)) ∧ PySem.W.Sortable (ts.map (·.2)) ∧
  ts.length ≤ sizeLine ∧ (∀ t ∈ ts, t.2.depth ≤ 50) ∧ ∀ p, H p = none → Q (.ref p) (upd H p (.lst ((ts.mergeSort (PySem.W.dataLe false fun t : V × PyData => t.2)).map (·.1))))
theorem each_of : ∀ {ts : List (V × PyData)} {us : List Value}, Vals (ts.map (·.1)) us → PySem.W.EachIs (fun u (t : V × PyData) => RelV t.1 u) us ts
  | [], _, .nil => .nil
  | _ :: _, _, .cons h t => .cons h (each_of t)
theorem vals_each : ∀ {ts : List (V × PyData)} {us : List Value}, PySem.W.EachIs (fun u (t : V × PyData) => RelV t.1 u) us ts → Vals (ts.map (·.1)) us
  | _, _, .nil => .nil
  | _, _, .cons h t => .cons h (vals_each t)
theorem cr_sortDt {X : Cx} (hc : X.calm = true) (hu : X.A.units + 65 < cLine) : CallR X (.builtin "sorted") (rSortDt X.K) := by
  intro pins s σ H vs us Q I r h
  obtain ⟨a, ts, rfl, hs, hd, hal, hso, hz, hdep, q⟩ := h
  obtain ⟨its, rv, hl, _⟩ := I.list hs
  rw [Vals.ref1 r]
  obtain ⟨as, hr⟩ := Dp.readsAll I _ _ _ hd rv
  refine PySem.W.sorted_data (bs := ts) (enc := fun t : V × PyData => t.2) (R := fun u t => RelV t.1 u) hl.isList (each_of rv) (PySem.W.readsAll_each _ hr) hal hso hz (fun t ht => by have := hdep t ht; omega) fun out hlen ho => ?_
  obtain ⟨ep, he'⟩ := PyProof.Rows.sortedAll_at s.heap its out.toArray
  have hv := vals_each ho
  have hlen2 : ((ts.mergeSort (PySem.W.dataLe false fun t : V × PyData => t.2)).map (·.1)).length ≤ sizeLine := by
    rw [List.length_map, List.length_mergeSort]
    exact hz
  exact ⟨.ref _, upd H _ (.lst ((ts.mergeSort (PySem.W.dataLe false fun t : V × PyData => t.2)).map (·.1))), I.laid (t' := s.toks) (fun _ _ => PyProof.Rows.sortedAll_old) (Nat.le_succ _) ⟨hlen2, out, ep, hv, he'⟩, rfl, q _ (I.hok.fresh (Nat.le_succ _))⟩
theorem dn_zip {K : PySem.W.Frag} {α : List Addr} {H : Hp} : ∀ {ps : List (PV × Dt)} {vs : List V}, VRs K α H (ps.map (·.1)) vs → ∃ ts : List ((PV × Dt) × V), ps = ts.map (·.1) ∧ vs = ts.map (·.2) ∧ ∀ t ∈ ts, VR K α H t.1.1 t.2
  | [], _, .nil => ⟨[], rfl, rfl, by simp⟩
  | p :: ps, _, .cons (v := v) h t => by
    obtain ⟨ts, h1, h2, h3⟩ := dn_zip t
    refine ⟨(p, v) :: ts, by rw [List.map_cons, ← h1], by rw [List.map_cons, ← h2], fun x hx => ?_⟩
    rcases List.mem_cons.mp hx with rfl | hx
    · exact h
    · exact h3 x hx
theorem vrs_zip {K : PySem.W.Frag} {α : List Addr} {H : Hp} : ∀ {ts : List ((PV × Dt) × V)}, (∀ t ∈ ts, VR K α H t.1.1 t.2) → VRs K α H (ts.map (·.1.1)) (ts.map (·.2))
  | [], _ => .nil
  | t :: ts, h => .cons (h t List.mem_cons_self) (vrs_zip fun x hx => h x (List.mem_cons_of_mem _ hx))
theorem depth_all : ∀ {k : Nat} {ds : List PyData}, PyData.depthAll ds ≤ k → ∀ d ∈ ds, d.depth ≤ k
  | _, [], _, _, h => by cases h
  | k, d :: ds, h, e, he => by
    simp only [PyData.depthAll] at h
    rcases List.mem_cons.mp he with rfl | he
    · omega
    · exact depth_all (by omega) e he
theorem snd_sortD {X : Cx} (hc : X.calm = true) (hu : X.A.units + 65 < cLine) : CallSnd X (.builtin "sorted") (bltop .sortD) := by
  refine ⟨_, cr_sortDt hc hu, fun xs S Q α H xs' Q' h s r po => ?_⟩
  match xs, h, r with
  | [.ref n], h, .cons (.ref ra) .nil =>
    obtain ⟨ps, g, hd, hso, hz, q⟩ := h
    obtain ⟨vs, hl, r⟩ := s.getL g ra
    have hdp := DnL.dp s hd r
    have hsh := (DnL.shape hd).2
    obtain ⟨ts, h1, h2, h3⟩ := dn_zip r
    have e1 : vs = (ts.map fun t => (t.2, toD t.1.2)).map (·.1) := by rw [h2, List.map_map]; rfl
    have e2 : toDs (ps.map (·.2)) = (ts.map fun t => (t.2, toD t.1.2)).map (·.2) := by
      rw [toDs_map, h1, List.map_map, List.map_map, List.map_map]
      rfl
    have mem : ∀ d ∈ (ts.map fun t => (t.2, toD t.1.2)).map (·.2), ∃ x ∈ ps.map (·.2), d = toD x := by
      intro d hd
      rw [← e2, toDs_map] at hd
      obtain ⟨x, hx, e⟩ := List.mem_map.mp hd
      exact ⟨x, hx, e.symm⟩
    refine ⟨_, ts.map fun t => (t.2, toD t.1.2), rfl, by rw [← e1]; exact hl, by rw [← e1, ← e2]; exact hdp, ?_, ?_, ?_, ?_, fun p hp => ?_⟩
    · intro d hd d' hd'
      obtain ⟨x, hx, rfl⟩ := mem d hd
      obtain ⟨y, hy, rfl⟩ := mem d' hd'
      exact hso.1 x hx y hy
    · rcases hso.2 with h | h
      · refine .inl fun d hd => ?_
        obtain ⟨x, hx, rfl⟩ := mem d hd
        obtain ⟨y, l, rfl⟩ := h x hx
        exact ⟨toD y, toDs l, by simp only [toD, toDs]⟩
      · refine .inr fun d hd => ?_
        obtain ⟨x, hx, rfl⟩ := mem d hd
        obtain ⟨h1, h2⟩ := h x hx
        cases x with
        | non => exact absurd rfl h1
        | tup l => exact absurd rfl (h2 l)
        | bl b => exact ⟨by simp [toD], by simp [toD]⟩
        | int b => exact ⟨by simp [toD], by simp [toD]⟩
        | str b => exact ⟨by simp [toD], by simp [toD]⟩
        | lst b => exact ⟨by simp [toD], by simp [toD]⟩
    · rw [List.length_map, big_eq]
      have := congrArg List.length h1
      rw [List.length_map] at this
      omega
    · intro t ht
      have : t.2 ∈ toDs (ps.map (·.2)) := by rw [e2]; exact List.mem_map.mpr ⟨t, ht, rfl⟩
      exact depth_all hsh _ this
    · have em : (ts.map fun t => (t.2, toD t.1.2)).mergeSort (PySem.W.dataLe false fun t : V × PyData => t.2) = (ts.mergeSort fun a b => leDt a.1 b.1).map fun t => (t.2, toD t.1.2) := by
        rw [List.map_mergeSort]
        intro a _ b _
        rw [PySem.W.dataLe_eq]
        rfl
      have ep : ps.mergeSort leDt = (ts.mergeSort fun a b => leDt a.1 b.1).map (·.1) := by
        rw [h1, List.map_mergeSort]
        intro a _ b _
        rfl
      rw [em, List.map_map]
      rw [ep, List.map_map] at q
      refine post_new s po hp (vrs_zip fun t ht => h3 t ?_) q
      exact (List.mergeSort_perm _ _).mem_iff.mp ht
end PyI
set_option autoImplicit false
set_option linter.all false
set_option Elab.async false
set_option maxRecDepth 100000
set_option maxHeartbeats 4000000
namespace PyI
open PySem PySem.Spec PyProof.Rows L2
variable {X : Cx} {cs : CS} {sc : Scope} {Γ : Sig} {W : WX} {cv : Nat → Value}
/-! ### calls of built-ins -/
theorem se_callB {b : BI} {g : List PV → Store → PQ → Prop} {id : String} {a : IE} {x : Str} {e : Expr} {es : List Expr} {p p2 : Pos} (ok : XOk X cs sc Γ W cv) (hc : CallSnd X (.builtin id) g) (hg : ∀ vs S Q, bltop b vs S Q → g vs S Q)
    (hv : bootBuiltins x = some (.builtin id)) (hm : X.mg x = none) (h2 : glB sc x = true) (h3 : nameOk x = true) (ns : ∀ y ∈ e :: es, noSet y = true) (ha : SA X W cv (e :: es) (wpA Γ a)) :
    SE X W cv (.Call (.Name x p2) (e :: es) [] p) (wpE Γ (.blt b a)) := by
  intro ρ S Q R h σ H α er s Q' po pr pins st I
  rw [wpE] at h
  obtain ⟨r, hr, hv'⟩ := hc
  refine (pe_callB hr (ok.gl x h2) hm hv (pa_sem X (e :: es)) (nm1 h3).2.2 (nm1 h3).1 (noSet_star (ns e List.mem_cons_self) _ _) (back_all fun y hy => ns y (List.mem_cons_of_mem _ hy))).run pins st σ H Q' I ?_
  refine ha ρ S _ R h σ H α er s _ (fun ds S1 α1 H1 vs q hl l1 s1 rv => ?_) pr
  exact hv' _ _ _ _ _ _ _ (hg _ _ _ q) s1 rv (po.le l1)
theorem se_callT {b : BI} {g : List PV → Store → PQ → Prop} {id : String} {a : IE} {x : Str} {e : Expr} {es : List Expr} {p p2 : Pos} (ok : XOk X cs sc Γ W cv) (hc : CallSnd X (.type id) g) (hg : ∀ vs S Q, bltop b vs S Q → g vs S Q)
    (hv : bootBuiltins x = some (.type id)) (hm : X.mg x = none) (h2 : glB sc x = true) (h3 : nameOk x = true) (ns : ∀ y ∈ e :: es, noSet y = true) (ha : SA X W cv (e :: es) (wpA Γ a)) :
    SE X W cv (.Call (.Name x p2) (e :: es) [] p) (wpE Γ (.blt b a)) := by
  intro ρ S Q R h σ H α er s Q' po pr pins st I
  rw [wpE] at h
  obtain ⟨r, hr, hv'⟩ := hc
  refine (pe_callTy hr (ok.gl x h2) hm hv (pa_sem X (e :: es)) (nm1 h3).2.2 (nm1 h3).1 (noSet_star (ns e List.mem_cons_self) _ _) (back_all fun y hy => ns y (List.mem_cons_of_mem _ hy))).run pins st σ H Q' I ?_
  refine ha ρ S _ R h σ H α er s _ (fun ds S1 α1 H1 vs q hl l1 s1 rv => ?_) pr
  exact hv' _ _ _ _ _ _ _ (hg _ _ _ q) s1 rv (po.le l1)
theorem boot_max' : bootBuiltins "max" = some (.builtin "max") := by decide +kernel
theorem se_blt {b : BI} {a : IE} {x : Str} {e : Expr} {es : List Expr} {p p2 : Pos} (ok : XOk X cs sc Γ W cv) (hb : bKnown b = true) (hx : x = bName b) (h2 : glB sc x = true) (h3 : nameOk x = true) (ns : ∀ y ∈ e :: es, noSet y = true) (ha : SA X W cv (e :: es) (wpA Γ a)) :
    SE X W cv (.Call (.Name x p2) (e :: es) [] p) (wpE Γ (.blt b a)) := by
  subst hx
  have hc := ok.calm
  cases b <;> first | (cases hb; done) | skip
  · exact se_callT ok (snd_dictP hc) (fun _ _ _ h => h) (by decide +kernel) (ok.blt _ (by simp [bName])) h2 h3 ns ha
  · exact se_callB ok snd_len (fun _ _ _ h => h) (by decide +kernel) (ok.blt _ (by simp [bName])) h2 h3 ns ha
  · exact se_callT ok snd_str (fun _ _ _ h => h) (by decide +kernel) (ok.blt _ (by simp [bName])) h2 h3 ns ha
  · exact se_callT ok snd_int (fun _ _ _ h => h) (by decide +kernel) (ok.blt _ (by simp [bName])) h2 h3 ns ha
  · exact se_callT ok snd_tuple (fun _ _ _ h => h) (by decide +kernel) (ok.blt _ (by simp [bName])) h2 h3 ns ha
  · exact se_callT ok snd_list (fun _ _ _ h => h) (by decide +kernel) (ok.blt _ (by simp [bName])) h2 h3 ns ha
  · exact se_callB ok (snd_sum hc) (fun _ _ _ h => h) (by decide +kernel) (ok.blt _ (by simp [bName])) h2 h3 ns ha
  · exact se_callB ok (snd_all hc) (fun _ _ _ h => h) (by decide +kernel) (ok.blt _ (by simp [bName])) h2 h3 ns ha
  · exact se_callB ok (snd_any hc) (fun _ _ _ h => h) (by decide +kernel) (ok.blt _ (by simp [bName])) h2 h3 ns ha
  · exact se_callB ok (snd_min hc) (fun _ _ _ h => .inl h) (by decide +kernel) (ok.blt _ (by simp [bName])) h2 h3 ns ha
  · exact se_callB ok (snd_max hc) (fun _ _ _ h => .inl h) (by decide +kernel) (ok.blt _ (by simp [bName])) h2 h3 ns ha
  · exact se_callB ok (snd_min hc) (fun _ _ _ h => .inr h) (by decide +kernel) (ok.blt _ (by simp [bName])) h2 h3 ns ha
  · exact se_callB ok (snd_max hc) (fun _ _ _ h => .inr h) (by decide +kernel) (ok.blt _ (by simp [bName])) h2 h3 ns ha
  · exact se_callB ok (snd_minD hc ok.units) (fun _ _ _ h => h) (by decide +kernel) (ok.blt _ (by simp [bName])) h2 h3 ns ha
  · exact se_callB ok (snd_maxD hc ok.units) (fun _ _ _ h => h) (by decide +kernel) (ok.blt _ (by simp [bName])) h2 h3 ns ha
  · exact se_callB ok (snd_sumL hc) (fun _ _ _ h => h) (by decide +kernel) (ok.blt _ (by simp [bName])) h2 h3 ns ha
  · exact se_callB ok (snd_sortD hc ok.units) (fun _ _ _ h => h) (by decide +kernel) (ok.blt _ (by simp [bName])) h2 h3 ns ha
/-! ### isinstance -/
theorem se_isi {b : BI} {T : String} {g : String → Bool} {a : IE} {y : Str} {e : Expr} {p p2 p3 : Pos} (ok : XOk X cs sc Γ W cv) (hk : ∀ t ∈ ["NoneType", "bool", "int", "str", "tuple", "list", "dict"], kitB t T = some (g t))
    (hG : ∀ v S Q, bltop b [v] S Q → isiG T g [v] S Q) (hy : bootBuiltins y = some (.type T)) (my : X.mg y = none) (gy : glB sc y = true) (ny : nameOk y = true)
    (h2 : glB sc "isinstance" = true) (ns : noSet e = true) (ha : SE X W cv e (wpE Γ a)) : SE X W cv (.Call (.Name "isinstance" p2) [e, .Name y p3] [] p) (wpE Γ (.blt b (.cons a .nil))) := by
  intro ρ S Q R h σ H α er s Q' po pr pins st I
  simp only [wpE, wpA] at h
  have ns2 : ∀ z ∈ [e, Expr.Name y p3], noSet z = true := fun z hz => by
    rcases List.mem_cons.mp hz with rfl | hz
    · exact ns
    · rcases List.mem_cons.mp hz with rfl | hz
      · rfl
      · cases hz
  refine (pe_callB call_isi (ok.gl _ h2) (ok.blt _ (by simp)) PyProof.Rows.boot_isinstance (pa_cons (pe_sem X e) (pa_cons (pe_bltn (v := .ty T) (ok.gl y gy) my hy rfl (nm1 ny).2.2 (nm1 ny).1) pa_nil) (noSet_star ns _ _)) (by decide) (by decide)
    (noSet_star ns _ _) (back_all fun z hz => ns2 z (List.mem_cons_of_mem _ hz))).run pins st σ H Q' I ?_
  refine ha ρ S _ R h σ H α er s _ (fun d S1 α1 H1 v q l1 s1 rv => ?_) pr
  exact snd_isi T g hk [d] S1 Q α1 H1 [v] Q' (hG _ _ _ q) s1 (.cons rv .nil) (po.le l1)
theorem isiG_of {T : String} {g : String → Bool} {f : PV → Bool} (h0 : f .non = g "NoneType") (h1 : ∀ b, f (.bl b) = g "bool") (h2 : ∀ b, f (.int b) = g "int") (h3 : ∀ b, f (.str b) = g "str") (h4 : ∀ b, f (.tup b) = g "tuple") (h5 : ∀ n, f (.ref n) = g "list") (h6 : ∀ n, f (.ref n) = g "dict")
    (v : PV) (S : Store) (Q : PQ) (h : known v S ∧ Q (.bl (f v)) S) : isiG T g [v] S Q := by
  obtain ⟨k, q⟩ := h
  cases v with
  | non => rw [h0] at q; exact q
  | bl b => rw [h1] at q; exact q
  | int b => rw [h2] at q; exact q
  | str b => rw [h3] at q; exact q
  | tup b => rw [h4] at q; exact q
  | ref n =>
    rcases k with ⟨xs, k⟩ | ⟨xs, k⟩
    · rw [h5] at q; exact .inl ⟨xs, k, q⟩
    · rw [h6] at q; exact .inr ⟨xs, k, q⟩
theorem se_isiAll {b : BI} {T : Str} {a : IE} {y : Str} {e : Expr} {p p2 p3 : Pos} (ok : XOk X cs sc Γ W cv) (hT : isiT b = some T) (hy : y = T) (gy : glB sc y = true) (ny : nameOk y = true)
    (h2 : glB sc "isinstance" = true) (ns : noSet e = true) (ha : SE X W cv e (wpE Γ a)) : SE X W cv (.Call (.Name "isinstance" p2) [e, .Name y p3] [] p) (wpE Γ (.blt b (.cons a .nil))) := by
  subst hy
  cases b <;> first | (cases hT; done) | skip
  · cases hT
    exact se_isi ok kit_int (isiG_of rfl (fun _ => rfl) (fun _ => rfl) (fun _ => rfl) (fun _ => rfl) (fun _ => rfl) (fun _ => rfl)) PyProof.Rows.boot_int (ok.blt _ (by simp)) gy ny h2 ns ha
  · cases hT
    exact se_isi ok kit_bool (isiG_of rfl (fun _ => rfl) (fun _ => rfl) (fun _ => rfl) (fun _ => rfl) (fun _ => rfl) (fun _ => rfl)) PyProof.Rows.boot_bool (ok.blt _ (by simp)) gy ny h2 ns ha
  · cases hT
    exact se_isi ok kit_str (isiG_of rfl (fun _ => rfl) (fun _ => rfl) (fun _ => rfl) (fun _ => rfl) (fun _ => rfl) (fun _ => rfl)) PyProof.Rows.boot_str (ok.blt _ (by simp)) gy ny h2 ns ha
  · cases hT
    exact se_isi ok kit_tuple (isiG_of rfl (fun _ => rfl) (fun _ => rfl) (fun _ => rfl) (fun _ => rfl) (fun _ => rfl) (fun _ => rfl)) PyProof.Rows.boot_tuple (ok.blt _ (by simp)) gy ny h2 ns ha
theorem se_isSeq {a : IE} {e : Expr} {p p2 p3 p4 p5 : Pos} {k : Nat} (ok : XOk X cs sc Γ W cv) (gl : glB sc "list" = true) (gt : glB sc "tuple" = true) (h2 : glB sc "isinstance" = true) (ns : noSet e = true) (ha : SE X W cv e (wpE Γ a)) :
    SE X W cv (.Call (.Name "isinstance" p2) [e, .Tuple [.Name "list" p3, .Name "tuple" p4] k p5] [] p) (wpE Γ (.blt .isSeq (.cons a .nil))) := by
  intro ρ S Q R h σ H α er s Q' po pr pins st I
  simp only [wpE, wpA] at h
  have ns2 : ∀ z ∈ [e, Expr.Tuple [.Name "list" p3, .Name "tuple" p4] k p5], noSet z = true := fun z hz => by
    rcases List.mem_cons.mp hz with rfl | hz
    · exact ns
    · rcases List.mem_cons.mp hz with rfl | hz
      · rfl
      · cases hz
  have pl : PE X (.Name "list" p3) _ := pe_bltn (v := .ty "list") (ok.gl _ gl) (ok.blt _ (by simp)) (by decide +kernel) rfl (by decide) (by decide)
  have pt : PE X (.Name "tuple" p4) _ := pe_bltn (v := .ty "tuple") (ok.gl _ gt) (ok.blt _ (by simp)) (by decide +kernel) rfl (by decide) (by decide)
  refine (pe_callB call_isiT (ok.gl _ h2) (ok.blt _ (by simp)) PyProof.Rows.boot_isinstance (pa_cons (pe_sem X e) (pa_cons (pe_tup (pa_cons pl (pa_cons pt pa_nil))) pa_nil) (noSet_star ns _ _)) (by decide) (by decide)
    (noSet_star ns _ _) (back_all fun z hz => ns2 z (List.mem_cons_of_mem _ hz))).run pins st σ H Q' I ?_
  refine ha ρ S _ R h σ H α er s _ (fun d S1 α1 H1 v q l1 s1 rv => ?_) pr
  refine ⟨by show 2 ≤ sizeLine; rw [big_eq]; decide, fun t ht => ?_⟩
  have l2 : Le X.K α1 H1 α1 (upd H1 t (.tup [.ty "list", .ty "tuple"])) := le_upd (.inl ht)
  have s2 : Sim X.K S1 α1 (upd H1 t (.tup [.ty "list", .ty "tuple"])) := s1.aside ht
  have fin : ∀ (x : V) (T : String) (b : Bool), T ∈ ["NoneType", "bool", "int", "str", "tuple", "list", "dict"] → TyX X.K (upd H1 t (.tup [.ty "list", .ty "tuple"])) x (.type T) → (T == "list" || T == "tuple") = b → Q (.bl b) S1 → rIsiT X.K [x, .ref t] (upd H1 t (.tup [.ty "list", .ty "tuple"])) Q' := fun x T b hT ty hb q =>
    ⟨x, t, [.ty "list", .ty "tuple"], _, [.type "list", .type "tuple"], b, rfl, upd_same, .cons (.ty _) (.cons (.ty _) .nil), ty, by rw [kit_seq hT, hb], po _ _ _ _ _ q (l1.trans l2) s2 (.bl _)⟩
  match d, q, rv with
  | .non, q, .non => exact fin _ "NoneType" false (by simp) (.base .non) (by decide) q
  | .int i, q, .int _ => exact fin _ "int" false (by simp) (.base (.int i)) (by decide) q
  | .str z, q, .str _ => exact fin _ "str" false (by simp) (.base (.str _)) (by decide) q
  | .tup _, q, .tup hh _ => exact fin _ "tuple" true (by simp) (tyx_tup (l2.te _ _ hh)) (by decide) q
  | .ref n, q, .ref ra =>
    obtain ⟨xs, g, q⟩ := q
    obtain ⟨vs, hl, _⟩ := s2.getL g ra
    exact fin _ "list" true (by simp) (tyx_lst hl) (by decide) q
/-! ### methods -/
theorem se_meth0 {m : MI} {id : String} {nm : Str} {o : Expr} {a : IE} {p p2 : Pos} (pa : PlainAttrs (mT m)) (slot : Slot (mT m) nm id) (hty : typeOf (.builtin id) = pure (.type "method_descriptor")) (hm : MtSnd X id (methop m)) (pb : plainBase o = true) (hl : (p2.endLine == p.line) = true)
    (ha : SE X W cv o (wpE Γ a)) : SE X W cv (.Call (.Attribute o nm p2) [] [] p) (wpE Γ (.meth m a .nil)) := by
  intro ρ S Q R h σ H α er s Q' po pr pins st I
  simp only [wpE, wpA] at h
  obtain ⟨r, hr, hv⟩ := hm
  refine (pe_bm0 pa slot hty hr (pe_sem X o) (base_ok pb _ _ _) hl).run pins st σ H Q' I ?_
  refine ha ρ S _ R h σ H α er s _ (fun d S1 α1 H1 v q l1 s1 rv => ?_) pr
  exact ⟨mty_of q.1 s1 rv, hv _ _ _ _ _ _ _ _ _ q.2 s1 rv .nil (po.le l1)⟩
theorem se_meth1 {m : MI} {id : String} {nm : Str} {o e : Expr} {es : List Expr} {a b : IE} {p p2 : Pos} (pa : PlainAttrs (mT m)) (slot : Slot (mT m) nm id) (hty : typeOf (.builtin id) = pure (.type "method_descriptor")) (hm : MtSnd X id (methop m)) (pb : plainBase o = true) (hl : (p2.endLine == p.line) = true)
    (few : es.length ≤ 5) (ns : ∀ y ∈ e :: es, noSet y = true) (ha : SE X W cv o (wpE Γ a)) (hb : SA X W cv (e :: es) (wpA Γ b)) : SE X W cv (.Call (.Attribute o nm p2) (e :: es) [] p) (wpE Γ (.meth m a b)) := by
  intro ρ S Q R h σ H α er s Q' po pr pins st I
  rw [wpE] at h
  obtain ⟨r, hr, hv⟩ := hm
  refine (pe_bm pa slot hty hr (pe_sem X o) (pa_sem X (e :: es)) (base_ok pb _ _ _) ?_ hl (noSet_star (ns e List.mem_cons_self) _ _) (back_all fun y hy => ns y (List.mem_cons_of_mem _ hy))).run pins st σ H Q' I ?_
  · rw [star_all ns]
    unfold backTo
    rw [List.map_map, List.all_map]
    simp only [Bool.and_eq_true, decide_eq_true_eq, List.all_eq_true]
    refine ⟨⟨fun x _ => rfl, fun x hx => ?_⟩, ?_⟩
    · simp [backToKw, keywordEach] at hx
    · simp only [List.length_cons, List.length_nil, List.isEmpty_nil, if_true]; omega
  refine ha ρ S _ R h σ H α er s _ (fun d S1 α1 H1 v q l1 s1 rv => ?_) pr
  refine ⟨mty_of q.1 s1 rv, ?_⟩
  refine hb ρ S1 _ R q.2 σ H1 α1 (er.mono l1) s1 _ (fun ds S2 α2 H2 vs q2 hl l2 s2 rvs => ?_) (pr.le l1)
  exact hv _ _ _ _ _ _ _ _ _ q2 s2 (rv.mono l2) rvs (po.le (l1.trans l2))
theorem se_meth {m : MI} {nm : Str} {o : Expr} {es : List Expr} {a b : IE} {p p2 : Pos} (ok : XOk X cs sc Γ W cv) (hk : mKnown m = true) (hn : mName m = nm) (pb : plainBase o = true) (hl : (p2.endLine == p.line) = true)
    (few : es.length = mArity m) (ns : ∀ y ∈ es, noSet y = true) (ha : SE X W cv o (wpE Γ a)) (hb : SA X W cv es (wpA Γ b)) (hb0 : es = [] → b = .nil) : SE X W cv (.Call (.Attribute o nm p2) es [] p) (wpE Γ (.meth m a b)) := by
  subst hn
  have hu : X.A.units + 1 < cLine := by have := ok.units; omega
  cases m <;> first | (cases hk; done) | skip
  all_goals rcases es with _ | ⟨e, es⟩
  all_goals first | (cases few; done) | skip
  all_goals try rw [hb0 rfl]
  · exact se_meth1 PySem.F.plainAttrs_list PySem.F.slot_list_append PySem.F.type_list_append snd_append pb hl (by simp [mArity] at few; simp [few]) ns ha hb
  · exact se_meth1 PySem.F.plainAttrs_list PySem.F.slot_list_extend PySem.F.type_list_extend snd_extend pb hl (by simp [mArity] at few; simp [few]) ns ha hb
  · exact se_meth0 PySem.F.plainAttrs_list PySem.F.slot_list_pop PySem.F.type_list_pop snd_pop pb hl ha
  · exact se_meth1 PySem.F.plainAttrs_list PySem.F.slot_list_pop PySem.F.type_list_pop snd_popAt pb hl (by simp [mArity] at few; simp [few]) ns ha hb
  · exact se_meth1 PySem.F.plainAttrs_list PySem.F.slot_list_index PySem.F.type_list_index snd_index pb hl (by simp [mArity] at few; simp [few]) ns ha hb
  · exact se_meth1 PySem.F.plainAttrs_list PySem.F.slot_list_insert PySem.F.type_list_insert snd_insert pb hl (by simp [mArity] at few; simp [few]) ns ha hb
  · exact se_meth1 PySem.F.plainAttrs_str PySem.F.slot_str_join PySem.F.type_str_join snd_join pb hl (by simp [mArity] at few; simp [few]) ns ha hb
  · exact se_meth0 PySem.F.plainAttrs_str PySem.F.slot_str_isalpha PySem.F.type_str_isalpha snd_isalpha pb hl ha
  · exact se_meth1 PySem.F.plainAttrs_str PySem.F.slot_str_split PySem.F.type_str_split snd_split pb hl (by simp [mArity] at few; simp [few]) ns ha hb
  · exact se_meth1 PySem.F.plainAttrs_str PySem.F.slot_str_partition PySem.F.type_str_partition snd_partition pb hl (by simp [mArity] at few; simp [few]) ns ha hb
  · exact se_meth1 PySem.F.plainAttrs_str PySem.F.slot_str_startswith PySem.F.type_str_startswith snd_startswith pb hl (by simp [mArity] at few; simp [few]) ns ha hb
  · exact se_meth1 PySem.F.plainAttrs_str PySem.F.slot_str_index PySem.F.type_str_index snd_sindex pb hl (by simp [mArity] at few; simp [few]) ns ha hb
  · exact se_meth1 PySem.F.plainAttrs_dict PySem.F.slot_dict_get PySem.F.type_dict_get (snd_get hu) pb hl (by simp [mArity] at few; simp [few]) ns ha hb
  · exact se_meth1 PySem.F.plainAttrs_dict PySem.F.slot_dict_setdefault PySem.F.type_dict_setdefault snd_setdefault pb hl (by simp [mArity] at few; simp [few]) ns ha hb
/-! ### targets -/
def gNs : List Nat → TGs
  | [] => gNil
  | i :: r => gCons (gName i) (gNs r)
def gOf (K : PySem.W.Frag) : Tg → TG
  | .nm i => gName i
  | .tp l => gTup K l.length (gNs l)
theorem chkN_name {N : List Str} {i : Nat} {e : Expr} (h : chkN N sc i e = true) : ∃ x p, e = .Name x p ∧ N[i]? = some x ∧ locB sc x = true := by
  cases e <;> first | (cases h; done) | skip
  rename_i x p
  simp only [chkN, Bool.and_eq_true, beq_iff_eq] at h
  exact ⟨x, p, rfl, h.1, h.2⟩
theorem pg_nm {i : Nat} {e : Expr} (ok : XOk X cs sc Γ W cv) (h : chkN cs.N sc i e = true) : PG X e (gName i) := by
  obtain ⟨x, p, rfl, h1, h2⟩ := chkN_name h
  obtain ⟨l1, l2⟩ := ok.loc x h2
  exact pg_name ok.nd (by rw [ok.hN]; exact h1) l1 l2
theorem assign_names {N : List Str} {env : PySem.Env} : ∀ {l : List Nat} {es : List Expr}, chkNs N sc l es = true → assignEach es env = es.map fun e => (false, assign e env)
  | [], [], _ => rfl
  | i :: r, e :: t, h => by
    simp only [chkNs, Bool.and_eq_true] at h
    obtain ⟨x, p, rfl, _, _⟩ := chkN_name h.1
    show (false, assign _ env) :: assignEach t env = _
    rw [assign_names h.2]
    rfl
theorem pgs_nms (ok : XOk X cs sc Γ W cv) : ∀ {l : List Nat} {es : List Expr}, chkNs cs.N sc l es = true → PGs X es (gNs l)
  | [], [], _ => pgs_nil
  | i :: r, e :: t, h => by
    have h' := h
    simp only [chkNs, Bool.and_eq_true] at h
    refine pgs_cons (pg_nm ok h.1) (pgs_nms ok h.2) ?_
    rw [assign_names h', assign_names h.2]
    rfl
theorem ns_len {N : List Str} : ∀ {l : List Nat} {es : List Expr}, chkNs N sc l es = true → es.length = l.length
  | [], [], _ => rfl
  | i :: r, e :: t, h => by
    simp only [chkNs, Bool.and_eq_true] at h
    simp [ns_len h.2]
theorem pg_of {t : Tg} {e : Expr} (ok : XOk X cs sc Γ W cv) (h : chkT cs.N sc t e = true) : PG X e (gOf X.K t) := by
  cases t with
  | nm i => exact pg_nm ok h
  | tp l =>
    cases e <;> first | (cases h; done) | skip
    rename_i es k p
    have h' : chkNs cs.N sc l es = true := h
    refine pg_tup ok.calm (pgs_nms ok h') ?_ ?_
    · rw [assign_names h', List.length_map, ns_len h']
    · rw [assign_names h', List.findIdx?_eq_none_iff]
      intro x hx
      obtain ⟨e, _, rfl⟩ := List.mem_map.mp hx
      rfl
def setVs : L2.St → List Nat → List V → L2.St
  | σ, i :: r, v :: vs => setVs (σ.set i (some v)) r vs
  | σ, _, _ => σ
theorem er_set {K : PySem.W.Frag} {α : List Addr} {H : Hp} {ρ : Env} {σ : L2.St} {i : Nat} {d : PV} {v : V} (e : ER K α H ρ σ) (r : VR K α H d v) : ER K α H (ρ.set i (some d)) (σ.set i (some v)) := by
  refine ⟨by simp [e.len], fun j x h => ?_⟩
  have h' := getv_eq h
  by_cases hj : j = i
  · subst hj
    by_cases hl : j < ρ.length
    · rw [List.getElem?_set_self hl] at h'
      cases h'
      exact ⟨v, by rw [List.getElem?_set_self (by rw [← e.len]; exact hl)], r⟩
    · rw [List.set_eq_of_length_le (by omega)] at h'
      rw [List.getElem?_eq_none (by omega)] at h'
      cases h'
  · rw [List.getElem?_set_ne (Ne.symm hj)] at h'
    obtain ⟨w, h1, h2⟩ := e.at_ j x (getv_of h')
    exact ⟨w, by rw [List.getElem?_set_ne (Ne.symm hj)]; exact h1, h2⟩
/-- the slots that a target stores -/
def Stored (l : List Nat) (σ σ2 : L2.St) : Prop := ∀ vs, (∀ i ∈ l, i ∈ vs) → wipe σ2 vs = wipe σ vs
theorem wipe_set {i : Nat} {x : Option V} : ∀ {vs : List Nat} {σ : L2.St}, i ∈ vs → wipe (σ.set i x) vs = wipe σ vs
  | v :: vs, σ, h => by
    show (wipe (σ.set i x) vs).set v none = (wipe σ vs).set v none
    by_cases hi : i ∈ vs
    · rw [wipe_set hi]
    · have e : i = v := by
        rcases List.mem_cons.mp h with h | h
        · exact h
        · exact absurd h hi
      subst e
      have go : ∀ (us : List Nat) (τ : L2.St), i ∉ us → wipe (τ.set i x) us = (wipe τ us).set i x := by
        intro us
        induction us with
        | nil => intro τ _; rfl
        | cons u t ih =>
          intro τ hu
          show (wipe (τ.set i x) t).set u none = ((wipe τ t).set u none).set i x
          rw [ih τ fun z => hu (List.mem_cons_of_mem _ z)]
          exact List.set_comm _ _ fun z => hu (by rw [z]; exact List.mem_cons_self)
      rw [go vs σ hi, List.set_set]
theorem wipe_wipe {σ : L2.St} (ws : List Nat) : ∀ {vs : List Nat}, (∀ i ∈ vs, i ∈ ws) → wipe (wipe σ vs) ws = wipe σ ws
  | [], _ => rfl
  | v :: vs, h => by
    show wipe ((wipe σ vs).set v none) ws = _
    rw [wipe_set (h v List.mem_cons_self), wipe_wipe ws fun i hi => h i (List.mem_cons_of_mem _ hi)]
theorem g_ns {K : PySem.W.Frag} {α : List Addr} {H : Hp} {Q : L2.St → Hp → Prop} : ∀ {l : List Nat} {ds : List PV} {vs : List V} {ρ ρ2 : Env} {σ : L2.St}, setAll ρ l ds = some ρ2 → VRs K α H ds vs → ER K α H ρ σ →
    (∀ σ2, ER K α H ρ2 σ2 → Stored l σ σ2 → Q σ2 H) → gNs l vs σ H Q
  | [], [], _, ρ, ρ2, σ, h, .nil, er, q => by
    cases h
    exact ⟨rfl, q σ er fun _ _ => rfl⟩
  | i :: r, d :: ds, _, ρ, ρ2, σ, h, .cons (v := v) rv rs, er, q => by
    refine ⟨v, _, rfl, ?_⟩
    refine g_ns (l := r) h rs (er_set er rv) fun σ2 e2 st => q σ2 e2 fun vs hv => ?_
    rw [st vs fun j hj => hv j (List.mem_cons_of_mem _ hj), wipe_set (hv i List.mem_cons_self)]
  | [], _ :: _, _, _, _, _, h, _, _, _ => by simp [setAll] at h
  | _ :: _, [], _, _, _, _, h, _, _, _ => by simp [setAll] at h
theorem setAll_len : ∀ {l : List Nat} {ds : List PV} {ρ ρ2 : Env}, setAll ρ l ds = some ρ2 → ds.length = l.length
  | [], [], _, _, _ => rfl
  | i :: r, d :: ds, _, _, h => by simp [setAll_len (l := r) h]
  | [], _ :: _, _, _, h => by simp [setAll] at h
  | _ :: _, [], _, _, h => by simp [setAll] at h
theorem g_of {K : PySem.W.Frag} {α : List Addr} {H : Hp} {Q : L2.St → Hp → Prop} {t : Tg} {d : PV} {v : V} {ρ ρ2 : Env} {σ : L2.St} (h : setTg ρ t d = some ρ2) (r : VR K α H d v) (er : ER K α H ρ σ)
    (q : ∀ σ2, ER K α H ρ2 σ2 → Stored (tgIx t) σ σ2 → Q σ2 H) : gOf K t v σ H Q := by
  cases t with
  | nm i =>
    cases h
    exact q _ (er_set er r) fun vs hv => wipe_set (hv i List.mem_cons_self)
  | tp l =>
    cases d <;> first | (cases h; done) | skip
    rename_i ds
    cases r with | tup ha rs =>
    refine ⟨_, _, rfl, ha, by rw [← rs.length]; exact setAll_len h, ?_⟩
    exact g_ns (l := l) h rs er q
end PyI
set_option autoImplicit false
set_option linter.all false
set_option Elab.async false
set_option maxRecDepth 100000
set_option maxHeartbeats 4000000
namespace PyI
open PySem PySem.Spec PyProof.Rows L2
variable {X : Cx} {cs : CS} {sc : Scope} {Γ : Sig} {W : WX} {cv : Nat → Value}
/-! ### what is walked -/
def tI (X : Cx) (tg iter : Expr) : TI := fun σ H RR => ∀ (pins : List (Addr × Obj)) (s : Shared), Inv X pins σ H s → wpAny (model X.prog X.w) X.A (eval iter X.env) (fun v s1 => wpAny (model X.prog X.w) X.A (pyIter v) (PIE X pins σ tg RR) X.xe s1) X.xe s
theorem pi_sem (X : Cx) (tg iter : Expr) : PI X tg iter (tI X tg iter) := ⟨fun pins s σ H R I h => h pins s I⟩
def SI (X : Cx) (W : WX) (cv : Nat → Value) (Γ : Sig) (k : ItK) (its : IE) (tg iter : Expr) : Prop :=
  ∀ (ρ : Env) (S : Store) (Q : IQ) (R : PR), wpA Γ its ρ S (fun vs S1 => itemsOf k vs S1 Q) R → ∀ (σ : L2.St) (H : Hp) (α : List Addr), ER X.K α H ρ σ → Sim X.K S α H → ∀ RR : It → Hp → Prop,
    (∀ items keep S' α' H' J, Q items keep S' → Le X.K α H α' H' → Sim X.K S' α' H' → JOk X.K J items keep α' H' → RR J H') → PostR X.K α H R cv (fun c H' => W c none σ H') → tI X tg iter σ H RR
theorem iter_name {k : ItK} {tg iter : Expr} {es : List Expr} {x : Str} (h : (if x == ("range" : Str) && glB sc x then some es else none) = some es) : x = "range" ∧ glB sc x = true := by
  split at h
  · rename_i hh
    simp only [Bool.and_eq_true, beq_iff_eq] at hh
    exact hh
  · cases h
theorem snd_iter {k : ItK} {its : IE} {tg iter : Expr} {es : List Expr} (ok : XOk X cs sc Γ W cv) (hI : iterArgs sc k tg iter = some es) (ns : ∀ e ∈ es, noSet e = true) (hA : SA X W cv es (wpA Γ its)) (hE : ∀ e, es = [e] → ∃ a, its = .cons a .nil ∧ SE X W cv e (wpE Γ a)) :
    SI X W cv Γ k its tg iter := by
  intro ρ S Q R h σ H α er s RR po pr pins st I
  have star1 : ∀ a : Expr, noSet a = true → starEach [a] X.env = [(false, eval a X.env)] := fun a ha => noSet_star ha [] _
  cases k with
  | seq =>
    cases hI
    obtain ⟨a, rfl, ha⟩ := hE _ rfl
    simp only [wpA] at h
    refine (pi_iter (pe_sem X iter) iter_seq).run pins st σ H RR I ?_
    refine ha ρ S _ R h σ H α er s _ (fun d S1 α1 H1 v q l1 s1 rv => ?_) pr
    cases d <;> first | exact (show False from q).elim | skip
    · cases rv
      exact .inr (.inr ⟨_, rfl, po _ _ _ _ _ _ q l1 s1 jok_str⟩)
    · cases rv with | tup hb r =>
      exact .inr (.inl ⟨_, _, rfl, hb, po _ _ _ _ _ _ q l1 s1 (jok_tup hb r)⟩)
    · cases rv with | ref ra =>
      obtain ⟨xs, g, q⟩ := q
      obtain ⟨vs, hl, r⟩ := s1.getL g ra
      exact .inl ⟨_, vs, rfl, hl, po _ _ _ _ _ _ q l1 s1 (jok_list ra)⟩
  | rng1 =>
    simp only [iterArgs] at hI
    split at hI <;> first | (cases hI; done) | skip
    rename_i x px a p
    split at hI <;> first | (cases hI; done) | skip
    rename_i hh
    cases hI
    simp only [Bool.and_eq_true, beq_iff_eq] at hh
    obtain ⟨rfl, hg⟩ := hh
    refine (pi_range1 (ok.gl _ hg) (ok.blt _ (by simp)) (pa_sem X [a]) (star1 a (ns a List.mem_cons_self))).run pins st σ H RR I ?_
    refine hA ρ S _ R h σ H α er s _ (fun ds S1 α1 H1 vs q hl l1 s1 rv => ?_) pr
    match ds, vs, q, rv with
    | [.int j], _, q, .cons (.int _) .nil =>
      obtain ⟨h1, h2, q⟩ := q
      exact ⟨j, rfl, by omega, by omega, po _ _ _ _ _ _ q l1 s1 jok_range0⟩
  | rng2 =>
    simp only [iterArgs] at hI
    split at hI <;> first | (cases hI; done) | skip
    rename_i x px a b p
    split at hI <;> first | (cases hI; done) | skip
    rename_i hh
    cases hI
    simp only [Bool.and_eq_true, beq_iff_eq] at hh
    obtain ⟨rfl, hg⟩ := hh
    have na := ns a List.mem_cons_self
    have nb := ns b (List.mem_cons_of_mem _ List.mem_cons_self)
    refine (pi_range2 (ok.gl _ hg) (ok.blt _ (by simp)) (pa_sem X [a, b]) (by rw [noSet_star na, star1 b nb]) (star1 b nb)).run pins st σ H RR I ?_
    refine hA ρ S _ R h σ H α er s _ (fun ds S1 α1 H1 vs q hl l1 s1 rv => ?_) pr
    match ds, vs, q, rv with
    | [.int i, .int j], _, q, .cons (.int _) (.cons (.int _) .nil) =>
      obtain ⟨⟨h1, h2, h3, h4⟩, q⟩ := q
      exact ⟨i, j, rfl, ⟨by omega, by omega, by omega, by omega⟩, po _ _ _ _ _ _ q l1 s1 jok_range⟩
  | rng3 =>
    simp only [iterArgs] at hI
    split at hI <;> first | (cases hI; done) | skip
    rename_i x px a b c p
    split at hI <;> first | (cases hI; done) | skip
    rename_i hh
    cases hI
    simp only [Bool.and_eq_true, beq_iff_eq] at hh
    obtain ⟨rfl, hg⟩ := hh
    have na := ns a List.mem_cons_self
    have nb := ns b (List.mem_cons_of_mem _ List.mem_cons_self)
    have nc := ns c (List.mem_cons_of_mem _ (List.mem_cons_of_mem _ List.mem_cons_self))
    refine (pi_range3 (ok.gl _ hg) (ok.blt _ (by simp)) (pa_sem X [a, b, c]) (by rw [noSet_star na]) (by rw [noSet_star nb, star1 c nc]; rfl)).run pins st σ H RR I ?_
    refine hA ρ S _ R h σ H α er s _ (fun ds S1 α1 H1 vs q hl l1 s1 rv => ?_) pr
    match ds, vs, q, rv with
    | [.int i, .int j, .int c], _, q, .cons (.int _) (.cons (.int _) (.cons (.int _) .nil)) =>
      obtain ⟨⟨rfl, hj, rfl⟩, q⟩ := q
      refine ⟨0, j, 3, j.toNat / 3, rfl, ?_, po _ _ _ _ _ _ q l1 s1 jok_rangeC⟩
      rcases hj with rfl | rfl
      · exact ⟨by decide, by decide, by decide +kernel, by decide +kernel⟩
      · exact ⟨by decide, by decide, by decide +kernel, by decide +kernel⟩
  | enm =>
    simp only [iterArgs] at hI
    split at hI <;> first | (cases hI; done) | skip
    rename_i x px a p
    split at hI <;> first | (cases hI; done) | skip
    rename_i hh
    cases hI
    simp only [Bool.and_eq_true, beq_iff_eq] at hh
    obtain ⟨⟨rfl, hg⟩, ht⟩ := hh
    cases tg <;> first | (cases ht; done) | skip
    refine (pi_enumA (ok.gl _ hg) (ok.blt _ (by simp)) (pa_sem X [a]) (star1 a (ns a List.mem_cons_self))).run pins st σ H RR I ?_
    refine hA ρ S _ R h σ H α er s _ (fun ds S1 α1 H1 vs q hl l1 s1 rv => ?_) pr
    match ds, vs, q, rv with
    | [.tup xs], _, q, .cons (.tup hb r) .nil => exact ⟨_, _, rfl, .inr ⟨hb, po _ _ _ _ _ _ q l1 s1 (jok_enumT hb r)⟩⟩
    | [.ref n], _, q, .cons (.ref ra) .nil =>
      obtain ⟨xs, g, q⟩ := q
      obtain ⟨vs, hl, r⟩ := s1.getL g ra
      exact ⟨_, vs, rfl, .inl ⟨hl, po _ _ _ _ _ _ q l1 s1 (jok_enum ra)⟩⟩
  | zip2 =>
    simp only [iterArgs] at hI
    split at hI <;> first | (cases hI; done) | skip
    rename_i x px a b p
    split at hI <;> first | (cases hI; done) | skip
    rename_i hh
    cases hI
    simp only [Bool.and_eq_true, beq_iff_eq] at hh
    obtain ⟨⟨rfl, hg⟩, ht⟩ := hh
    have na := ns a List.mem_cons_self
    have nb := ns b (List.mem_cons_of_mem _ List.mem_cons_self)
    cases tg <;> first | (cases ht; done) | skip
    refine (RZ.pi_zipA (ok.gl _ hg) (ok.blt _ (by simp)) (pa_sem X [a, b]) (noSet_star na _ _) (back_all fun z hz => ns z (List.mem_cons_of_mem _ hz))).run pins st σ H RR I ?_
    refine hA ρ S _ R h σ H α er s _ (fun ds S1 α1 H1 vs q hl l1 s1 rv => ?_) pr
    match ds, vs, q, rv with
    | [.tup xs, .tup ys], _, q, .cons (.tup ha ra) (.cons (.tup hb rb) .nil) =>
      exact ⟨_, _, _, _, rfl, .inr ⟨ha, hb, po _ _ _ _ _ _ q l1 s1 (jok_zipT ha ra hb rb)⟩⟩
    | [.ref m, .ref n], _, q, .cons (.ref ra) (.cons (.ref rb) .nil) =>
      obtain ⟨xs, ys, g, g2, q⟩ := q
      obtain ⟨vs, hl, r⟩ := s1.getL g ra
      obtain ⟨ws, hl2, r2⟩ := s1.getL g2 rb
      exact ⟨_, _, vs, ws, rfl, .inl ⟨hl, hl2, po _ _ _ _ _ _ q l1 s1 (jok_zipL ra rb)⟩⟩
  | zip3 =>
    simp only [iterArgs] at hI
    split at hI <;> first | (cases hI; done) | skip
    rename_i x px a b c p
    split at hI <;> first | (cases hI; done) | skip
    rename_i hh
    cases hI
    simp only [Bool.and_eq_true, beq_iff_eq] at hh
    obtain ⟨⟨rfl, hg⟩, ht⟩ := hh
    have na := ns a List.mem_cons_self
    cases tg <;> first | (cases ht; done) | skip
    refine (pi_zip3 (ok.gl _ hg) (ok.blt _ (by simp)) (pa_sem X [a, b, c]) (noSet_star na _ _) (back_all fun z hz => ns z (List.mem_cons_of_mem _ hz))).run pins st σ H RR I ?_
    refine hA ρ S _ R h σ H α er s _ (fun ds S1 α1 H1 vs q hl l1 s1 rv => ?_) pr
    match ds, vs, q, rv with
    | [.ref m, .ref n, .ref k], _, q, .cons (.ref ra) (.cons (.ref rb) (.cons (.ref rc) .nil)) =>
      obtain ⟨xs, ys, zs, g, g2, g3, q⟩ := q
      obtain ⟨vs, hl, r⟩ := s1.getL g ra
      obtain ⟨ws, hl2, r2⟩ := s1.getL g2 rb
      obtain ⟨us, hl3, r3⟩ := s1.getL g3 rc
      exact ⟨_, _, _, vs, ws, us, rfl, hl, hl2, hl3, po _ _ _ _ _ _ q l1 s1 (jok_zip3 ra rb rc r.length r2.length r3.length)⟩
  | keys =>
    cases hI
    obtain ⟨a, rfl, ha⟩ := hE _ rfl
    simp only [wpA] at h
    refine (pi_keys (pe_lockV (pe_sem X iter))).run pins st σ H RR I ?_
    refine ha ρ S _ R h σ H α er s _ (fun d S1 α1 H1 v q l1 s1 rv => ?_) pr
    cases d <;> first | exact (show False from q).elim | skip
    cases rv with | ref ra =>
    obtain ⟨kvs, g, q⟩ := q
    obtain ⟨vs, hd, r⟩ := s1.obj _ _ _ g ra
    refine ⟨_, _, rfl, hd, trivial, fun od => ?_⟩
    obtain ⟨l2, s2⟩ := sim_lock (o := od) s1 g ra hd r
    exact ⟨_, od, rfl, .inl ⟨vs, upd_same, po _ _ _ _ _ _ q (l1.trans l2) s2 (jok_keys upd_same (r.mono l2))⟩⟩
  | vals =>
    simp only [iterArgs] at hI
    split at hI <;> first | (cases hI; done) | skip
    rename_i e0 x p q0
    split at hI <;> first | (cases hI; done) | skip
    rename_i hh
    cases hI
    simp only [Bool.and_eq_true, beq_iff_eq] at hh
    obtain ⟨⟨rfl, hb⟩, hline⟩ := hh
    obtain ⟨a, rfl, ha⟩ := hE _ rfl
    simp only [wpA] at h
    refine (pi_values (pe_lockV (pe_sem X e0)) (base_ok hb _ _ _) (by rw [hline]; exact beq_self_eq_true _)).run pins st σ H RR I ?_
    refine ha ρ S _ R h σ H α er s _ (fun d S1 α1 H1 v q l1 s1 rv => ?_) pr
    cases d <;> first | exact (show False from q).elim | skip
    cases rv with | ref ra =>
    obtain ⟨kvs, g, q⟩ := q
    obtain ⟨vs, hd, r⟩ := s1.obj _ _ _ g ra
    refine ⟨_, _, rfl, hd, trivial, fun od => ?_⟩
    obtain ⟨l2, s2⟩ := sim_lock (o := od) s1 g ra hd r
    exact ⟨_, od, vs, rfl, upd_same, po _ _ _ _ _ _ q (l1.trans l2) s2 (jok_vals upd_same (r.mono l2))⟩
/-! ### comprehensions -/
theorem lookup_rel {env : PySem.Env} : ∀ {names : List (Str × NameKind)} {x : Str} {k : NameKind}, names.lookup x = some k →
    (names.map fun (n, k) => if (k == NameKind.free && env.scope.kind == .function && env.kindOf n == some .cell) then (n, NameKind.cell) else (n, k)).lookup x = some k ∨
    (k = .free ∧ (names.map fun (n, k) => if (k == NameKind.free && env.scope.kind == .function && env.kindOf n == some .cell) then (n, NameKind.cell) else (n, k)).lookup x = some .cell)
  | [], _, _, h => by simp at h
  | (n, j) :: r, x, k, h => by
    have ih := @lookup_rel env r x k
    rw [List.map_cons]
    cases hx : x == n with
    | true =>
      simp only [List.lookup_cons, hx] at h
      cases h
      by_cases hc : (j == NameKind.free && env.scope.kind == .function && env.kindOf n == some .cell) = true
      · refine .inr ⟨?_, ?_⟩
        · simp only [Bool.and_eq_true, beq_iff_eq] at hc
          exact hc.1.1
        · simp only [if_pos hc, List.lookup_cons, hx]
      · refine .inl ?_
        simp only [if_neg hc, List.lookup_cons, hx]
    | false =>
      simp only [List.lookup_cons, hx] at h
      rcases ih h with ih | ⟨e, ih⟩
      · refine .inl ?_
        by_cases hc : (j == NameKind.free && env.scope.kind == .function && env.kindOf n == some .cell) = true
        · simp only [if_pos hc, List.lookup_cons, hx]; exact ih
        · simp only [if_neg hc, List.lookup_cons, hx]; exact ih
      · refine .inr ⟨e, ?_⟩
        by_cases hc : (j == NameKind.free && env.scope.kind == .function && env.kindOf n == some .cell) = true
        · simp only [if_pos hc, List.lookup_cons, hx]; exact ih
        · simp only [if_neg hc, List.lookup_cons, hx]; exact ih
abbrev W0 : WX := fun _ _ _ _ => False
theorem XOk.blk (ok : XOk X cs sc Γ W cv) (scope : Scope) (s : Shared) (H : Hp) (C : Addr) (cl : List (Str × Addr)) (fp : List Addr) : XOk (X.blk s H scope (compEnvC scope cl C X.env) fp) cs scope Γ W0 cv where
  hN := ok.hN
  nd := ok.nd
  vis := fun x h => by
    unfold visB at h
    split at h <;> first | (cases h; done) | skip
    all_goals (rename_i e; rcases lookup_rel (env := X.env) e with q | ⟨q1, q⟩)
    · exact .inl q
    · cases q1
    · exact .inr (.inl q)
    · cases q1
    · exact .inr (.inr q)
    · exact .inr (.inl q)
  loc := fun x h => by
    unfold locB at h
    split at h <;> first | (cases h; done) | skip
    all_goals (rename_i e; rcases lookup_rel (env := X.env) e with q | ⟨q1, q⟩)
    · exact ⟨.inl q, .inr q⟩
    · cases q1
    · exact ⟨.inr q, .inl (by show (scope.names.lookup x == some .cell) = true; rw [e]; rfl)⟩
    · cases q1
  fre := fun x h => by
    rcases h with e | e
    · rcases lookup_rel (env := X.env) e with q | ⟨q1, q⟩
      · exact .inl q
      · cases q1
    · rcases lookup_rel (env := X.env) e with q | ⟨q1, q⟩
      · exact .inr q
      · exact .inl q
  gl := fun x h => by
    unfold glB at h
    split at h <;> first | (cases h; done) | skip
    rename_i e
    rcases lookup_rel (env := X.env) e with q | ⟨q1, q⟩
    · exact q
    · cases q1
  calm := ok.calm
  units := ok.units
  fn := ok.fn
  lng := ok.lng
  glo := ok.glo
  blt := ok.blt
  tk := fun _ _ x => by
    obtain ⟨_, _, _, _, _, _, _, _, _, _, _, _, _, _, _, _, z⟩ := x
    exact z.elim
  exc := ok.exc
  hot := ok.hot
  fmt := ok.fmt
  cls := ok.cls
  mts := ok.mts
theorem blkOk_of {scope : Scope} {own : List (Str × Nat)} (ok : XOk X cs sc Γ W cv) (h : blkC cs.N sc scope own = true) : BlkOk X.N X.env.scope scope own := by
  have b := blkOk_by h
  refine ⟨b.kind, b.uniq, fun p hp => by rw [ok.hN]; exact b.ix p hp, fun y hy e => ok.fre y.1 (b.free y hy e), fun y hy e => by rw [ok.hN]; exact b.own y hy e⟩
theorem er_wipe {K : PySem.W.Frag} {α : List Addr} {H : Hp} {ρ : Env} {σ : L2.St} (e : ER K α H ρ σ) : ∀ own : List Nat, ER K α H (wipeP ρ own) (wipe σ own)
  | [] => e
  | i :: r => by
    have ih := er_wipe e r
    refine ⟨by show ((wipeP ρ r).set i none).length = ((wipe σ r).set i none).length; simp [ih.len], fun j x h => ?_⟩
    have h' := getv_eq h
    have h'' : ((wipeP ρ r).set i none)[j]? = some (some x) := h'
    by_cases hj : j = i
    · subst hj
      by_cases hl : j < (wipeP ρ r).length
      · rw [List.getElem?_set_self hl] at h''; cases h''
      · rw [List.set_eq_of_length_le (by omega), List.getElem?_eq_none (by omega)] at h''; cases h''
    · rw [List.getElem?_set_ne (Ne.symm hj)] at h''
      obtain ⟨w, h1, h2⟩ := ih.at_ j x (getv_of h'')
      exact ⟨w, by show ((wipe σ r).set i none)[j]? = _; rw [List.getElem?_set_ne (Ne.symm hj)]; exact h1, h2⟩
/-- readings within the block, for every block -/
def tEb (X : Cx) (scope : Scope) (e : Expr) : TE := fun σ H Q => ∀ (s : Shared) (H0 : Hp) (C : Addr) (cl : List (Str × Addr)) (fp : List Addr), tE (X.blk s H0 scope (compEnvC scope cl C X.env) fp) e σ H Q
def tTb (X : Cx) (scope : Scope) (ifs : List Expr) : TT := fun σ H Q => match ifs with
  | [] => Q true H
  | [c] => ∀ (s : Shared) (H0 : Hp) (C : Addr) (cl : List (Str × Addr)) (fp : List Addr), tT (X.blk s H0 scope (compEnvC scope cl C X.env) fp) c σ H Q
  | _ => False
theorem pts_b (scope : Scope) (ifs : List Expr) (hi : ifs.length ≤ 1) (s : Shared) (H0 : Hp) (C : Addr) (cl : List (Str × Addr)) (fp : List Addr) : PTs (X.blk s H0 scope (compEnvC scope cl C X.env) fp) ifs (tTb X scope ifs) := by
  match ifs, hi with
  | [], _ => exact pts_nil
  | [c], _ => exact pts_one ⟨fun pins st σ H Q I h => h s H0 C cl fp pins st I⟩
def SOb (X : Cx) (Γ : Sig) (cv : Nat → Value) (scope : Scope) (c : IE) (ifs : List Expr) : Prop := match ifs with
  | [] => isNil c = true
  | [x] => isNil c = false ∧ ∀ (s : Shared) (H : Hp) (C : Addr) (cl : List (Str × Addr)) (fp : List Addr), STt (X.blk s H scope (compEnvC scope cl C X.env) fp) W0 cv x (wpE Γ c)
  | _ => False
theorem own_snd {N : List Str} (own : List Nat) : (ownOf N own).map (·.2) = own := by
  unfold ownOf
  rw [List.map_map]
  exact List.map_id'' (fun _ => rfl) own
structure CompOk (X : Cx) (W : WX) (cv : Nat → Value) (cs : CS) (Γ : Sig) (t : Tg) (k : ItK) (its c e : IE) (own : List Nat) (elt tg iter : Expr) (ifs : List Expr) (scope : Scope) : Prop where
  hb : blkC cs.N sc scope (ownOf cs.N own) = true ∧ XOk X cs sc Γ W cv
  hns : noSet iter = true
  hT : chkT cs.N scope t tg = true
  hown : ∀ i ∈ tgIx t, i ∈ own
  hI : SI X W cv Γ k its tg iter
  hC : SOb X Γ cv scope c ifs
  hEl : ∀ (s : Shared) (H : Hp) (C : Addr) (cl : List (Str × Addr)) (fp : List Addr), SE (X.blk s H scope (compEnvC scope cl C X.env) fp) W0 cv elt (wpE Γ e)
theorem lc_read {t : Tg} {k : ItK} {its c e : IE} {own : List Nat} {elt tg iter : Expr} {ifs : List Expr} {scope : Scope} (co : CompOk (sc := sc) X W cv cs Γ t k its c e own elt tg iter ifs scope)
    {ρ : PyI.Env} {S : Store} {Q : PQ} {R : PR} (h : wpE Γ (.comp t k its own c e) ρ S Q R) {σ : L2.St} {H : Hp} {α : List Addr} (er : ER X.K α H ρ σ) (s : Sim X.K S α H) {Q' : VK} (po : Post X.K α H Q Q') (pr : PostR X.K α H R cv (fun c H' => W c none σ H')) :
    tLc (tI X tg iter) (gOf X.K t) (tTb X scope ifs) (tEb X scope elt) own σ H Q' := by
  obtain ⟨⟨hb, ok⟩, hns, hT, hown, hI, hC, hEl⟩ := co
  rw [wpE] at h
  refine hI ρ S _ R h σ H α er s _ (fun items keep S1 α1 H1 J q l1 s1 jok D hD => ?_) pr
  obtain ⟨Iv, i0, ik, istep, iend⟩ := q
  have s2 : Sim X.K (S1 ++ [.lst []]) (α1 ++ [D]) (upd H1 D (.lst [])) := s1.alloc hD ⟨[], upd_same, .nil⟩
  have hDn : (α1 ++ [D])[S1.length]? = some D := by rw [← s1.len]; exact get_app
  refine ⟨fun i m H' => ∃ acc S' α', Iv i acc S' ∧ Le X.K (α1 ++ [D]) (upd H1 D (.lst [])) α' H' ∧ Sim X.K S' α' H' ∧ i + m = items.length, ⟨items.length, [], _, _, i0, Le.refl, s2, by omega⟩, fun i m H' w => ?_⟩
  obtain ⟨acc, S', α', hIv, l', s', em⟩ := w
  have lj : Le X.K α1 H1 α' H' := (le_new hD).trans l'
  obtain ⟨kacc, kkeep⟩ := ik _ _ _ hIv
  have hj := jok α' S' H' lj s' kkeep i
  have hD' : α'[S1.length]? = some D := l'.al _ _ hDn
  by_cases hi : i < items.length
  · have hx : items[i]? = some items[i] := List.getElem?_eq_getElem hi
    obtain ⟨go, yl⟩ := hj.1 _ hx
    refine .inr ⟨go, fun H2 => ∃ acc S' α', Iv (i + 1) acc S' ∧ Le X.K (α1 ++ [D]) (upd H1 D (.lst [])) α' H2 ∧ Sim X.K S' α' H2, fun H2 w2 => ?_, fun v H2 hy => ?_⟩
    · obtain ⟨a2, S2, α2, w1, w2, w3⟩ := w2
      exact ⟨m - 1, by omega, a2, S2, α2, w1, w2, w3, by omega⟩
    obtain ⟨l2, s2', rv⟩ := yl v H2 hy
    obtain ⟨ρ2, hset, hcond⟩ := istep i _ acc S' hx hIv
    have erw : ER X.K α' H2 (wipeP ρ own) (wipe σ own) := er_wipe (er.mono ((l1.trans lj).trans l2)) own
    refine g_of hset rv erw fun σ2 er2 st2 => ⟨?_, ?_⟩
    · rw [st2 own hown, wipe_wipe own fun i hi => hi]
    have body : ∀ (b : Bool) (S3 : Store) (α3 : List Addr) (H3 : Hp), (if b = true then
              wpE Γ e ρ2 S3 (fun v S4 => S4[S1.length]? = some (.lst acc) ∧ acc.length < big ∧ Iv (i + 1) (acc ++ [v]) (S4.set S1.length (.lst (acc ++ [v])))) (fun _ _ => False)
            else Iv (i + 1) acc S3) → Le X.K α' H2 α3 H3 → Sim X.K S3 α3 H3 →
        if b = true then tEb X scope elt σ2 H3 fun y H4 => ∃ acc, H4 D = some (.lst acc) ∧ acc.length < sizeLine ∧ (fun H2 => ∃ acc S' α', Iv (i + 1) acc S' ∧ Le X.K (α1 ++ [D]) (upd H1 D (.lst [])) α' H2 ∧ Sim X.K S' α' H2) (upd H4 D (.lst (acc ++ [y])))
        else (fun H2 => ∃ acc S' α', Iv (i + 1) acc S' ∧ Le X.K (α1 ++ [D]) (upd H1 D (.lst [])) α' H2 ∧ Sim X.K S' α' H2) H3 := by
      intro b S3 α3 H3 hb3 l3 s3
      cases b with
      | true =>
        rw [if_pos rfl] at hb3 ⊢
        intro sB HB CB clB fpB
        refine hEl sB HB CB clB fpB ρ2 S3 _ _ hb3 σ2 H3 α3 (er2.mono l3) s3 _ (fun d S4 α4 H4 y q4 l4 s4 ry => ?_) (fun c S' a h r => False.elim r)
        obtain ⟨g4, hz, hi4⟩ := q4
        have hD4 : α4[S1.length]? = some D := l4.al _ _ (l3.al _ _ hD')
        obtain ⟨vs, hl, rvs⟩ := s4.lst g4 hD4
        have mu : H4 D = none ∨ Mut (H4 D) := .inr (by rw [hl]; trivial)
        refine ⟨vs, hl, by rw [← rvs.length, big_eq]; exact hz, acc ++ [d], _, α4, hi4, (((l'.trans l2).trans l3).trans l4).trans (le_upd mu), ?_⟩
        exact s4.write g4 hD4 rfl ⟨_, upd_same, (rvs.append (.cons ry .nil)).mono (le_upd mu)⟩
      | false =>
        rw [if_neg (by decide)] at hb3 ⊢
        exact ⟨acc, S3, α3, hb3, (l'.trans l2).trans l3, s3⟩
    match ifs, hC with
    | [], hC =>
      have hC' : isNil c = true := hC
      simp only [hC', if_true] at hcond
      exact body true S' α' H2 hcond Le.refl s2'
    | [x], hC =>
      obtain ⟨hC1, hC2⟩ := hC
      simp only [hC1] at hcond
      rw [if_neg (by decide)] at hcond
      intro sB HB CB clB fpB
      exact hC2 sB HB CB clB fpB ρ2 S' _ _ hcond σ2 H2 α' er2 s2' _ (fun b S3 α3 H3 q3 l3 s3 => body b S3 α3 H3 q3 l3 s3) (fun c S' a h r => False.elim r)
  · refine .inl ⟨hj.2 (by omega), ?_⟩
    have ei : i = items.length := by omega
    rw [ei] at hIv
    exact po _ _ α' _ _ (iend acc S' hIv) (l1.trans lj) s' (.ref hD')
theorem CompOk.few {t : Tg} {k : ItK} {its c e : IE} {own : List Nat} {elt tg iter : Expr} {ifs : List Expr} {scope : Scope} (co : CompOk (sc := sc) X W cv cs Γ t k its c e own elt tg iter ifs scope) : ifs.length ≤ 1 := by
  have hC := co.hC
  match ifs, hC with
  | [], _ => simp
  | [_], _ => simp
theorem se_comp {t : Tg} {k : ItK} {its c e : IE} {own : List Nat} {elt tg iter : Expr} {ifs : List Expr} {scope : Scope} {pos : Pos} (co : CompOk (sc := sc) X W cv cs Γ t k its c e own elt tg iter ifs scope) :
    SE X W cv (.ListComp elt [⟨tg, iter, ifs, 0⟩] scope pos) (wpE Γ (.comp t k its own c e)) := by
  intro ρ S Q R h σ H α er s Q' po pr pins st I
  obtain ⟨hb, ok⟩ := co.hb
  have hns := co.hns
  refine (pe_lc ok.calm ok.nd (pi_sem X tg iter) (blkOk_of ok hb) (fun s H C cl fp => pg_of (ok.blk scope s H C cl fp) co.hT) (fun s H C cl fp => pts_b scope ifs co.few s H C cl fp)
    (g := gOf X.K t) (te := tEb X scope elt) (fun s H C cl fp => ⟨fun pins st σ H' Q I h => h s H C cl fp pins st I⟩) (fun x => by cases iter <;> first | rfl | cases hns)).run pins st σ H Q' I ?_
  rw [own_snd]
  exact lc_read co h er s po pr
/-- y = [..], the stores exchanged -/
theorem ss_setLc {t : Tg} {k : ItK} {its c e : IE} {own : List Nat} {elt tg iter : Expr} {ifs : List Expr} {scope : Scope} {pos spos py : Pos} {i : Nat} {y : Str} (co : CompOk (sc := sc) X W cv cs Γ t k its c e own elt tg iter ifs scope)
    (hy : cs.N[i]? = some y) (hyl : X.env.scope.names.lookup y = some .local) (hsw : swapsWith (.ListComp elt [⟨tg, iter, ifs, 0⟩] scope pos) (some (.Name y py)) spos.line X.env = pure true)
    {ρ : PyI.Env} {S : Store} {Q : PQ} {R : PR} (h : wpE Γ (.comp t k its own c e) ρ S Q R) {σ : L2.St} {H : Hp} {α : List Addr} (er : ER X.K α H ρ σ) (s : Sim X.K S α H) {D' : Ends} (po : Post X.K α H Q (fun v H1 => D'.nx (σ.set i (some v)) H1)) (pr : PostR X.K α H R cv (fun c H' => W c none σ H'))
    (pins : List (Addr × Obj)) (st : Shared) (I : Inv X pins σ H st) : wpAny (model X.prog X.w) X.A (exec (.Assign [.Name y py] (.ListComp elt [⟨tg, iter, ifs, 0⟩] scope pos) spos) X.env) (SP X pins D') X.xe st := by
  obtain ⟨hb, ok⟩ := co.hb
  have hns := co.hns
  refine (ps_setLc (i := i) ok.calm ok.nd (by rw [ok.hN]; exact hy) hyl hsw (pi_sem X tg iter) (blkOk_of ok hb) (fun s H C cl fp => pg_of (ok.blk scope s H C cl fp) co.hT) (fun s H C cl fp => pts_b scope ifs co.few s H C cl fp)
    (g := gOf X.K t) (te := tEb X scope elt) (fun s H C cl fp => ⟨fun pins st σ H' Q I h => h s H C cl fp pins st I⟩) (fun x => by cases iter <;> first | rfl | cases hns)).run pins st σ H D' I ?_
  rw [own_snd]
  exact lc_read co h er s (Q' := fun v H1 => D'.nx (σ.set i (some v)) H1) po pr
end PyI
set_option autoImplicit false
set_option linter.all false
set_option Elab.async false
set_option maxRecDepth 100000
set_option maxHeartbeats 4000000
namespace PyI
open PySem PySem.Spec PyProof.Rows L2
/-! ### the class: instances made, methods called, attributes read -/
section
variable {X : Cx} {CX : CXT} {k : Nat} {f C : Addr} {fd : FuncData} {ps : List Str} {sp : Sp} {E : L2.St → XK} {x m : Str} {p pos apos : Pos} {e o : Expr} {es : List Expr} {ta : TE} {t : TA}
theorem run_makeS {σ : L2.St} {pins : List (Addr × Obj)} {H : Hp} {s : Shared} {Q : VK} {us : List Value} {vs : List V} (M : Mk X.K C f) (F : FnOk X.prog X.w X.K X.mg X.base CX k f fd ps sp) (hr : Room (k + 1) X.A) (hb : Binds X.K fd ps [])
    (hx : PassesAt CX X σ (E σ)) (I : Inv X pins σ H s) (r : Vals vs us)
    (h : ∀ x dx, H x = none → H dx = none → dx ≠ x → sp (.ref x :: vs) (upd (upd H dx (.own x)) x (.ins C dx [])) (fun v H2 => v = .non ∧ Q (.ref x) H2) (E σ)) :
    wpAny (model X.prog X.w) X.A (call (.ref C) us) (EP X pins σ Q) X.xe s := by
  have hq := h (s.heap.objs.size + 1) s.heap.objs.size (I.hok.fresh (Nat.le_succ _)) (I.hok.fresh (Nat.le_refl _)) (Nat.ne_of_lt (Nat.lt_succ_self _))
  have I2 := Inv.made (C := C) I
  have r2 : Vals (V.ref (s.heap.objs.size + 1) :: vs) (Value.ref (s.heap.objs.size + 1) :: us) := .cons rfl r
  have hl : (Value.ref (s.heap.objs.size + 1) :: us).length = ps.length := by
    have e := r2.length
    rw [F.len _ _ _ _ hq] at e
    exact e.symm
  have b := hb _ (Value.ref (s.heap.objs.size + 1) :: us) I2.kIn (by rw [List.append_nil]; exact hl)
  rw [List.append_nil] at b
  refine wpAny_call (make_map (f := f) I.kIn M.makes M.init (beq_iff_eq.mp M.fn) (codeAny_mono (F.run _ X.stack _ _ ⟨Value.ref (s.heap.objs.size + 1) :: us, []⟩ (Value.ref (s.heap.objs.size + 1) :: us) _ _ (E σ) (hr.make C us [])
    (I2.env0.make C us []) b r2 hq) fun r s' hq' => ?_))
  cases r with
  | error e => exact hx pins _ _ e s' I2 hq'
  | ok fl =>
    cases fl with
    | ret u =>
      obtain ⟨v, H', I3, rv, ev, q3⟩ := I2.after hq'
      subst ev
      exact ⟨rv, ⟨V.ref (s.heap.objs.size + 1), H', I3, rfl, q3⟩⟩
    | next => exact False.elim hq'
    | brk => exact False.elim hq'
    | cont => exact False.elim hq'
def tMakeE (C : Addr) (sp : Sp) (E : L2.St → XK) (t : TA) : TE := fun σ H Q => t σ H fun vs H1 => ∀ x dx, H1 x = none → H1 dx = none → dx ≠ x → sp (.ref x :: vs) (upd (upd H1 dx (.own x)) x (.ins C dx [])) (fun v H2 => v = .non ∧ Q (.ref x) H2) (E σ)
theorem pe_makeE (M : Mk X.K C f) (F : FnOk X.prog X.w X.K X.mg X.base CX k f fd ps sp) (hr : Room (k + 1) X.A) (hg : Gl X x) (hm : X.mg x = some (.ref C)) (hb : Binds X.K fd ps []) (hx : ∀ σ, PassesAt CX X σ (E σ))
    (ha : PA X (e :: es) t) (hdb : (x == ("__debug__" : Str)) = false) (he : starEach (e :: es) X.env = (false, eval e X.env) :: starEach es X.env) (hpl : (backTo pos (starEach es X.env)).any (·.1) = false) :
    PE X (.Call (.Name x p) (e :: es) [] pos) (tMakeE C sp E t) := by
  refine ⟨fun pins s σ H Q I h => ?_⟩
  refine wpAny_Call_Name_kw (ld_glob I hg hm ?_ hdb)
  refine PySem.W.callWith_K (h₀ := X.base) I.ok.mod.kin M.kp (thn (ha.run pos pins s σ H _ I h) fun us s1 ⟨vs, H1, I1, r, q⟩ => ⟨I1.kIn, ?_⟩) he hpl
  exact run_makeS M F hr hb (hx σ) I1 r q
def tMethE (C : Addr) (m : Str) (sp : Sp) (E : L2.St → XK) (ta : TE) (t : TA) : TE := fun σ H Q => ta σ H fun x H1 => ∃ a dx fs, x = .ref a ∧ H1 a = some (.ins C dx fs) ∧ fs.lookup m = none ∧ t σ H1 fun vs H2 => sp (x :: vs) H2 Q (E σ)
theorem call_ht {env : PySem.Env} (pb : plainBase o = true) (hl : (apos.endLine == pos.line) = true) (few : es.length ≤ 5) (ns : ∀ y ∈ es, noSet y = true) : ∃ pl : Sem Bool, eval (.Call (.Attribute o m apos) es [] pos) env = (do
      let ov ← eval o env
      standAt apos.atName
      let (f, first) ← holding [ov] (getMethod ov m pl)
      callWith pos f first (backTo pos (starEach es env)) (backToKw pos (keywordEach [] env))) := by
  refine ⟨(do return (← importBound o env).getD true), ?_⟩
  have hf : methodCallForm (es.length + ([] : List Keyword).length) (backTo pos (starEach es env)) (backToKw pos (keywordEach [] env)) = true := by
    unfold methodCallForm
    rw [star_all ns]
    unfold backTo
    rw [List.map_map, List.all_map]
    simp only [Bool.and_eq_true, decide_eq_true_eq, List.all_eq_true]
    refine ⟨⟨fun x _ => rfl, fun x hx => ?_⟩, ?_⟩
    · simp [backToKw, keywordEach] at hx
    · simp [backToKw, keywordEach]; omega
  rw [arm_eval_Call, base_ok pb]
  unfold methodCall calleeOf methodCallPos
  simp only [hf, hl, if_true, Bool.not_true, Bool.or_true, pure_bind]
theorem pe_mtE (he : PE X o ta) (c : Cls X.K C) (hm : Meth X.K C m f) (F : FnOk X.prog X.w X.K X.mg X.base CX k f fd ps sp) (hr : Room k X.A) (hb : Binds X.K fd ps []) (hx : ∀ σ, PassesAt CX X σ (E σ)) (ha : PA X (e :: es) t)
    (ns : ∀ y ∈ e :: es, noSet y = true) (few : (e :: es).length ≤ 5) (pb : plainBase o = true) (hl : (apos.endLine == pos.line) = true) :
    PE X (.Call (.Attribute o m apos) (e :: es) [] pos) (tMethE C m sp E ta t) := by
  obtain ⟨pl, ht⟩ := call_ht (env := X.env) (m := m) (apos := apos) (pos := pos) pb hl few ns
  refine ⟨fun pins s σ H Q I h => ?_⟩
  refine PySem.W.methodCall_KW (pl := pl) (thn (he.run pins s σ H _ I h) fun u s1 ⟨x, H1, I1, rx, a, dx, fs, ex, ea, l, q⟩ => ?_) ht
  subst ex
  obtain rfl : u = Value.ref a := rx
  refine getmeth_ok I1 ea c hm l ?_
  refine PySem.W.callWith_K (first := [.ref a]) (h₀ := X.base) I.ok.mod.kin hm.kp (thn (ha.run pos pins s1 σ H1 _ I1 q) fun us s2 ⟨vs, H2, I2, r, q2⟩ => ⟨I2.kIn, ?_⟩) (noSet_star (ns e List.mem_cons_self) _ _) (back_all fun y hy => ns y (List.mem_cons_of_mem _ hy))
  exact run_fnS (us := .ref a :: us) (vs := .ref a :: vs) F hr hb (hx σ) I2 (.cons rfl r) q2
def tMethE0 (C : Addr) (m : Str) (sp : Sp) (E : L2.St → XK) (ta : TE) : TE := fun σ H Q => ta σ H fun x H1 => ∃ a dx fs, x = .ref a ∧ H1 a = some (.ins C dx fs) ∧ fs.lookup m = none ∧ sp [x] H1 Q (E σ)
theorem pe_mtE0 (he : PE X o ta) (c : Cls X.K C) (hm : Meth X.K C m f) (F : FnOk X.prog X.w X.K X.mg X.base CX k f fd ps sp) (hr : Room k X.A) (hb : Binds X.K fd ps []) (hx : ∀ σ, PassesAt CX X σ (E σ)) (pb : plainBase o = true) (hl : (apos.endLine == pos.line) = true) :
    PE X (.Call (.Attribute o m apos) [] [] pos) (tMethE0 C m sp E ta) := by
  obtain ⟨pl, ht⟩ := call_ht (env := X.env) (m := m) (apos := apos) (pos := pos) (es := []) pb hl (by decide) (by simp)
  refine ⟨fun pins s σ H Q I h => ?_⟩
  refine PySem.W.methodCall_KW (pl := pl) (thn (he.run pins s σ H _ I h) fun u s1 ⟨x, H1, I1, rx, a, dx, fs, ex, ea, l, q⟩ => ?_) ht
  subst ex
  obtain rfl : u = Value.ref a := rx
  refine getmeth_ok I1 ea c hm l ?_
  exact PySem.W.callWith_K0 (first := [.ref a]) I1.kIn hm.kp (run_fnS (us := [.ref a]) (vs := [.ref a]) F hr hb (hx σ) I1 (.cons rfl .nil) q)
end
section
variable {cs : CS} {Γ : Sig} {cv : Nat → Value} {X : Cx} {W : WX} {sc : Scope}
theorem se_newc {a : IE} {f : Nat} {x : Str} {e : Expr} {es : List Expr} {p p2 : Pos} (ok : XOk X cs sc Γ W cv) (h1 : cs.mts.lookup ("__init__" : Str) = some (f, es.length + 2)) (hx : x = ("Reader" : Str)) (h2 : glB sc x = true) (h3 : nameOk x = true) (ns : ∀ y ∈ e :: es, noSet y = true) (ha : SA X W cv (e :: es) (wpA Γ a)) :
    SE X W cv (.Call (.Name x p2) (e :: es) [] p) (wpE Γ (.newc f a)) := by
  intro ρ S Q R h σ H α er s Q' po pr pins st I
  rw [wpE] at h
  obtain ⟨C, ad, fd, ps, k, hc, hm, F, hr, hb, mk⟩ := ok.mts _ _ _ h1
  subst hx
  refine (pe_makeE (mk rfl) F hr (ok.gl _ h2) hc.g hb (fun σ => L2N.passAt ok.tk σ) (pa_sem X (e :: es)) (nm1 h3).1 (noSet_star (ns e List.mem_cons_self) _ _) (back_all fun y hy => ns y (List.mem_cons_of_mem _ hy))).run pins st σ H Q' I ?_
  refine ha ρ S _ R h σ H α er s _ (fun ds S1 α1 H1 vs q hl l1 s1 rv => ?_) pr
  intro x dx hx hdx hne
  have sA := s1.aside (o := .own x) hdx
  have hx' : upd H1 dx (.own x) x = none := by rw [upd_ne (fun z => hne z.symm)]; exact hx
  have lA : Le X.K α1 H1 (α1 ++ [x]) (upd (upd H1 dx (.own x)) x (.ins C dx [])) := (le_upd (.inl hdx)).trans (le_new hx')
  have sB := sA.alloc (o := .ins C dx []) (x := .ins 0 []) hx' ⟨C, dx, [], upd_same, hc.nm, .nil⟩
  have hg : (α1 ++ [x])[S1.length]? = some x := by rw [← s1.len]; exact get_app
  refine ⟨α1 ++ [x], S1 ++ [.ins 0 []], .ref S1.length :: ds, fun v S2 => v = .non ∧ Q (.ref S1.length) S2, R, by rw [List.length_cons, hl]; rfl, sB, .cons (.ref hg) (rv.mono lA), q, ?_, pr.le (l1.trans lA)⟩
  intro d S' α' H' v q2 l s' r
  obtain ⟨rfl, q2⟩ := q2
  cases r
  exact ⟨rfl, po _ S' α' H' (.ref x) q2 ((l1.trans lA).trans l) s' (.ref (l.al _ _ hg))⟩
theorem se_mcl {o a : IE} {f : Nat} {nm : Str} {v : Expr} {es : List Expr} {p apos : Pos} (ok : XOk X cs sc Γ W cv) (h1 : cs.mts.lookup nm = some (f, es.length + 1)) (n0 : nm ≠ fldS 0) (n1 : nm ≠ fldS 1) (pb : plainBase v = true) (hl : (apos.endLine == p.line) = true) (few : es.length ≤ 5)
    (ns : ∀ y ∈ es, noSet y = true) (ho : SE X W cv v (wpE Γ o)) (ha : SA X W cv es (wpA Γ a)) (ha0 : es = [] → a = .nil) : SE X W cv (.Call (.Attribute v nm apos) es [] p) (wpE Γ (.mcl f o a)) := by
  intro ρ S Q R h σ H α er s Q' po pr pins st I
  rw [wpE] at h
  obtain ⟨C, ad, fd, ps, k, hc, hm, F, hr, hb, mk⟩ := ok.mts _ _ _ h1
  have hr : Room k X.A := hr.mono (Nat.le_succ k)
  cases es with
  | nil =>
    rw [ha0 rfl] at h
    refine (pe_mtE0 (pe_sem X v) hc.cl hm F hr hb (fun σ => L2N.passAt ok.tk σ) pb hl).run pins st σ H Q' I ?_
    refine ho ρ S _ R h σ H α er s _ (fun d S1 α1 H1 u q l1 s1 rv => ?_) pr
    obtain ⟨⟨n, fs, rfl, g⟩, q⟩ := q
    rw [wpA] at q
    cases rv with | ref ra =>
    obtain ⟨C', dx, gs, hH, hC, fr⟩ := s1.obj n _ _ g ra
    have e : C' = C := by have := hC.symm.trans hc.nm; simpa using this
    subst e
    exact ⟨_, dx, gs, rfl, hH, fr.no n0 n1, α1, S1, [.ref n], Q, R, rfl, s1, .cons (.ref ra) .nil, q, po.le l1, pr.le l1⟩
  | cons e es =>
    refine (pe_mtE (pe_sem X v) hc.cl hm F hr hb (fun σ => L2N.passAt ok.tk σ) (pa_sem X (e :: es)) ns few pb hl).run pins st σ H Q' I ?_
    refine ho ρ S _ R h σ H α er s _ (fun d S1 α1 H1 u q l1 s1 rv => ?_) pr
    obtain ⟨⟨n, fs, rfl, g⟩, q⟩ := q
    cases rv with | ref ra =>
    obtain ⟨C', dx, gs, hH, hC, fr⟩ := s1.obj n _ _ g ra
    have e : C' = C := by have := hC.symm.trans hc.nm; simpa using this
    subst e
    refine ⟨_, dx, gs, rfl, hH, fr.no n0 n1, ?_⟩
    refine ha ρ S1 _ R q σ H1 α1 (er.mono l1) s1 _ (fun ds S2 α2 H2 vs q2 hl2 l2 s2 rvs => ?_) (pr.le l1)
    exact ⟨α2, S2, .ref n :: ds, Q, R, by rw [List.length_cons, hl2], s2, .cons (.ref (l2.al _ _ ra)) rvs, q2, po.le (l1.trans l2), pr.le (l1.trans l2)⟩
theorem se_fld {o : IE} {f : Nat} {nm : Str} {e : Expr} {p : Pos} (ok : XOk X cs sc Γ W cv) (hf : f < 2) (hn : nm = fldS f) (pb : plainBase e = true) (h1 : cs.gls.lookup ("Reader" : Str) = some 98) (ho : SE X W cv e (wpE Γ o)) : SE X W cv (.Attribute e nm p) (wpE Γ (.fld o f)) := by
  intro ρ S Q R h σ H α er s Q' po pr pins st I
  rw [wpE] at h
  obtain ⟨C, hc⟩ := ok.cls h1
  refine (pe_fld (pe_sem X e) (base_ok pb _ _ _)).run pins st σ H Q' I ?_
  refine ho ρ S _ R h σ H α er s _ (fun d S1 α1 H1 u q l1 s1 rv => ?_) pr
  obtain ⟨n, fs, v, rfl, g, hl, q⟩ := q
  cases rv with | ref ra =>
  obtain ⟨C', dx, gs, hH, hC, fr⟩ := s1.obj n _ _ g ra
  have e : C' = C := by have := hC.symm.trans hc.nm; simpa using this
  subst e
  obtain ⟨w, h2, h3⟩ := fr.get hf hl
  have na : NoAttr X.K C' nm := by
    subst hn
    match f, hf with
    | 0, _ => exact hc.n0
    | 1, _ => exact hc.n1
  exact ⟨_, _, dx, gs, w, rfl, hH, hc.cl, na, by rw [hn]; exact h2, po _ _ _ _ _ q l1 s1 h3⟩
end
section
variable {X : Cx} {CX : CXT} {k : Nat} {f C : Addr} {fd : FuncData} {ps : List Str} {sp : Sp}
def rLenC (C : Addr) (sp : Sp) : List V → Hp → VK → Prop := fun xs H Q => ∃ a dx fs, xs = [.ref a] ∧ H a = some (.ins C dx fs) ∧ sp [.ref a] H (fun v H2 => ∃ n : Nat, v = .int (n : Nat) ∧ n < 2 ^ 60 ∧ Q v H2) (fun _ _ _ => False)
theorem call_lenC (hm : Meth X.K C "__len__" f) (F : FnOk X.prog X.w X.K X.mg X.base (L2N.CX X.prog X.w) k f fd ps sp) (hr : Room (k + 1) X.A) (hb : Binds X.K fd ps []) : CallR X (.builtin "len") (rLenC C sp) := by
  intro pins s σ H xs us Q I r h
  obtain ⟨a, dx, fs, rfl, hH, hsp⟩ := h
  cases r with | cons ru rn =>
  cases rn
  rename_i u
  obtain rfl : u = Value.ref a := ru
  obtain ⟨mA, O, _, _, _, _⟩ := ins_get I.hok hH
  obtain ⟨od, J, _⟩ := O.look
  refine Calls.call_function_entry kind_len plain_len entry_len (args_len1 _) ?_
  unfold Builtin.«len»
  refine wpAny_bind (m := oneArg "len" _) (wpAny_pure ?_)
  refine wpAny_bind (m := callSpecial? (.ref a) (Str.ofString "__len__")) (PySem.W.special_fn I.kIn J hm.at_ (beq_iff_eq.mp hm.fn) ?_)
  have hl : ([Value.ref a] : List Value).length = ps.length := by have := F.len _ _ _ _ hsp; simpa using this
  have b := hb s [Value.ref a] I.kIn (by rw [List.append_nil]; exact hl)
  rw [List.append_nil] at b
  refine wpAny_call (codeAny_mono (F.run X.A.in1 X.stack s H ⟨[.ref a], []⟩ [.ref a] [.ref a] _ _ hr.in1 I.env0.in1 b (.cons rfl .nil) hsp) fun r s' hq => ?_)
  cases r with
  | error e =>
    obtain ⟨_, _, _, _, _, _, _, _, _, _, _, _, z⟩ := hq
    exact z.elim
  | ok fl =>
    cases fl with
    | ret u =>
      obtain ⟨v, H', I3, rv, n, rfl, hn, q⟩ := I.after hq
      obtain ⟨t, rfl⟩ := rv
      refine wpAny_bind (wpAny_holding (wpAny_pure ?_))
      refine wpAny_bind (wpAny_letGo ?_)
      show wpAny _ _ (if (n : Int) < 0 then _ else _) _ _ _
      rw [if_neg (by omega)]
      show wpAny _ _ (if (n : Int) ≥ 2 ^ 63 then _ else _) _ _ _
      rw [if_neg (by omega)]
      exact wpAny_bind (wpAny_mkInt (wpAny_pure ⟨_, rfl, ⟨.int n, H', I3.tok _, ⟨_, rfl⟩, q⟩⟩))
    | next => exact False.elim hq
    | brk => exact False.elim hq
    | cont => exact False.elim hq
end
section
variable {cs : CS} {Γ : Sig} {cv : Nat → Value} {X : Cx} {W : WX} {sc : Scope}
theorem se_lenc {o : IE} {f : Nat} {x : Str} {e : Expr} {p p2 : Pos} (ok : XOk X cs sc Γ W cv) (h1 : cs.mts.lookup ("__len__" : Str) = some (f, 1)) (hx : x = ("len" : Str)) (h2 : glB sc x = true) (h3 : nameOk x = true) (ns : noSet e = true) (ho : SE X W cv e (wpE Γ o)) :
    SE X W cv (.Call (.Name x p2) [e] [] p) (wpE Γ (.lenc f o)) := by
  intro ρ S Q R h σ H α er s Q' po pr pins st I
  rw [wpE] at h
  subst hx
  obtain ⟨C, ad, fd, ps, k, hc, hm, F, hr, hb, mk⟩ := ok.mts _ _ _ h1
  refine (pe_callB (call_lenC hm F hr hb) (ok.gl _ h2) (ok.blt _ (by simp)) (by decide +kernel) (pa_cons (pe_sem X e) pa_nil (noSet_star ns _ _)) (nm1 h3).2.2 (nm1 h3).1 (noSet_star ns _ _) (back_all (by simp))).run pins st σ H Q' I ?_
  refine ho ρ S _ R h σ H α er s _ (fun d S1 α1 H1 u q l1 s1 rv => ?_) pr
  obtain ⟨⟨n, fs, rfl, g⟩, q⟩ := q
  cases rv with | ref ra =>
  obtain ⟨C', dx, gs, hH, hC, fr⟩ := s1.obj n _ _ g ra
  have e : C' = C := by have := hC.symm.trans hc.nm; simpa using this
  subst e
  refine ⟨_, dx, gs, rfl, hH, α1, S1, [.ref n], fun v S2 => ∃ k : Nat, v = .int (k : Nat) ∧ k < 2 ^ 60 ∧ Q v S2, fun _ _ => False, rfl, s1, .cons (.ref ra) .nil, q, ?_, fun _ _ _ _ z => z.elim⟩
  intro d S' α' H' v q2 l s' r
  obtain ⟨n, rfl, hn, q2⟩ := q2
  cases r
  exact ⟨n, rfl, hn, po _ S' α' H' _ q2 (l1.trans l) s' (.int _)⟩
end
/-! ### a list or, where it is none or empty, another -/
section
variable {cs : CS} {Γ : Sig} {cv : Nat → Value} {X : Cx} {W : WX} {sc : Scope}
theorem se_orv {a b : IE} {l r : Expr} {p : Pos} (ha : SE X W cv l (wpE Γ a)) (hb : SE X W cv r (wpE Γ b)) : SE X W cv (.BoolOp .Or [l, r] p) (wpE Γ (.orv a b)) := by
  intro ρ S Q R h σ H α er s Q' po pr pins st I
  rw [wpE] at h
  refine (pe_orT (pe_sem X l) (pe_one (pe_sem X r))).run pins st σ H Q' I ?_
  refine ha ρ S _ R h σ H α er s _ (fun d S1 α1 H1 v q l1 s1 rv => ?_) pr
  rcases q with ⟨rfl, q⟩ | ⟨n, xs, rfl, g, q⟩
  · cases rv
    exact ⟨false, rfl, hb ρ S1 _ R q σ H1 α1 (er.mono l1) s1 _ (po.le l1) (pr.le l1)⟩
  · cases rv with | ref ra =>
    obtain ⟨vs, hl, rr⟩ := s1.getL g ra
    refine ⟨!vs.isEmpty, .inl ⟨vs, hl, rfl⟩, ?_⟩
    have e : vs.isEmpty = xs.isEmpty := by cases rr <;> rfl
    rw [e]
    cases he : xs.isEmpty with
    | true =>
      rw [he, if_pos rfl] at q
      rw [if_neg (by decide)]
      exact hb ρ S1 _ R q σ H1 α1 (er.mono l1) s1 _ (po.le l1) (pr.le l1)
    | false =>
      rw [he, if_neg (by decide)] at q
      rw [if_pos (by decide)]
      exact po _ _ _ _ _ q l1 s1 (.ref ra)
theorem isLst0_eq {b : IE} (h : isLst0 b = true) : b = .lst .nil := by
  cases b <;> first | (cases h; done) | skip
  rename_i a
  cases a <;> first | rfl | cases h
theorem st_orv {a b : IE} {l r : Expr} {p : Pos} (hc : isCallE l = true) (h0 : isLst0 b = true) (ha : SE X W cv l (wpE Γ a)) : STt X W cv (.BoolOp .Or [l, r] p) (wpE Γ (.orv a b)) := by
  intro ρ S Q R h σ H α er s Q' po pr pins st I
  rw [isLst0_eq h0, wpE] at h
  have nf : ∀ (ρ : Env) (S : Store), ¬ wpE Γ (.lst .nil) ρ S (tst Q) R := fun ρ S z => by
    rw [wpE, wpA] at z
    exact z
  have hl : ∀ whole, isTrue l X.env whole = (do let v ← whole; standAt l.pos; holding [v] (truthy v)) := by
    cases l <;> first | (cases hc; done) | exact fun _ => rfl
  refine (PW.pt (pw_or (pt_truth (pe_sem X l) hl) (pw_or1 (pt_sem X r)))).run pins st σ H Q' I ?_
  refine ha ρ S _ R h σ H α er s _ (fun d S1 α1 H1 v q l1 s1 rv => ?_) pr
  rcases q with ⟨_, q⟩ | ⟨n, xs, rfl, g, q⟩
  · exact (nf _ _ q).elim
  · cases he : xs.isEmpty with
    | true =>
      rw [he, if_pos rfl] at q
      exact (nf _ _ q).elim
    | false =>
      rw [he, if_neg (by decide)] at q
      exact q.elim
end
end PyI
set_option autoImplicit false
set_option linter.all false
set_option Elab.async false
set_option maxRecDepth 100000
set_option maxHeartbeats 4000000
namespace PyI
open PySem PySem.Spec PyProof.Rows L2
variable {cs : CS} {Γ : Sig} {cv : Nat → Value}
theorem sa_nil {X : Cx} {W : WX} : SA X W cv [] (wpA Γ .nil) := by
  intro ρ S Q R h σ H α er s Q' po pr pos pins st I
  rw [wpA] at h
  exact (pa_nil (X := X)).run pos pins st σ H Q' I (po _ _ _ _ _ h rfl Le.refl s .nil)
theorem sa_cons {X : Cx} {W : WX} {a b : IE} {e : Expr} {es : List Expr} (ns : noSet e = true) (ha : SE X W cv e (wpE Γ a)) (hb : SA X W cv es (wpA Γ b)) : SA X W cv (e :: es) (wpA Γ (.cons a b)) := by
  intro ρ S Q R h σ H α er s Q' po pr pos pins st I
  rw [wpA] at h
  refine (pa_cons (pe_sem X e) (pa_sem X es) (noSet_star ns _ _)).run pos pins st σ H Q' I ?_
  refine ha ρ S _ R h σ H α er s _ (fun d S1 α1 H1 v q l1 s1 rv => ?_) pr
  refine hb ρ S1 _ R q σ H1 α1 (er.mono l1) s1 _ (fun ds S2 α2 H2 vs q2 hl l2 s2 rvs => ?_) (pr.le l1)
  exact po _ _ _ _ _ q2 (by simp [hl]) (l1.trans l2) s2 (.cons (rv.mono l2) rvs)
theorem st_ite {X : Cx} {W : WX} {c a b : IE} {t l r : Expr} {p : Pos} (hc : STt X W cv t (wpE Γ c)) (ha : STt X W cv l (wpE Γ a)) (hb : STt X W cv r (wpE Γ b)) : STt X W cv (.IfExp t l r p) (wpE Γ (.ite c a b)) := by
  intro ρ S Q R h σ H α er s Q' po pr pins st I
  rw [wpE] at h
  show wpAny _ _ (do if ← isTrue t X.env (eval t X.env) then isTrue l X.env (eval l X.env) else isTrue r X.env (eval r X.env)) _ _ _
  refine wpAny_bind (thn (hc ρ S _ R h σ H α er s (fun k H' => if k = true then tT X l σ H' Q' else tT X r σ H' Q') (fun k S1 α1 H1 q l1 s1 => ?_) pr pins st I) fun k s1 ⟨H', I', q⟩ => ?_)
  · cases k with
    | true =>
      rw [if_pos rfl] at q ⊢
      exact ha ρ S1 _ R q σ H1 α1 (er.mono l1) s1 _ (fun k S2 α2 H2 q l2 s2 => po _ _ _ _ q (l1.trans l2) s2) (pr.le l1)
    | false =>
      rw [if_neg (by decide)] at q ⊢
      exact hb ρ S1 _ R q σ H1 α1 (er.mono l1) s1 _ (fun k S2 α2 H2 q l2 s2 => po _ _ _ _ q (l1.trans l2) s2) (pr.le l1)
  · cases k with
    | true =>
      rw [if_pos rfl] at q
      exact q pins s1 I'
    | false =>
      rw [if_neg (by decide)] at q
      exact q pins s1 I'
theorem fst_nil {cs : CS} {sc : Scope} {ie : IE} (h : chkA cs sc ie [] = true) : ie = .nil := by
  cases ie <;> simp [chkA] at h <;> rfl
mutual
theorem sndE : ∀ (ie : IE) (sc : Scope) (e : Expr) (X : Cx) (W : WX), XOk X cs sc Γ W cv → chkE cs sc ie e = true → SE X W cv e (wpE Γ ie)
  | .var i, sc, e, X, W, ok, h => by
    cases e <;> simp only [chkE, Bool.and_eq_true, beq_iff_eq, Bool.false_eq_true] at h
    exact se_var ok h.1.1 h.1.2 h.2
  | .glb k, sc, e, X, W, ok, h => by
    cases e <;> simp only [chkE, Bool.and_eq_true, beq_iff_eq, Bool.false_eq_true] at h
    simp only [decide_eq_true_eq] at h
    exact se_glb ok h.1.1.1 h.1.1.2 h.1.2 h.2
  | .int i, sc, e, X, W, ok, h => by
    cases e <;> try simp only [chkE, Bool.false_eq_true] at h
    rename_i v k p
    cases v <;> simp only [chkE, beq_iff_eq, Bool.false_eq_true] at h
    subst h
    exact se_int
  | .str t, sc, e, X, W, ok, h => by
    cases e <;> try simp only [chkE, Bool.false_eq_true] at h
    rename_i v k p
    cases v <;> simp only [chkE, beq_iff_eq, Bool.false_eq_true] at h
    subst h
    exact se_str
  | .bl b, sc, e, X, W, ok, h => by
    cases e <;> try simp only [chkE, Bool.false_eq_true] at h
    rename_i v k p
    cases v <;> simp only [chkE, beq_iff_eq, Bool.false_eq_true] at h
    subst h
    exact se_bl
  | .non, sc, e, X, W, ok, h => by
    cases e <;> try simp only [chkE, Bool.false_eq_true] at h
    rename_i v k p
    cases v <;> try simp only [chkE, Bool.false_eq_true] at h
    exact se_non
  | .bin op a b, sc, e, X, W, ok, h => by
    cases e <;> simp only [chkE, Bool.and_eq_true, Bool.false_eq_true] at h
    rw [opBe_eq h.1.1]
    exact se_bin (sndE a sc _ X W ok h.1.2) (sndE b sc _ X W ok h.2)
  | .cmp op a b, sc, e, X, W, ok, h => by
    cases e <;> try simp only [chkE, Bool.false_eq_true] at h
    rename_i l ops rs p
    match ops, rs, h with
    | [o], [r], h =>
      simp only [chkE, Bool.and_eq_true] at h
      rw [opCe_eq h.1.1]
      exact se_cmp ok (chkE_noSet h.2) (sndE a sc _ X W ok h.1.2) (sndE b sc _ X W ok h.2)
  | .chain o1 o2 a b c, sc, e, X, W, ok, h => by
    cases e <;> try simp only [chkE, Bool.false_eq_true] at h
    rename_i l ops rs p
    match ops, rs, h with
    | [q1, q2], [r, t], h =>
      simp only [chkE, Bool.and_eq_true] at h
      rw [opCe_eq h.1.1.1.1, opCe_eq h.1.1.1.2]
      exact se_chain ok (chkE_noSet h.2) (sndE a sc _ X W ok h.1.1.2) (sndE b sc _ X W ok h.1.2) (sndE c sc _ X W ok h.2)
  | .neg a, sc, e, X, W, ok, h => by
    cases e <;> try simp only [chkE, Bool.false_eq_true] at h
    rename_i op e p
    cases op <;> simp only [chkE, Bool.false_eq_true] at h
    exact se_neg (sndE a sc _ X W ok h)
  | .and a b, sc, e, X, W, ok, h => by
    cases e <;> try simp only [chkE, Bool.false_eq_true] at h
    rename_i op vs p
    match op, vs, h with
    | .And, l :: r :: rest, h =>
      simp only [chkE, Bool.and_eq_true] at h
      exact se_and (sndE a sc _ X W ok h.1) (sndE b sc _ X W ok h.2)
  | .or a b, sc, e, X, W, ok, h => by
    cases e <;> try simp only [chkE, Bool.false_eq_true] at h
    rename_i op vs p
    match op, vs, h with
    | .Or, l :: r :: rest, h =>
      simp only [chkE, Bool.and_eq_true] at h
      exact se_or (sndE a sc _ X W ok h.1) (sndE b sc _ X W ok h.2)
  | .not a, sc, e, X, W, ok, h => by
    cases e <;> try simp only [chkE, Bool.false_eq_true] at h
    rename_i op e p
    cases op <;> simp only [chkE, Bool.false_eq_true] at h
    exact se_not (sndE a sc _ X W ok h)
  | .ite c a b, sc, e, X, W, ok, h => by
    cases e <;> simp only [chkE, Bool.and_eq_true, Bool.false_eq_true] at h
    exact se_ite (sndT c sc _ X W ok h.1.1) (sndE a sc _ X W ok h.1.2) (sndE b sc _ X W ok h.2)
  | .tup a, sc, e, X, W, ok, h => by
    cases e <;> simp only [chkE, Bool.and_eq_true, decide_eq_true_eq, Bool.false_eq_true] at h
    exact se_tup h.1 (sndA a sc _ X W ok h.2).1
  | .lst a, sc, e, X, W, ok, h => by
    cases e <;> simp only [chkE, Bool.and_eq_true, decide_eq_true_eq, Bool.false_eq_true] at h
    exact se_lst h.1 (sndA a sc _ X W ok h.2).1
  | .dic0, sc, e, X, W, ok, h => by
    cases e <;> try simp only [chkE, Bool.false_eq_true] at h
    rename_i ks vs p
    match ks, vs, h with
    | [], [], h => exact se_dic0
  | .sub a i, sc, e, X, W, ok, h => by
    cases e <;> simp only [chkE, Bool.and_eq_true, Bool.false_eq_true] at h
    exact se_sub ok (chkE_noSet h.2) (sndE a sc _ X W ok h.1) (sndE i sc _ X W ok h.2)
  | .slice a lo hi, sc, e, X, W, ok, h => by
    cases e <;> try simp only [chkE, Bool.false_eq_true] at h
    rename_i v s p
    cases s <;> try simp only [chkE, Bool.false_eq_true] at h
    rename_i l u st p2
    cases st <;> simp only [chkE, Bool.and_eq_true, Bool.false_eq_true] at h
    refine se_slice (sndE a sc _ X W ok h.1.1) ?_ ?_
    · cases l with
      | none => exact h.1.2
      | some e =>
        have h2 := h.1.2
        simp only [Bool.and_eq_true, Bool.not_eq_true'] at h2
        exact ⟨h2.1, sndE lo sc _ X W ok h2.2⟩
    · cases u with
      | none => exact h.2
      | some e =>
        have h2 := h.2
        simp only [Bool.and_eq_true, Bool.not_eq_true'] at h2
        exact ⟨h2.1, sndE hi sc _ X W ok h2.2⟩
  | .rev a, sc, e, X, W, ok, h => by
    cases e <;> try simp only [chkE, Bool.false_eq_true] at h
    rename_i v s p
    match s, h with
    | .Slice none none (some (.UnaryOp .USub (.Constant (.int j) k p1) p2)) p3, h =>
      simp only [chkE, Bool.and_eq_true, beq_iff_eq] at h
      obtain ⟨rfl, h⟩ := h
      exact se_rev (sndE a sc _ X W ok h)
  | .call f a, sc, e, X, W, ok, h => by
    cases e <;> try simp only [chkE, Bool.false_eq_true] at h
    rename_i fn args kws p
    match fn, args, kws, h with
    | .Name x p2, e :: es, [], h =>
      simp only [chkE, Bool.and_eq_true, beq_iff_eq] at h
      exact se_call ok h.1.1.1 h.1.1.2 h.1.2 (chkA_len h.2) (sndA a sc _ X W ok h.2).1
  | .blt b a, sc, e, X, W, ok, h => by
    cases e <;> try simp only [chkE, Bool.false_eq_true] at h
    rename_i fn args kws p
    match fn, args, kws, h with
    | .Name x p2, e :: es, [], h =>
      simp only [chkE, Bool.and_eq_true, beq_iff_eq] at h
      obtain ⟨⟨⟨h1, h2⟩, h3⟩, h4⟩ := h
      cases hT : isiT b with
      | none =>
        simp only [hT] at h4
        by_cases hq : isSeqB b = true
        · simp only [hq, if_true] at h4
          have hb : b = .isSeq := by cases b <;> first | rfl | cases hq
          subst hb
          match es, h4 with
          | [.Tuple [.Name y p3, .Name z p4] k p5], h4 =>
            simp only [Bool.and_eq_true, beq_iff_eq] at h4
            obtain ⟨⟨⟨⟨rfl, rfl⟩, gy⟩, gz⟩, ha⟩ := h4
            obtain ⟨a', rfl, hs⟩ := (sndA a sc _ X W ok ha).2 e rfl
            subst h1
            exact se_isSeq ok gy gz h2 (chkA_len ha e List.mem_cons_self) hs
        simp only [hq, Bool.false_eq_true, if_false, Bool.and_eq_true] at h4
        exact se_blt ok h4.1 h1 h2 h3 (chkA_len h4.2) (sndA a sc _ X W ok h4.2).1
      | some T =>
        simp only [hT] at h4
        match es, h4 with
        | [.Name y p3], h4 =>
          simp only [Bool.and_eq_true, beq_iff_eq] at h4
          obtain ⟨⟨⟨hy, gy⟩, ny⟩, ha⟩ := h4
          obtain ⟨a', rfl, hs⟩ := (sndA a sc _ X W ok ha).2 e rfl
          have hx : x = "isinstance" := by cases b <;> first | exact h1 | cases hT
          subst hx
          exact se_isiAll ok hT hy gy ny h2 (chkA_len ha e List.mem_cons_self) hs
  | .meth m o a, sc, e, X, W, ok, h => by
    cases e <;> try simp only [chkE, Bool.false_eq_true] at h
    rename_i fn args kws p
    match fn, kws, h with
    | .Attribute v nm p2, [], h =>
      simp only [chkE, Bool.and_eq_true, beq_iff_eq] at h
      obtain ⟨⟨⟨⟨⟨⟨h1, h2⟩, h3⟩, h4⟩, h5⟩, h6⟩, h7⟩ := h
      exact se_meth ok h2 h1 h3 (by rw [h4]; exact beq_self_eq_true _) h5 (chkA_len h7) (sndE o sc _ X W ok h6) (sndA a sc _ X W ok h7).1 fun e => by rw [e] at h7; exact fst_nil h7
  | .comp t k its own c e, sc, ex, X, W, ok, h => by
    cases ex <;> try simp only [chkE, Bool.false_eq_true] at h
    rename_i elt gens scope p
    match gens, h with
    | [⟨tg, iter, ifs, as⟩], h =>
      simp only [chkE, Bool.and_eq_true, beq_iff_eq] at h
      obtain ⟨⟨⟨⟨⟨⟨⟨⟨ha, hns⟩, hit⟩, hT⟩, ho⟩, hb⟩, _⟩, he⟩, hc⟩ := h
      subst ha
      have hI : SI X W cv Γ k its tg iter := by
        cases hi : iterArgs sc k tg iter with
        | none => simp only [hi, Bool.false_eq_true] at hit
        | some es =>
          simp only [hi] at hit
          have := sndA its sc es X W ok hit
          exact snd_iter ok hi (chkA_len hit) this.1 this.2
      refine se_comp (sc := sc) ⟨⟨hb, ok⟩, hns, hT, (fun i hi => ?_), hI, ?_, (fun s H C cl fp => sndE e scope _ _ _ (ok.blk scope s H C cl fp) he)⟩
      · rw [List.all_eq_true] at ho
        simpa using ho i hi
      · match ifs, hc with
        | [], hc => exact hc
        | [x], hc =>
          simp only [Bool.and_eq_true, Bool.not_eq_true'] at hc
          exact ⟨hc.1, fun s H C cl fp => sndT c scope _ _ _ (ok.blk scope s H C cl fp) hc.2⟩
  | .nil, sc, e, X, W, ok, h => by cases e <;> simp [chkE] at h
  | .cons _ _, sc, e, X, W, ok, h => by cases e <;> simp [chkE] at h
  | .fld o f, sc, e, X, W, ok, h => by
    cases e <;> try simp only [chkE, Bool.false_eq_true] at h
    rename_i v nm p
    simp only [Bool.and_eq_true, beq_iff_eq, decide_eq_true_eq] at h
    obtain ⟨⟨⟨⟨h1, h2⟩, h3⟩, h4⟩, h5⟩ := h
    exact se_fld ok h1 h2 h3 h4 (sndE o sc v X W ok h5)
  | .lrg a, sc, e, X, W, ok, h => by
    cases e <;> try simp only [chkE, Bool.false_eq_true] at h
    rename_i fn args kws p
    match fn, args, kws, h with
    | .Name x p2, [.Call (.Name y p4) [e] [] p3], [], h =>
      simp only [chkE, Bool.and_eq_true, beq_iff_eq] at h
      obtain ⟨⟨⟨⟨⟨rfl, rfl⟩, h3⟩, h4⟩, h5⟩, h6⟩ := h
      exact se_lrg ok h3 h4 h5 (sndE a sc _ X W ok h6)
  | .glbsub k i, sc, e, X, W, ok, h => by
    cases e <;> try simp only [chkE, Bool.false_eq_true] at h
    rename_i v s p
    match v, h with
    | .Name x p2, h =>
      simp only [chkE, Bool.and_eq_true, beq_iff_eq] at h
      exact se_lng ok h.1.1.1.2 h.1.1.2 h.1.2 (chkE_noSet h.2) (sndE i sc _ X W ok h.2)
  | .newc f a, sc, e, X, W, ok, h => by
    cases e <;> try simp only [chkE, Bool.false_eq_true] at h
    rename_i fn args kws p
    match fn, args, kws, h with
    | .Name x p2, e :: es, [], h =>
      simp only [chkE, Bool.and_eq_true, beq_iff_eq] at h
      exact se_newc ok h.1.1.1.2 h.1.1.1.1 h.1.1.2 h.1.2 (chkA_len h.2) (sndA a sc _ X W ok h.2).1
  | .mcl f o a, sc, e, X, W, ok, h => by
    cases e <;> try simp only [chkE, Bool.false_eq_true] at h
    rename_i fn args kws p
    match fn, args, kws, h with
    | .Attribute v nm apos, es, [], h =>
      simp only [chkE, Bool.and_eq_true, decide_eq_true_eq] at h
      obtain ⟨⟨⟨⟨⟨⟨⟨h1, h2⟩, h3⟩, h4⟩, h5⟩, h6⟩, h7⟩, h8⟩ := h
      exact se_mcl ok (eq_of_beq h1) (fun z => by rw [z] at h2; simp at h2) (fun z => by rw [z] at h3; simp at h3) h4 h5 h6 (chkA_len h8) (sndE o sc v X W ok h7) (sndA a sc es X W ok h8).1 (fun he => by subst he; exact fst_nil h8)
  | .lenc f o, sc, e, X, W, ok, h => by
    cases e <;> try simp only [chkE, Bool.false_eq_true] at h
    rename_i fn args kws p
    match fn, args, kws, h with
    | .Name x p2, [e], [], h =>
      simp only [chkE, Bool.and_eq_true, beq_iff_eq] at h
      exact se_lenc ok h.1.1.1.2 h.1.1.1.1 h.1.1.2 h.1.2 (chkE_noSet h.2) (sndE o sc e X W ok h.2)
  | .orv a b, sc, e, X, W, ok, h => by
    cases e <;> try simp only [chkE, Bool.false_eq_true] at h
    rename_i op vs p
    match op, vs, h with
    | .Or, [l, r], h =>
      simp only [chkE, Bool.and_eq_true] at h
      exact se_orv (sndE a sc _ X W ok h.1.2) (sndE b sc _ X W ok h.2)
  | .selc fs i a, sc, e, X, W, ok, h => by
    cases e <;> try simp only [chkE, Bool.false_eq_true] at h
    rename_i fn args kws p
    match fn, args, kws, h with
    | .Subscript (.List ns p2) ix p3, e :: es, [], h =>
      simp only [chkE, Bool.and_eq_true, decide_eq_true_eq] at h
      exact se_selc ok h.1.1.1 h.1.1.2 h.1.2 (chkA_len h.2) (sndA a sc _ X W ok h.2).1
theorem sndT : ∀ (ie : IE) (sc : Scope) (e : Expr) (X : Cx) (W : WX), XOk X cs sc Γ W cv → chkE cs sc ie e = true → STt X W cv e (wpE Γ ie)
  | .cmp op a b, sc, e, X, W, ok, h => by
    cases e <;> try simp only [chkE, Bool.false_eq_true] at h
    rename_i l ops rs p
    match ops, rs, h with
    | [o], [r], h =>
      simp only [chkE, Bool.and_eq_true] at h
      rw [opCe_eq h.1.1]
      exact st_cmp ok (chkE_noSet h.2) (sndE a sc _ X W ok h.1.2) (sndE b sc _ X W ok h.2)
  | .chain o1 o2 a b c, sc, e, X, W, ok, h => by
    cases e <;> try simp only [chkE, Bool.false_eq_true] at h
    rename_i l ops rs p
    match ops, rs, h with
    | [q1, q2], [r, t], h =>
      simp only [chkE, Bool.and_eq_true] at h
      rw [opCe_eq h.1.1.1.1, opCe_eq h.1.1.1.2]
      exact st_chain ok (chkE_noSet h.2) (sndE a sc _ X W ok h.1.1.2) (sndE b sc _ X W ok h.1.2) (sndE c sc _ X W ok h.2)
  | .and a b, sc, e, X, W, ok, h => by
    cases e <;> try simp only [chkE, Bool.false_eq_true] at h
    rename_i op vs p
    match op, vs, h with
    | .And, l :: r :: rest, h =>
      simp only [chkE, Bool.and_eq_true] at h
      exact st_and (sndT a sc _ X W ok h.1) (sndT b sc _ X W ok h.2)
  | .or a b, sc, e, X, W, ok, h => by
    cases e <;> try simp only [chkE, Bool.false_eq_true] at h
    rename_i op vs p
    match op, vs, h with
    | .Or, l :: r :: rest, h =>
      simp only [chkE, Bool.and_eq_true] at h
      exact st_or (sndT a sc _ X W ok h.1) (sndT b sc _ X W ok h.2)
  | .not a, sc, e, X, W, ok, h => by
    cases e <;> try simp only [chkE, Bool.false_eq_true] at h
    rename_i op e p
    cases op <;> simp only [chkE, Bool.false_eq_true] at h
    exact st_not (sndT a sc _ X W ok h)
  | .ite c a b, sc, e, X, W, ok, h => by
    cases e <;> simp only [chkE, Bool.and_eq_true, Bool.false_eq_true] at h
    exact st_ite (sndT c sc _ X W ok h.1.1) (sndT a sc _ X W ok h.1.2) (sndT b sc _ X W ok h.2)
  | .var i, sc, e, X, W, ok, h => by
    refine st_val (fun _ => ?_) (sndE (.var i) sc e X W ok h)
    cases e <;> first | rfl | (simp [chkE] at h; done)
  | .glb i, sc, e, X, W, ok, h => by
    refine st_val (fun _ => ?_) (sndE (.glb i) sc e X W ok h)
    cases e <;> first | rfl | (simp [chkE] at h; done)
  | .int i, sc, e, X, W, ok, h => by
    refine st_val (fun _ => ?_) (sndE (.int i) sc e X W ok h)
    cases e <;> first | rfl | (simp [chkE] at h; done)
  | .str i, sc, e, X, W, ok, h => by
    refine st_val (fun _ => ?_) (sndE (.str i) sc e X W ok h)
    cases e <;> first | rfl | (simp [chkE] at h; done)
  | .bl i, sc, e, X, W, ok, h => by
    refine st_val (fun _ => ?_) (sndE (.bl i) sc e X W ok h)
    cases e <;> first | rfl | (simp [chkE] at h; done)
  | .non, sc, e, X, W, ok, h => by
    refine st_val (fun _ => ?_) (sndE .non sc e X W ok h)
    cases e <;> first | rfl | (simp [chkE] at h; done)
  | .bin op a b, sc, e, X, W, ok, h => by
    refine st_val (fun _ => ?_) (sndE (.bin op a b) sc e X W ok h)
    cases e <;> first | rfl | (simp [chkE] at h; done)
  | .neg a, sc, e, X, W, ok, h => by
    refine st_val (fun _ => ?_) (sndE (.neg a) sc e X W ok h)
    cases e <;> first | rfl | (simp [chkE] at h; done) | skip
    rename_i op e p
    cases op <;> first | rfl | (simp [chkE] at h; done)
  | .tup a, sc, e, X, W, ok, h => by
    refine st_val (fun _ => ?_) (sndE (.tup a) sc e X W ok h)
    cases e <;> first | rfl | (simp [chkE] at h; done)
  | .lst a, sc, e, X, W, ok, h => by
    refine st_val (fun _ => ?_) (sndE (.lst a) sc e X W ok h)
    cases e <;> first | rfl | (simp [chkE] at h; done)
  | .dic0, sc, e, X, W, ok, h => by
    refine st_val (fun _ => ?_) (sndE .dic0 sc e X W ok h)
    cases e <;> first | rfl | (simp [chkE] at h; done)
  | .sub a i, sc, e, X, W, ok, h => by
    refine st_val (fun _ => ?_) (sndE (.sub a i) sc e X W ok h)
    cases e <;> first | rfl | (simp [chkE] at h; done)
  | .slice a lo hi, sc, e, X, W, ok, h => by
    refine st_val (fun _ => ?_) (sndE (.slice a lo hi) sc e X W ok h)
    cases e <;> first | rfl | (simp [chkE] at h; done)
  | .rev a, sc, e, X, W, ok, h => by
    refine st_val (fun _ => ?_) (sndE (.rev a) sc e X W ok h)
    cases e <;> first | rfl | (simp [chkE] at h; done)
  | .call f a, sc, e, X, W, ok, h => by
    refine st_val (fun _ => ?_) (sndE (.call f a) sc e X W ok h)
    cases e <;> first | rfl | (simp [chkE] at h; done)
  | .blt f a, sc, e, X, W, ok, h => by
    refine st_val (fun _ => ?_) (sndE (.blt f a) sc e X W ok h)
    cases e <;> first | rfl | (simp [chkE] at h; done)
  | .meth m o a, sc, e, X, W, ok, h => by
    refine st_val (fun _ => ?_) (sndE (.meth m o a) sc e X W ok h)
    cases e <;> first | rfl | (simp [chkE] at h; done)
  | .comp t k its own c x, sc, e, X, W, ok, h => by
    refine st_val (fun _ => ?_) (sndE (.comp t k its own c x) sc e X W ok h)
    cases e <;> first | rfl | (simp [chkE] at h; done)
  | .nil, sc, e, X, W, ok, h => by cases e <;> simp [chkE] at h
  | .cons _ _, sc, e, X, W, ok, h => by cases e <;> simp [chkE] at h
  | .fld o f, sc, e, X, W, ok, h => by
    refine st_val (fun _ => ?_) (sndE (.fld o f) sc e X W ok h)
    cases e <;> first | rfl | (simp [chkE] at h; done)
  | .lrg a, sc, e, X, W, ok, h => by
    refine st_val (fun _ => ?_) (sndE (.lrg a) sc e X W ok h)
    cases e <;> first | rfl | (simp [chkE] at h; done)
  | .glbsub k i, sc, e, X, W, ok, h => by
    refine st_val (fun _ => ?_) (sndE (.glbsub k i) sc e X W ok h)
    cases e <;> first | rfl | (simp [chkE] at h; done)
  | .newc f a, sc, e, X, W, ok, h => by
    refine st_val (fun _ => ?_) (sndE (.newc f a) sc e X W ok h)
    cases e <;> first | rfl | (simp [chkE] at h; done)
  | .mcl f o a, sc, e, X, W, ok, h => by
    refine st_val (fun _ => ?_) (sndE (.mcl f o a) sc e X W ok h)
    cases e <;> first | rfl | (simp [chkE] at h; done)
  | .lenc f o, sc, e, X, W, ok, h => by
    refine st_val (fun _ => ?_) (sndE (.lenc f o) sc e X W ok h)
    cases e <;> first | rfl | (simp [chkE] at h; done)
  | .orv a b, sc, e, X, W, ok, h => by
    cases e <;> try simp only [chkE, Bool.false_eq_true] at h
    rename_i op vs p
    match op, vs, h with
    | .Or, [l, r], h =>
      simp only [chkE, Bool.and_eq_true] at h
      exact st_orv h.1.1.1 h.1.1.2 (sndE a sc _ X W ok h.1.2)
  | .selc fs i a, sc, e, X, W, ok, h => by
    refine st_val (fun _ => ?_) (sndE (.selc fs i a) sc e X W ok h)
    cases e <;> first | rfl | (simp [chkE] at h; done)
theorem sndA : ∀ (ie : IE) (sc : Scope) (es : List Expr) (X : Cx) (W : WX), XOk X cs sc Γ W cv → chkA cs sc ie es = true → SA X W cv es (wpA Γ ie) ∧ ∀ e, es = [e] → ∃ a, ie = .cons a .nil ∧ SE X W cv e (wpE Γ a)
  | .nil, sc, es, X, W, ok, h => by
    cases es with
    | nil => exact ⟨sa_nil, fun e he => by cases he⟩
    | cons e es => simp [chkA] at h
  | .cons a b, sc, es, X, W, ok, h => by
    cases es with
    | nil => simp [chkA] at h
    | cons e es =>
      simp only [chkA, Bool.and_eq_true] at h
      have ha := sndE a sc e X W ok h.1
      refine ⟨sa_cons (chkE_noSet h.1) ha (sndA b sc es X W ok h.2).1, fun e' he => ?_⟩
      cases he
      exact ⟨a, by rw [fst_nil h.2], ha⟩
  | .var _, sc, es, X, W, ok, h => by cases es <;> simp [chkA] at h
  | .glb _, sc, es, X, W, ok, h => by cases es <;> simp [chkA] at h
  | .int _, sc, es, X, W, ok, h => by cases es <;> simp [chkA] at h
  | .str _, sc, es, X, W, ok, h => by cases es <;> simp [chkA] at h
  | .bl _, sc, es, X, W, ok, h => by cases es <;> simp [chkA] at h
  | .non, sc, es, X, W, ok, h => by cases es <;> simp [chkA] at h
  | .bin _ _ _, sc, es, X, W, ok, h => by cases es <;> simp [chkA] at h
  | .cmp _ _ _, sc, es, X, W, ok, h => by cases es <;> simp [chkA] at h
  | .chain _ _ _ _ _, sc, es, X, W, ok, h => by cases es <;> simp [chkA] at h
  | .neg _, sc, es, X, W, ok, h => by cases es <;> simp [chkA] at h
  | .and _ _, sc, es, X, W, ok, h => by cases es <;> simp [chkA] at h
  | .or _ _, sc, es, X, W, ok, h => by cases es <;> simp [chkA] at h
  | .not _, sc, es, X, W, ok, h => by cases es <;> simp [chkA] at h
  | .ite _ _ _, sc, es, X, W, ok, h => by cases es <;> simp [chkA] at h
  | .tup _, sc, es, X, W, ok, h => by cases es <;> simp [chkA] at h
  | .lst _, sc, es, X, W, ok, h => by cases es <;> simp [chkA] at h
  | .dic0, sc, es, X, W, ok, h => by cases es <;> simp [chkA] at h
  | .sub _ _, sc, es, X, W, ok, h => by cases es <;> simp [chkA] at h
  | .slice _ _ _, sc, es, X, W, ok, h => by cases es <;> simp [chkA] at h
  | .rev _, sc, es, X, W, ok, h => by cases es <;> simp [chkA] at h
  | .call _ _, sc, es, X, W, ok, h => by cases es <;> simp [chkA] at h
  | .blt _ _, sc, es, X, W, ok, h => by cases es <;> simp [chkA] at h
  | .meth _ _ _, sc, es, X, W, ok, h => by cases es <;> simp [chkA] at h
  | .comp _ _ _ _ _ _, sc, es, X, W, ok, h => by cases es <;> simp [chkA] at h
  | .fld _ _, sc, es, X, W, ok, h => by cases es <;> simp [chkA] at h
  | .lrg _, sc, es, X, W, ok, h => by cases es <;> simp [chkA] at h
  | .glbsub _ _, sc, es, X, W, ok, h => by cases es <;> simp [chkA] at h
  | .newc _ _, sc, es, X, W, ok, h => by cases es <;> simp [chkA] at h
  | .mcl _ _ _, sc, es, X, W, ok, h => by cases es <;> simp [chkA] at h
  | .lenc _ _, sc, es, X, W, ok, h => by cases es <;> simp [chkA] at h
  | .orv _ _, sc, es, X, W, ok, h => by cases es <;> simp [chkA] at h
  | .selc _ _ _, sc, es, X, W, ok, h => by cases es <;> simp [chkA] at h
end
end PyI
set_option autoImplicit false
set_option linter.all false
set_option Elab.async false
set_option maxRecDepth 100000
set_option maxHeartbeats 4000000
namespace PyI
open PySem PySem.Spec PyProof.Rows L2
variable {cs : CS} {Γ : Sig} {cv : Nat → Value}
/-! ### statements: the look -/
def isLC : Expr → Bool
  | .ListComp .. => true | .SetComp .. => true | .DictComp .. => true | _ => false
def swapC (sc : Scope) (y : Str) (py : Pos) : Expr → Bool
  | .ListComp _ _ scope p => sc.names.lookup y == some .local && (py.line == p.line) && !(scope.names.any fun (n, k) => n == y && (k == .local || k == .cell))
  | _ => false
/-- x = e, (a, b) = e -/
def asgB (sc : Scope) : Expr → Expr → Bool
  | .Name y py, v => if isLC v then (match v with | .ListComp .. => true | _ => false) else true
  | .Tuple ts _ _, v => !isLC v && (match v with | .Tuple .. => false | _ => true)
  | _, _ => false
def namesOf : List Expr → Option (List Str)
  | [] => some []
  | .Name x _ :: r => (namesOf r).map (x :: ·)
  | _ => none
def isLocal (sc : Scope) (x : Str) : Bool := sc.names.lookup x == some .local
/-- a, b = e, f with names that are not all plain locals: a tuple is made and taken apart -/
def nmF (k : Str → Option NameKind) (line : Nat) : Expr → Option Str
  | .Name id pos => if k id == some .local && pos.line == line then some id else none
  | _ => none
def line0 (ts : List Expr) : Nat := (ts.head?.map (·.pos.line)).getD 0
def tupB (sc : Scope) (ts : List Expr) : Bool := (ts.filterMap (nmF (fun x => sc.names.lookup x) (line0 ts))).length != ts.length
def tup2 (sc : Scope) (tg v : Expr) : Bool := match tg, v with
  | .Tuple ts _ _, .Tuple vs _ _ => tupB sc ts
  | _, _ => false
def parB (sc : Scope) (ts vs : List Expr) : Bool := (ts.length == 2 || ts.length == 3) && (vs.length == ts.length) && !(vs.any fun | .Starred .. => true | _ => false) &&
  ((ts.filterMap (nmF (fun x => sc.names.lookup x) (line0 ts))).length == ts.length) && ((ts.filterMap (nmF (fun x => sc.names.lookup x) (line0 ts))).eraseDups.length == (ts.filterMap (nmF (fun x => sc.names.lookup x) (line0 ts))).length) &&
  !(vs.all (foldedForSure 8)) && !(vs.all (constantsAlone 8))
/-- _law_which(n) -/
def whB (sc : Scope) (n : Str) : Expr → Bool
  | .Call (.Name f _) [.Name e _] [] _ => (f == ("_law_which" : Str)) && glB sc f && (e == n)
  | _ => false
/-- an except suite -/
def hB (cs : CS) (sc : Scope) (k : Nat) (x : Str) (on : Option Str) (s0 : Stmt) (ss : List Stmt) : Bool := match k, on, s0, ss with
  | 0, some n, .Return (some e) _, [] => (x == ("DateError" : Str)) && (cs.gls.lookup x == some 99) && glB sc x && cs.N.contains n && isLocal sc n && nameOk n && whB sc n e
  | 1, some n, .Return (some (.IfExp (.Compare e [.Eq] [.Tuple [.Constant (.str r) _ _, .Constant (.int j) _ _] _ _] _) (.Constant .none _ _) _ _)) _, [] => (x == ("DateError" : Str)) && (cs.gls.lookup x == some 99) && glB sc x && cs.N.contains n && isLocal sc n && nameOk n && whB sc n e && (r == ofT raisedT) && (j == 5)
  | 2, some n, .Return (some (.List [e] _)) _, [] => (x == ("DateError" : Str)) && (cs.gls.lookup x == some 99) && glB sc x && cs.N.contains n && isLocal sc n && nameOk n && whB sc n e
  | 3, none, .Return (some (.Constant (.bool true) _ _)) _, [] => (x == ("InvalidFormat" : Str)) && (cs.gls.lookup x == some 106) && glB sc x
  | _, _, _, _ => false
mutual
def chkS (cs : CS) (sc : Scope) : IS → Stmt → Bool
  | .pass, .Pass _ => true
  | .asg t e, .Assign [tg] v _ => chkT cs.N sc t tg && chkE cs sc e v && (asgB sc tg v || tup2 sc tg v)
  | .par l e, .Assign [.Tuple ts _ _] (.Tuple vs _ _) _ => parB sc ts vs && decide l.Nodup && chkNs cs.N sc l ts && chkA cs sc e vs
  | .aug i e, .AugAssign t .Add v _ => chkN cs.N sc i t && chkE cs sc e v
  | .setsub o i e, .Assign [.Subscript a b _] v _ => !isLC v && chkE cs sc o a && chkE cs sc i b && chkE cs sc e v
  | .augsub o i e, .AugAssign (.Subscript a b _) .Add v _ => chkE cs sc o a && chkE cs sc i b && chkE cs sc e v
  | .setfld o f e, .Assign [.Attribute a nm _] v _ => decide (f < 2) && (nm == fldS f) && (cs.gls.lookup ("Reader" : Str) == some 98) && chkE cs sc o a && chkE cs sc e v
  | .ex e, .Expr v _ => !isLC v && chkE cs sc e v
  | .ret e, .Return (some v) _ => chkE cs sc e v
  | .retn, .Return none _ => true
  | .ite c a b, .If t x y _ => chkE cs sc c t && chkB cs sc a x && chkB cs sc b y
  | .whl c b, .While t x [] _ => chkE cs sc c t && chkB cs sc b x
  | .frl t k its b, .For tg iter x [] _ => noSet iter && (match iterArgs sc k tg iter with | some es => chkA cs sc its es | none => false) && chkT cs.N sc t tg && chkB cs sc b x
  | .brk, .Break _ => true
  | .cnt, .Continue _ => true
  | .nev, _ => true
  | .rse c, .Raise (some (.Call (.Name x _) [] [] _)) none _ => (cs.gls.lookup x == some (100 + c)) && glB sc x && nameOk x
  | .tri b k, .Try body [.ExceptHandler (some (.Name x _)) on (s0 :: ss) _] [] [] _ => chkB cs sc b body && hB cs sc k x on s0 ss
  | _, _ => false
def chkB (cs : CS) (sc : Scope) : IS → List Stmt → Bool
  | .pass, [] => true
  | .seq a b, s :: r => chkS cs sc a s && chkB cs sc b r
  | _, _ => false
end
structure XOkS (X : Cx) (cs : CS) (sc : Scope) (Γ : Sig) (W : WX) (cv : Nat → Value) : Prop where
  ok : XOk X cs sc Γ W cv
  esc : X.env.scope = sc
  kind : sc.kind = .function
  hp : PassesOwn (model X.prog X.w) X.A X.env X.xe
  stk : X.stack = X.env :: X.outer
  frm : X.env.frame = some X.env.locals
variable {X : Cx} {W : WX} {sc : Scope}
def tSt (X : Cx) (st : Stmt) : TS := fun D σ H => ∀ (pins : List (Addr × Obj)) (s : Shared), Inv X pins σ H s → wpAny (model X.prog X.w) X.A (exec st X.env) (SP X pins D) X.xe s
def tSs (X : Cx) (st : List Stmt) : TS := fun D σ H => ∀ (pins : List (Addr × Obj)) (s : Shared), Inv X pins σ H s → wpAny (model X.prog X.w) X.A (execs st X.env) (SP X pins D) X.xe s
theorem ps_sem (X : Cx) (st : Stmt) : PS X st (tSt X st) := ⟨fun pins s σ H D I h => h pins s I⟩
theorem pss_sem (X : Cx) (st : List Stmt) : PSs X st (tSs X st) := ⟨fun pins s σ H D I h => h pins s I⟩
def PostN (K : PySem.W.Frag) (α : List Addr) (H : Hp) (Q : PyI.Env → Store → Prop) (Q' : L2.St → Hp → Prop) : Prop := ∀ (ρ' : PyI.Env) (S' : Store) (α' : List Addr) (H' : Hp) (σ' : L2.St), Q ρ' S' → Le K α H α' H' → Sim K S' α' H' → ER K α' H' ρ' σ' → Q' σ' H'
theorem PostN.le {K : PySem.W.Frag} {α α' : List Addr} {H H' : Hp} {Q : PyI.Env → Store → Prop} {Q' : L2.St → Hp → Prop} (p : PostN K α H Q Q') (l : Le K α H α' H') : PostN K α' H' Q Q' := fun ρ S a h σ q l' s e => p ρ S a h σ q (l.trans l') s e
structure PostD (K : PySem.W.Frag) (α : List Addr) (H : Hp) (cv : Nat → Value) (W : WX) (D : PEnds) (D' : Ends) : Prop where
  nx : PostN K α H D.nx D'.nx
  rt : Post K α H D.rt D'.rt
  bk : PostN K α H D.bk D'.bk
  ct : PostN K α H D.ct D'.ct
  rs : ∀ σ, PostR K α H D.rs cv (fun c H' => W c none σ H')
theorem PostD.le {K : PySem.W.Frag} {α α' : List Addr} {H H' : Hp} {D : PEnds} {D' : Ends} (p : PostD K α H cv W D D') (l : Le K α H α' H') : PostD K α' H' cv W D D' := ⟨p.nx.le l, p.rt.le l, p.bk.le l, p.ct.le l, fun σ => (p.rs σ).le l⟩
def SS (X : Cx) (W : WX) (cv : Nat → Value) (t : TS) (P : PyI.Env → Store → PEnds → Prop) : Prop :=
  ∀ (ρ : PyI.Env) (S : Store) (D : PEnds), P ρ S D → ∀ (σ : L2.St) (H : Hp) (α : List Addr), ER X.K α H ρ σ → Sim X.K S α H → ∀ D' : Ends, PostD X.K α H cv W D D' → t D' σ H
theorem sw_no {e : Expr} (h : isLC e = false) (t : Option Expr) (l : Nat) (env : PySem.Env) : swapsWith e t l env = pure false := by
  cases e <;> first | rfl | cases h
theorem kindOf_eq (ok : XOkS X cs sc Γ W cv) (x : Str) : X.env.kindOf x = sc.names.lookup x := by
  unfold Env.kindOf
  rw [ok.esc]
theorem block_eq (ok : XOkS X cs sc Γ W cv) : X.env.blockKind = .function := by
  unfold Env.blockKind
  rw [ok.esc, ok.kind]
  rfl
theorem comp_ok {ie : IE} {elt : Expr} {gens : List Comprehension} {scope : Scope} {p : Pos} (ok : XOk X cs sc Γ W cv) (h : chkE cs sc ie (.ListComp elt gens scope p) = true) :
    ∃ t k its own c e tg iter ifs, ie = .comp t k its own c e ∧ gens = [⟨tg, iter, ifs, 0⟩] ∧ CompOk (sc := sc) X W cv cs Γ t k its c e own elt tg iter ifs scope := by
  cases ie <;> try (simp [chkE] at h; done)
  rename_i t k its own c e
  match gens, h with
  | [⟨tg, iter, ifs, as⟩], h =>
    simp only [chkE, Bool.and_eq_true, beq_iff_eq] at h
    obtain ⟨⟨⟨⟨⟨⟨⟨⟨ha, hns⟩, hit⟩, hT⟩, ho⟩, hb⟩, _⟩, he⟩, hc⟩ := h
    subst ha
    refine ⟨t, k, its, own, c, e, tg, iter, ifs, rfl, rfl, ⟨⟨hb, ok⟩, hns, hT, (fun i hi => ?_), ?_, ?_, (fun s H C cl fp => sndE e scope _ _ _ (ok.blk scope s H C cl fp) he)⟩⟩
    · rw [List.all_eq_true] at ho
      simpa using ho i hi
    · cases hi : iterArgs sc k tg iter with
      | none => simp only [hi, Bool.false_eq_true] at hit
      | some es =>
        simp only [hi] at hit
        have := sndA its sc es X W ok hit
        exact snd_iter ok hi (chkA_len hit) this.1 this.2
    · match ifs, hc with
      | [], hc => exact hc
      | [x], hc =>
        simp only [Bool.and_eq_true, Bool.not_eq_true'] at hc
        exact ⟨hc.1, fun s H C cl fp => sndT c scope _ _ _ (ok.blk scope s H C cl fp) hc.2⟩
theorem ss_name {i : Nat} {e : IE} {tg v : Expr} {pos : Pos} (ok : XOkS X cs sc Γ W cv) (hT : chkN cs.N sc i tg = true) (hA : asgB sc tg v = true) (hE : chkE cs sc e v = true) :
    SS X W cv (tSt X (.Assign [tg] v pos)) (wpS Γ (.asg (.nm i) e)) := by
  intro ρ S D h σ H α er s D' po pins st I
  rw [wpS] at h
  obtain ⟨x, p, rfl, h1, h2⟩ := chkN_name hT
  by_cases hsw : swapC sc x p v = true
  · cases v <;> first | (cases hsw; done) | skip
    rename_i elt gs scope pp
    obtain ⟨t, k, its, own, c, e', tg2, iter, ifs, rfl, rfl, co⟩ := comp_ok (Γ := Γ) (W := W) (cv := cv) ok.ok hE
    simp only [swapC, Bool.and_eq_true, beq_iff_eq, Bool.not_eq_true'] at hsw
    have hyl : X.env.scope.names.lookup x = some .local := by rw [ok.esc]; exact hsw.1.1
    refine ss_setLc co h1 hyl (sw_true (by rw [ok.esc]; exact ok.kind) hyl (by rw [hsw.1.2]; exact beq_self_eq_true _) hsw.2) h er s (fun d S1 α1 H1 w q l1 s1 rv => ?_) (po.rs σ) pins st I
    obtain ⟨ρ2, e2, q⟩ := q
    cases e2
    exact po.nx _ _ _ _ _ q l1 s1 (er_set (er.mono l1) rv)
  · have hs : swapsWith v (some (.Name x p)) pos.line X.env = pure false := by
      cases v <;> first | rfl | (cases hA; done) | skip
      rename_i elt gs scope pp
      show (pure (X.env.blockKind == .function && X.env.kindOf x == some .local && p.line == pp.line && !(scope.names.any fun (n, k) => n == x && (k == .local || k == .cell))) : Sem Bool) = pure false
      rw [block_eq ok, kindOf_eq ok]
      congr 1
      have := hsw
      unfold swapC at this
      simp only [Bool.not_eq_true] at this
      rw [← this]
      rfl
    obtain ⟨l1, l2⟩ := ok.ok.loc x h2
    refine (ps_set (i := i) ok.ok.nd (by rw [ok.ok.hN]; exact h1) l1 (pe_sem X v) hs l2).run pins st σ H D' I ?_
    refine sndE e sc v X W ok.ok hE ρ S _ _ h σ H α er s _ (fun d S1 α1 H1 w q l1 s1 rv => ?_) (po.rs σ)
    obtain ⟨ρ2, e2, q⟩ := q
    cases e2
    exact po.nx _ _ _ _ _ q l1 s1 (er_set (er.mono l1) rv)
theorem kindOf_fun (ok : XOkS X cs sc Γ W cv) : X.env.kindOf = fun x => sc.names.lookup x := funext fun x => kindOf_eq ok x
theorem sw_unf (ts vs : List Expr) (k1 k2 : Nat) (p1 p2 : Pos) (env : PySem.Env) : swappedStores [.Tuple ts k1 p1] (.Tuple vs k2 p2) env =
    (if (!(ts.length == 2 || ts.length == 3) || vs.length != ts.length || env.blockKind != .function) = true then pure none else
     if (vs.any fun | .Starred .. => true | _ => false) = true then pure none else
     if ((ts.filterMap (nmF env.kindOf (line0 ts))).length != ts.length || (ts.filterMap (nmF env.kindOf (line0 ts))).eraseDups.length != (ts.filterMap (nmF env.kindOf (line0 ts))).length) = true then pure none else
     if vs.all (foldedForSure 8) = true then pure none else
     if vs.all (constantsAlone 8) = true then (do unsupported "assign.tuple-of-constant-expressions:order-of-the-stores"; pure (some (ts.filterMap (nmF env.kindOf (line0 ts))))) else pure (some (ts.filterMap (nmF env.kindOf (line0 ts))))) := by
  unfold swappedStores
  have e : (fun x => match x with
    | .Name id pos => if (env.kindOf id == some .local && pos.line == (ts.head?.map (·.pos.line)).getD 0) = true then some id else none
    | _ => none) = nmF env.kindOf (line0 ts) := by
    funext x
    cases x <;> rfl
  simp only [e]
  rfl
theorem tup_sw {ts vs : List Expr} {k1 k2 : Nat} {p1 p2 : Pos} (ok : XOkS X cs sc Γ W cv) (h : tupB sc ts = true) : swappedStores [.Tuple ts k1 p1] (.Tuple vs k2 p2) X.env = pure none := by
  rw [sw_unf]
  split
  · rfl
  split
  · rfl
  rw [if_pos]
  rw [kindOf_fun ok]
  unfold tupB at h
  rw [h]
  rfl
theorem par_sw {ts vs : List Expr} {k1 k2 : Nat} {p1 p2 : Pos} (ok : XOkS X cs sc Γ W cv) (h : parB sc ts vs = true) : swappedStores [.Tuple ts k1 p1] (.Tuple vs k2 p2) X.env = pure (some (ts.filterMap (nmF (fun x => sc.names.lookup x) (line0 ts)))) := by
  unfold parB at h
  simp only [Bool.and_eq_true, beq_iff_eq, Bool.not_eq_true'] at h
  obtain ⟨⟨⟨⟨⟨⟨h1, h2⟩, h3⟩, h4⟩, h5⟩, h6⟩, h7⟩ := h
  rw [sw_unf, kindOf_fun ok, block_eq ok]
  generalize ts.filterMap (nmF (fun x => sc.names.lookup x) (line0 ts)) = nn at h4 h5 ⊢
  have c1 : (nn.length != ts.length) = false := by rw [h4]; exact bne_self_eq_false _
  have c2 : (nn.eraseDups.length != nn.length) = false := by rw [h5]; exact bne_self_eq_false _
  rw [if_neg (by rw [h1, h2]; simp), if_neg (by rw [h3]; decide), if_neg (by rw [c1, c2]; decide), if_neg (by rw [h6]; decide), if_neg (by rw [h7]; decide)]
theorem nmF_all (k : Str → Option NameKind) (line : Nat) : ∀ ts : List Expr, (ts.filterMap (nmF k line)).length = ts.length → ∀ x p, Expr.Name x p ∈ ts → k x = some .local
  | [], _, _, _, m => by cases m
  | e :: r, h, x, p, m => by
    have hr := List.length_filterMap_le (nmF k line) r
    cases he : nmF k line e with
    | none =>
      rw [List.filterMap_cons_none he] at h
      simp only [List.length_cons] at h
      omega
    | some y =>
      rw [List.filterMap_cons_some he] at h
      simp only [List.length_cons, Nat.add_right_cancel_iff] at h
      rcases List.mem_cons.mp m with rfl | m
      · by_cases q : (k x == some .local && p.line == line) = true
        · simp only [Bool.and_eq_true, beq_iff_eq] at q
          exact q.1
        · simp only [nmF, if_neg q] at he
          cases he
      · exact nmF_all k line r h x p m
theorem nmF_names (k : Str → Option NameKind) (line : Nat) : ∀ ts : List Expr, (ts.filterMap (nmF k line)).length = ts.length → ts.filterMap (nmF k line) = ts.map fun e => match e with | .Name x _ => x | _ => ("" : Str)
  | [], _ => rfl
  | e :: r, h => by
    have hr := List.length_filterMap_le (nmF k line) r
    cases he : nmF k line e with
    | none =>
      rw [List.filterMap_cons_none he] at h
      simp only [List.length_cons] at h
      omega
    | some y =>
      rw [List.filterMap_cons_some he] at h ⊢
      simp only [List.length_cons, Nat.add_right_cancel_iff] at h
      rw [nmF_names k line r h, List.map_cons]
      congr 1
      cases e <;> first | (cases he; done) | skip
      rename_i x p
      by_cases q : (k x == some .local && p.line == line) = true
      · simp only [nmF, if_pos q] at he
        exact (Option.some.inj he).symm
      · simp only [nmF, if_neg q] at he
        cases he
theorem len2 {α : Type} : ∀ {l : List α}, l.length = 2 → ∃ a b, l = [a, b]
  | [a, b], _ => ⟨a, b, rfl⟩
theorem len3 {α : Type} : ∀ {l : List α}, l.length = 3 → ∃ a b c, l = [a, b, c]
  | [a, b, c], _ => ⟨a, b, c, rfl⟩
theorem sole_no {e : Expr} (h : isLC e = false) (t : Expr) (l : Nat) (env : PySem.Env) : swapsWithSole [t] e l env = pure false := by
  show swapsWith e (some t) l env = pure false
  exact sw_no h _ _ _
theorem ss_par {l : List Nat} {e : IE} {ts vs : List Expr} {k1 k2 : Nat} {p1 p2 pos : Pos} (ok : XOkS X cs sc Γ W cv) (h1 : parB sc ts vs = true) (hl : l.Nodup) (h2 : chkNs cs.N sc l ts = true) (h3 : chkA cs sc e vs = true) :
    SS X W cv (tSt X (.Assign [.Tuple ts k1 p1] (.Tuple vs k2 p2) pos)) (wpS Γ (.par l e)) := by
  intro ρ S D h σ H α er s D' po pins st I
  rw [wpS] at h
  have sw := par_sw (k1 := k1) (k2 := k2) (p1 := p1) (p2 := p2) ok h1
  have h1' := h1
  unfold parB at h1'
  simp only [Bool.and_eq_true, beq_iff_eq, Bool.not_eq_true'] at h1'
  obtain ⟨⟨⟨⟨⟨⟨a1, a2⟩, a3⟩, a4⟩, a5⟩, a6⟩, a7⟩ := h1'
  rw [nmF_names _ _ _ a4] at sw
  have loc := nmF_all _ _ _ a4
  have hs : swapsWithSole [.Tuple ts k1 p1] (.Tuple vs k2 p2) pos.line X.env = pure false := rfl
  have SAe := (sndA e sc vs X W ok.ok h3).1
  have tl := ns_len h2
  have t23 : ts.length = 2 ∨ ts.length = 3 := by simpa using a1
  rcases t23 with t2 | t2
  · obtain ⟨t1, t2', rfl⟩ := len2 t2
    obtain ⟨a, b, rfl⟩ := len2 (show vs.length = 2 from a2)
    obtain ⟨i, j, rfl⟩ := len2 (show l.length = 2 from tl.symm)
    simp only [chkNs, Bool.and_eq_true] at h2
    obtain ⟨x, px, rfl, x1, x2⟩ := chkN_name h2.1
    obtain ⟨y, py, rfl, y1, y2⟩ := chkN_name h2.2.1
    have lx : X.env.scope.names.lookup x = some .local := by rw [ok.esc]; exact loc x px (by simp)
    have ly : X.env.scope.names.lookup y = some .local := by rw [ok.esc]; exact loc y py (by simp)
    refine (ps_par (i := i) (j := j) ok.ok.calm ok.ok.nd (by rw [ok.ok.hN]; exact x1) (by rw [ok.ok.hN]; exact y1) (by simp at hl; exact hl) lx ly (pa_sem X [a, b]) sw hs).run pins st σ H D' I ?_
    refine SAe ρ S _ _ h σ H α er s _ (fun ds S1 α1 H1 vs q hlen l1 s1 rv => ?_) (po.rs σ)
    match ds, vs, rv, q with
    | [d1, d2], _, .cons (v := v1) r1 (.cons (v := v2) r2 .nil), q =>
      obtain ⟨ρ2, e2, q⟩ := q
      cases e2
      exact ⟨v1, v2, rfl, po.nx _ _ _ _ _ q l1 s1 (er_set (er_set (er.mono l1) r1) r2)⟩
  · obtain ⟨t1, t2', t3, rfl⟩ := len3 t2
    obtain ⟨a, b, c, rfl⟩ := len3 (show vs.length = 3 from a2)
    obtain ⟨i, j, k, rfl⟩ := len3 (show l.length = 3 from tl.symm)
    simp only [chkNs, Bool.and_eq_true] at h2
    obtain ⟨x, px, rfl, x1, x2⟩ := chkN_name h2.1
    obtain ⟨y, py, rfl, y1, y2⟩ := chkN_name h2.2.1
    obtain ⟨z, pz, rfl, z1, z2⟩ := chkN_name h2.2.2.1
    have lx : X.env.scope.names.lookup x = some .local := by rw [ok.esc]; exact loc x px (by simp)
    have ly : X.env.scope.names.lookup y = some .local := by rw [ok.esc]; exact loc y py (by simp)
    have lz : X.env.scope.names.lookup z = some .local := by rw [ok.esc]; exact loc z pz (by simp)
    simp only [List.nodup_cons, List.mem_cons, List.not_mem_nil, or_false, not_or, not_false_eq_true, List.nodup_nil, and_true] at hl
    refine (ps_par3 (i := i) (j := j) (l := k) ok.ok.calm ok.ok.nd (by rw [ok.ok.hN]; exact x1) (by rw [ok.ok.hN]; exact y1) (by rw [ok.ok.hN]; exact z1) hl.1.1 hl.1.2 hl.2 lx ly lz (pa_sem X [a, b, c]) sw hs).run pins st σ H D' I ?_
    refine SAe ρ S _ _ h σ H α er s _ (fun ds S1 α1 H1 vs q hlen l1 s1 rv => ?_) (po.rs σ)
    match ds, vs, rv, q with
    | [d1, d2, d3], _, .cons (v := v1) r1 (.cons (v := v2) r2 (.cons (v := v3) r3 .nil)), q =>
      obtain ⟨ρ2, e2, q⟩ := q
      cases e2
      exact ⟨v1, v2, v3, rfl, po.nx _ _ _ _ _ q l1 s1 (er_set (er_set (er_set (er.mono l1) r1) r2) r3)⟩
theorem ss_tupT {l : List Nat} {e : IE} {ts : List Expr} {v : Expr} {k1 : Nat} {p1 pos : Pos} (ok : XOkS X cs sc Γ W cv) (hT : chkT cs.N sc (.tp l) (.Tuple ts k1 p1) = true) (hlc : isLC v = false) (hw : swappedStores [.Tuple ts k1 p1] v X.env = pure none) (hE : chkE cs sc e v = true) :
    SS X W cv (tSt X (.Assign [.Tuple ts k1 p1] v pos)) (wpS Γ (.asg (.tp l) e)) := by
  intro ρ S D h σ H α er s D' po pins st I
  rw [wpS] at h
  refine (ps_asg (pe_sem X v) (pg_of ok.ok hT) (sole_no hlc _ _ _) hw rfl).run pins st σ H D' I ?_
  refine sndE e sc v X W ok.ok hE ρ S _ _ h σ H α er s _ (fun d S1 α1 H1 w q l1 s1 rv => ?_) (po.rs σ)
  obtain ⟨ρ2, e2, q⟩ := q
  exact g_of (t := .tp l) e2 rv (er.mono l1) fun σ2 er2 _ => po.nx _ _ _ _ _ q l1 s1 er2
theorem ss_asg {t : Tg} {e : IE} {tg v : Expr} {pos : Pos} (ok : XOkS X cs sc Γ W cv) (hT : chkT cs.N sc t tg = true) (hE : chkE cs sc e v = true) (hA : (asgB sc tg v || tup2 sc tg v) = true) :
    SS X W cv (tSt X (.Assign [tg] v pos)) (wpS Γ (.asg t e)) := by
  cases t with
  | nm i =>
    obtain ⟨x, p, rfl, h1, h2⟩ := chkN_name (show chkN cs.N sc i tg = true from hT)
    rw [Bool.or_eq_true] at hA
    refine ss_name ok hT ?_ hE
    rcases hA with hA | hA
    · exact hA
    · cases v <;> cases hA
  | tp l =>
    cases tg <;> first | (cases hT; done) | skip
    rename_i ts k p
    rw [Bool.or_eq_true] at hA
    rcases hA with hA | hA
    · simp only [asgB, Bool.and_eq_true, Bool.not_eq_true'] at hA
      refine ss_tupT ok hT hA.1 ?_ hE
      cases v <;> first | rfl | (cases hA.2; done)
    · cases v <;> first | (cases hA; done) | skip
      exact ss_tupT ok hT rfl (tup_sw ok hA) hE
theorem ss_aug {i : Nat} {e : IE} {t v : Expr} {pos : Pos} (ok : XOkS X cs sc Γ W cv) (hT : chkN cs.N sc i t = true) (hE : chkE cs sc e v = true) : SS X W cv (tSt X (.AugAssign t .Add v pos)) (wpS Γ (.aug i e)) := by
  intro ρ S D h σ H α er s D' po pins st I
  rw [wpS] at h
  obtain ⟨x, p, rfl, h1, h2⟩ := chkN_name hT
  obtain ⟨a, ha, h⟩ := h
  obtain ⟨l1, l2⟩ := ok.ok.loc x h2
  obtain ⟨v', ev, rv⟩ := er.at_ i _ ha
  cases rv
  refine (ps_aug (i := i) ok.ok.nd (by rw [ok.ok.hN]; exact h1) l1 (pe_sem X v) ip_add l2).run pins st σ H D' I ⟨_, ev, ?_⟩
  refine sndE e sc v X W ok.ok hE ρ S _ _ h σ H α er s _ (fun d S1 α1 H1 w q l1 s1 rv => ?_) (po.rs σ)
  obtain ⟨b, rfl, q⟩ := q
  cases rv
  exact ⟨_, _, rfl, rfl, po.nx _ _ _ _ _ q l1 s1 (er_set (er.mono l1) (.int _))⟩
theorem sub_assign {o i : Expr} {pos : Pos} {env : PySem.Env} (ns : noSet i = true) (v : Value) : assign (.Subscript o i pos) env v = (do
      let xo ← holding [v] (eval o env)
      let xi ← holding [v, xo] (eval i env)
      standAt pos
      holding [v, xo, xi] (setItem xo xi v)
      release [v, xo, xi] []) := by
  cases i <;> first | rfl | cases ns
theorem ss_setsub {o i e : IE} {a b v : Expr} {pos p : Pos} (ok : XOkS X cs sc Γ W cv) (hlc : isLC v = false) (ho : chkE cs sc o a = true) (hi : chkE cs sc i b = true) (hE : chkE cs sc e v = true) : SS X W cv (tSt X (.Assign [.Subscript a b p] v pos)) (wpS Γ (.setsub o i e)) := by
  intro ρ S D h σ H α er s D' po pins st I
  rw [wpS] at h
  obtain ⟨t, ht, hv⟩ := snd_set (X := X) (by have := ok.ok.units; omega)
  refine (ps_asg (pe_sem X v) (pg_sub (pe_sem X a) (pe_sem X b) ht (sub_assign (chkE_noSet hi))) (sole_no hlc _ _ _) rfl rfl).run pins st σ H D' I ?_
  refine sndE e sc v X W ok.ok hE ρ S _ _ h σ H α er s _ (fun d S1 α1 H1 w q l1 s1 rv => ?_) (po.rs σ)
  refine sndE o sc a X W ok.ok ho ρ S1 _ _ q σ H1 α1 (er.mono l1) s1 _ (fun d2 S2 α2 H2 w2 q2 l2 s2 rv2 => ?_) ((po.rs σ).le l1)
  refine sndE i sc b X W ok.ok hi ρ S2 _ _ q2 σ H2 α2 (er.mono (l1.trans l2)) s2 _ (fun d3 S3 α3 H3 w3 q3 l3 s3 rv3 => ?_) ((po.rs σ).le (l1.trans l2))
  refine hv _ _ _ _ _ _ _ _ _ _ _ q3 s3 (rv2.mono l3) rv3 (rv.mono (l2.trans l3)) fun S4 α4 H4 q4 l4 s4 => ?_
  have l14 := ((l1.trans l2).trans l3).trans l4
  exact po.nx _ _ _ _ _ q4 l14 s4 (er.mono l14)
theorem ss_augsub {o i e : IE} {a b v : Expr} {pos p : Pos} (ok : XOkS X cs sc Γ W cv) (ho : chkE cs sc o a = true) (hi : chkE cs sc i b = true) (hE : chkE cs sc e v = true) : SS X W cv (tSt X (.AugAssign (.Subscript a b p) .Add v pos)) (wpS Γ (.augsub o i e)) := by
  intro ρ S D h σ H α er s D' po pins st I
  rw [wpS] at h
  have nb := chkE_noSet hi
  refine (ps_augS (pe_sem X a) (pe_sem X b) get_list (pe_sem X v) ip_add set_list (fun ov iv new => by cases b <;> first | rfl | cases nb)).run pins st σ H D' I ?_
  refine sndE o sc a X W ok.ok ho ρ S _ _ h σ H α er s _ (fun d S1 α1 H1 w q l1 s1 rv => ?_) (po.rs σ)
  refine sndE i sc b X W ok.ok hi ρ S1 _ _ q σ H1 α1 (er.mono l1) s1 _ (fun d2 S2 α2 H2 w2 q2 l2 s2 rv2 => ?_) ((po.rs σ).le l1)
  obtain ⟨n, k, xs, z, rfl, rfl, g, hz, hk, q⟩ := q2
  cases rv with | ref ra =>
  rename_i ad
  cases rv2
  have ra2 := l2.al _ _ ra
  obtain ⟨vs, hl, r⟩ := s2.lst g ra2
  obtain ⟨w, hw, rw'⟩ := r.get hz
  cases rw'
  refine ⟨_, vs, k, .int z, rfl, rfl, hk, .inl (.inl hl), hw, ?_⟩
  have l12 := l1.trans l2
  refine sndE e sc v X W ok.ok hE ρ S2 _ _ q σ H2 α2 (er.mono l12) s2 _ (fun d3 S3 α3 H3 w3 q3 l3 s3 rv3 => ?_) ((po.rs σ).le l12)
  obtain ⟨c, ys, rfl, g3, hk3, q⟩ := q3
  cases rv3
  have ra3 := l3.al _ _ ra2
  obtain ⟨ws, hl3, r3⟩ := s3.lst g3 ra3
  refine ⟨z, c, rfl, rfl, ?_⟩
  have mu : H3 ad = none ∨ Mut (H3 ad) := .inr (by rw [hl3]; trivial)
  have hix : ixN ws.length (Int.ofNat k) = some k := by
    rw [← r3.length]
    exact (idx_ix (by unfold idx; simp only; rw [if_pos hk3])).1
  refine ⟨_, ws, _, k, rfl, rfl, hl3, hix, ?_⟩
  have l4 := (l12.trans l3).trans (le_upd (K := X.K) (α := α3) (o := .lst (ws.set k (.int (z + c)))) mu)
  exact po.nx _ _ _ _ _ q l4 (s3.write g3 ra3 rfl ⟨_, upd_same, (r3.set (.int _) k).mono (le_upd mu)⟩) (er.mono l4)
theorem ss_seq {a b : IS} {st : Stmt} {rest : List Stmt} (ha : SS X W cv (tSt X st) (wpS Γ a)) (hb : SS X W cv (tSs X rest) (wpS Γ b)) : SS X W cv (tSs X (st :: rest)) (wpS Γ (.seq a b)) := by
  intro ρ S D h σ H α er s D' po pins st I
  rw [wpS] at h
  refine (pss_cons (ps_sem X _) (pss_sem X rest)).run pins st σ H D' I ?_
  refine ha ρ S _ h σ H α er s _ ⟨fun ρ1 S1 α1 H1 σ1 q l1 s1 er1 => ?_, po.rt, po.bk, po.ct, po.rs⟩
  exact hb ρ1 S1 D q σ1 H1 α1 er1 s1 D' (po.le l1)
theorem ss_nil : SS X W cv (tSs X []) (wpS Γ .pass) := by
  intro ρ S D h σ H α er s D' po pins st I
  rw [wpS] at h
  exact (pss_nil (X := X)).run pins st σ H D' I (po.nx _ _ _ _ _ h Le.refl s er)
theorem ss_pass {p : Pos} : SS X W cv (tSt X (.Pass p)) (wpS Γ .pass) := by
  intro ρ S D h σ H α er s D' po pins st I
  rw [wpS] at h
  exact (ps_pass (X := X)).run pins st σ H D' I (po.nx _ _ _ _ _ h Le.refl s er)
theorem ss_ex {e : IE} {v : Expr} {p : Pos} (ok : XOkS X cs sc Γ W cv) (hlc : isLC v = false) (hE : chkE cs sc e v = true) : SS X W cv (tSt X (.Expr v p)) (wpS Γ (.ex e)) := by
  intro ρ S D h σ H α er s D' po pins st I
  rw [wpS] at h
  refine (ps_expr (pe_sem X v) (sw_no hlc _ _ _)).run pins st σ H D' I ?_
  exact sndE e sc v X W ok.ok hE ρ S _ _ h σ H α er s _ (fun d S1 α1 H1 w q l1 s1 rv => po.nx _ _ _ _ _ q l1 s1 (er.mono l1)) (po.rs σ)
theorem ss_ret {e : IE} {v : Expr} {p : Pos} (ok : XOkS X cs sc Γ W cv) (hE : chkE cs sc e v = true) : SS X W cv (tSt X (.Return (some v) p)) (wpS Γ (.ret e)) := by
  intro ρ S D h σ H α er s D' po pins st I
  rw [wpS] at h
  refine (ps_ret (pe_sem X v)).run pins st σ H D' I ?_
  exact sndE e sc v X W ok.ok hE ρ S _ _ h σ H α er s _ po.rt (po.rs σ)
theorem ss_retn {p : Pos} : SS X W cv (tSt X (.Return none p)) (wpS Γ .retn) := by
  intro ρ S D h σ H α er s D' po pins st I
  rw [wpS] at h
  exact (ps_retN (X := X)).run pins st σ H D' I (po.rt _ _ _ _ _ h Le.refl s .non)
theorem ss_brk {p : Pos} : SS X W cv (tSt X (.Break p)) (wpS Γ .brk) := by
  intro ρ S D h σ H α er s D' po pins st I
  rw [wpS] at h
  exact (ps_break (X := X)).run pins st σ H D' I (po.bk _ _ _ _ _ h Le.refl s er)
theorem ss_cnt {p : Pos} : SS X W cv (tSt X (.Continue p)) (wpS Γ .cnt) := by
  intro ρ S D h σ H α er s D' po pins st I
  rw [wpS] at h
  exact (ps_continue (X := X)).run pins st σ H D' I (po.ct _ _ _ _ _ h Le.refl s er)
theorem ss_ite {c : IE} {a b : IS} {t : Expr} {x y : List Stmt} {p : Pos} (ok : XOkS X cs sc Γ W cv) (hC : chkE cs sc c t = true) (ha : SS X W cv (tSs X x) (wpS Γ a)) (hb : SS X W cv (tSs X y) (wpS Γ b)) : SS X W cv (tSt X (.If t x y p)) (wpS Γ (.ite c a b)) := by
  intro ρ S D h σ H α er s D' po pins st I
  rw [wpS] at h
  refine (ps_if (pt_sem X t) (pss_sem X x) (pss_sem X y)).run pins st σ H D' I ?_
  refine sndT c sc t X W ok.ok hC ρ S _ _ h σ H α er s _ (fun k S1 α1 H1 q l1 s1 => ?_) (po.rs σ)
  cases k with
  | true =>
    rw [if_pos rfl] at q ⊢
    exact ha ρ S1 D q σ H1 α1 (er.mono l1) s1 D' (po.le l1)
  | false =>
    rw [if_neg (by decide)] at q ⊢
    exact hb ρ S1 D q σ H1 α1 (er.mono l1) s1 D' (po.le l1)
theorem ss_whl {c : IE} {b : IS} {t : Expr} {x : List Stmt} {p : Pos} (ok : XOkS X cs sc Γ W cv) (hC : chkE cs sc c t = true) (hb : SS X W cv (tSs X x) (wpS Γ b)) : SS X W cv (tSt X (.While t x [] p)) (wpS Γ (.whl c b)) := by
  intro ρ S D h σ H α er s D' po pins st I
  rw [wpS] at h
  obtain ⟨Iv, ⟨m0, i0⟩, step⟩ := h
  refine (ps_while ok.hp (pt_sem X t) (pss_sem X x)).run pins st σ H D' I ?_
  refine ⟨fun m σ' H' => ∃ ρ' S' α', Iv m ρ' S' ∧ Le X.K α H α' H' ∧ Sim X.K S' α' H' ∧ ER X.K α' H' ρ' σ', ⟨m0, ρ, S, α, i0, Le.refl, s, er⟩, fun m σ' H' w => ?_⟩
  obtain ⟨ρ', S', α', hi, l', s', er'⟩ := w
  refine sndT c sc t X W ok.ok hC ρ' S' _ _ (step m ρ' S' hi) σ' H' α' er' s' _ (fun k S1 α1 H1 q l1 s1 => ?_) ((po.rs σ').le l')
  cases k with
  | true =>
    rw [if_pos rfl] at q ⊢
    refine ⟨fun σ2 H2 => ∃ m', m' < m ∧ ∃ ρ' S' α', Iv m' ρ' S' ∧ Le X.K α H α' H2 ∧ Sim X.K S' α' H2 ∧ ER X.K α' H2 ρ' σ2, fun σ2 H2 w => w, ?_⟩
    have l01 := l'.trans l1
    have nx : PostN X.K α1 H1 (fun ρ2 S2 => ∃ m', m' < m ∧ Iv m' ρ2 S2) (fun σ2 H2 => ∃ m', m' < m ∧ ∃ ρ' S' α', Iv m' ρ' S' ∧ Le X.K α H α' H2 ∧ Sim X.K S' α' H2 ∧ ER X.K α' H2 ρ' σ2) := by
      intro ρ2 S2 α2 H2 σ2 q2 l2 s2 er2
      obtain ⟨m', hm, hi'⟩ := q2
      exact ⟨m', hm, ρ2, S2, α2, hi', l01.trans l2, s2, er2⟩
    exact hb ρ' S1 _ q σ' H1 α1 (er'.mono l1) s1 _ ⟨nx, po.rt.le l01, po.nx.le l01, nx, fun σ => (po.rs σ).le l01⟩
  | false =>
    rw [if_neg (by decide)] at q ⊢
    exact po.nx _ _ _ _ _ q (l'.trans l1) s1 (er'.mono l1)
theorem ss_frl {t : Tg} {k : ItK} {its : IE} {b : IS} {tg iter : Expr} {x : List Stmt} {p : Pos} (ok : XOkS X cs sc Γ W cv) (hns : noSet iter = true) (hI : SI X W cv Γ k its tg iter) (hT : chkT cs.N sc t tg = true) (hb : SS X W cv (tSs X x) (wpS Γ b)) :
    SS X W cv (tSt X (.For tg iter x [] p)) (wpS Γ (.frl t k its b)) := by
  intro ρ S D h σ H α er s D' po pins st I
  rw [wpS] at h
  refine (ps_for ok.hp ok.ok.calm (pi_sem X tg iter) (pg_of ok.ok hT) (pss_sem X x) (fun x => by cases iter <;> first | rfl | cases hns)).run pins st σ H D' I ?_
  refine hI ρ S _ _ h σ H α er s _ (fun items keep S1 α1 H1 J q l1 s1 jok => ?_) (po.rs σ)
  obtain ⟨Iv, i0, ik, istep, iend⟩ := q
  refine ⟨fun i m σ' H' => ∃ ρ' S' α', Iv i ρ' S' ∧ Le X.K α1 H1 α' H' ∧ Sim X.K S' α' H' ∧ ER X.K α' H' ρ' σ' ∧ i + m = items.length, ⟨items.length, ρ, S1, α1, i0, Le.refl, s1, er.mono l1, by omega⟩, fun i m σ' H' w => ?_⟩
  obtain ⟨ρ', S', α', hIv, l', s', er', em⟩ := w
  have hj := jok α' S' H' l' s' (ik _ _ _ hIv) i
  by_cases hi : i < items.length
  · have hx : items[i]? = some items[i] := List.getElem?_eq_getElem hi
    obtain ⟨go, yl⟩ := hj.1 _ hx
    refine .inr ⟨go, fun σ2 H2 => ∃ ρ2 S2 α2, Iv (i + 1) ρ2 S2 ∧ Le X.K α1 H1 α2 H2 ∧ Sim X.K S2 α2 H2 ∧ ER X.K α2 H2 ρ2 σ2, fun σ2 H2 w2 => ?_, fun v H2 hy => ?_⟩
    · obtain ⟨ρ2, S2, α2, w1, w2, w3, w4⟩ := w2
      exact ⟨m - 1, by omega, ρ2, S2, α2, w1, w2, w3, w4, by omega⟩
    obtain ⟨l2, s2, rv⟩ := yl v H2 hy
    obtain ⟨ρ2, hset, hbody⟩ := istep i _ ρ' S' hx hIv
    have l02 := l'.trans l2
    refine g_of hset rv (er'.mono l2) fun σ2 er2 _ => ?_
    have nx : PostN X.K α' H2 (Iv (i + 1)) (fun σ2 H2 => ∃ ρ2 S2 α2, Iv (i + 1) ρ2 S2 ∧ Le X.K α1 H1 α2 H2 ∧ Sim X.K S2 α2 H2 ∧ ER X.K α2 H2 ρ2 σ2) := by
      intro ρ3 S3 α3 H3 σ3 q3 l3 s3 er3
      exact ⟨ρ3, S3, α3, q3, l02.trans l3, s3, er3⟩
    have lall := l1.trans l02
    exact hb ρ2 S' _ hbody σ2 H2 α' er2 s2 _ ⟨nx, po.rt.le lall, po.nx.le lall, nx, fun σ => (po.rs σ).le lall⟩
  · refine .inl ⟨hj.2 (by omega), ?_⟩
    have ei : i = items.length := by omega
    rw [ei] at hIv
    exact po.nx _ _ _ _ _ (iend ρ' S' hIv) (l1.trans l') s' er'
end PyI
set_option autoImplicit false
set_option linter.all false
set_option Elab.async false
set_option maxRecDepth 100000
set_option maxHeartbeats 4000000
namespace PyI
open PySem PySem.Spec PyProof.Rows L2
variable {cs : CS} {Γ : Sig} {cv : Nat → Value} {X : Cx} {W : WX} {sc : Scope}
/-! ### raise -/
/-- X() -/
theorem pmk_own0 {X : Cx} {C : Addr} {bmB : List Value} {B newId initId : String} {x : Str} {p pos : Pos} (F : ExcBaseFacts B newId initId bmB) (q : PySem.W.excIn X.K C bmB newId = true) (gC : X.mg x = some (.ref C)) (kC : PySem.W.keepIn X.K (.ref C) = true) (r : Raises X (.ref C)) (hg : Gl X x)
    (hdb : (x == ("__debug__" : Str)) = false) : L2N.PMk X (.Call (.Name x p) [] [] pos) (fun _ H Q => Q (.ref C) none H) := by
  intro pins s σ H Q I h
  refine wpAny_Call_Name_kw (ld_glob I hg gC ?_ hdb)
  refine PySem.W.callWith_K0 I.kIn kC ?_
  show wpAny _ _ (call (.ref C) []) _ _ _
  obtain ⟨bm, N, nm, qn, bs, hdct, sn, sub, ab, col, dd, k0, k1, k2, k3, k5, mN, hC, hN, hni, T⟩ := exc_obj I.kIn q
  refine wpAny_call_exc_subT F T hC hN hni (fun h' e hm => ?_) (by show 0 ≤ sizeLine; omega)
  exact L2N.mk_of I hm r h (I.hok.gone hm.new)
theorem ss_rse {c : Nat} {x : Str} {p1 p2 p : Pos} (ok : XOkS X cs sc Γ W cv) (h1 : cs.gls.lookup x = some (100 + c)) (h2 : glB sc x = true) (h3 : nameOk x = true) : SS X W cv (tSt X (.Raise (some (.Call (.Name x p1) [] [] p2)) none p)) (wpS Γ (.rse c)) := by
  intro ρ S D h σ H α er s D' po pins st I
  rw [wpS] at h
  obtain ⟨C, hc, hm, hk, hx, hsb, hty⟩ := (ok.ok.exc x c h1).ex
  refine (L2N.ps_raise ok.ok.calm ok.ok.tk (pmk_own0 PySem.F.excBase_ValueError hx hm hk (raises_own hsb hty) (ok.ok.gl x h2) (nm1 h3).1)).run pins st σ H D' I ?_
  have := po.rs σ c S α H h Le.refl s
  rw [hc] at this
  exact this
/-! ### except suites -/
theorem grow_le {K : PySem.W.Frag} {α : List Addr} {H H' : Hp} (h : ∀ a o, H a = some o → H' a = some o) : Le K α H α H' :=
  ⟨fun _ _ e => e, fun a xs e => by
    rcases e with (e | ⟨o, e⟩) | e
    · exact .inl (.inl (h _ _ e))
    · exact .inl (.inr ⟨o, h _ _ e⟩)
    · exact .inr e, fun a o u e => h _ _ e⟩
theorem grow_sim {K : PySem.W.Frag} {S : Store} {α : List Addr} {H H' : Hp} (s : Sim K S α H) (h : ∀ a o, H a = some o → H' a = some o) : Sim K S α H' := ⟨s.len, fun n o a e1 e2 => (s.obj n o a e1 e2).keep (grow_le h) (h a), s.inj⟩
/-- _law_which(n) in a suite -/
theorem pe_which {X : Cx} {a : Addr} {oe : Obj} {pn : List (Addr × Obj)} {k c i : Nat} {D : Addr} {f : Addr} {fd : FuncData} {n : Str} {e : Expr} (hN : X.N[i]? = some n) (hn : X.env.scope.names.lookup n = some .local) (hg : Gl X "_law_which") (hm : X.mg "_law_which" = some (.ref f)) (hk : PySem.W.keepIn X.K (.ref f) = true) (hb : Binds X.K fd [("_law_error" : Str)] [])
    (hw : WhichOk X.prog X.w X.K X.mg X.base cv k f fd) (hr : L2H.RoomH k (X.A.mark (some (.ref a)))) (h7 : c < 7) (hc : cv c = .ref D) (hz : L2N.Zn (.ref D) none oe) (hf : ∃ vs, oe.data = .fields vs) (hnm : nameOk n = true) (he : whB sc n e = true) :
    PE (X.suite a ((a, oe) :: pn)) e (fun σ H Q => σ[i]? = some (some (.ref a)) ∧ ∀ t H', H t = none → H' t = some (.tup [.str (ofT raisedT), .int (c : Nat)]) → (∀ b o, H b = some o → H' b = some o) → Q (.ref t) H') := by
  unfold whB at he
  split at he
  · rename_i f' q1 n' q2 q3
    simp only [Bool.and_eq_true, beq_iff_eq] at he
    obtain ⟨⟨rfl, _⟩, rfl⟩ := he
    refine ⟨fun pins s σ H Q I h => ?_⟩
    obtain ⟨h1, h⟩ := h
    refine wpAny_Call_Name_kw (ld_glob I hg hm ?_ (by decide +kernel))
    have pv : PE (X.suite a ((a, oe) :: pn)) (.Name n' q2) _ := pe_var (i := i) hN (.inl hn) (nm1 hnm).1 (nm1 hnm).2.1
    refine PySem.W.callWith_K (h₀ := X.base) I.ok.mod.kin hk (thn ((pa_cons pv pa_nil).run _ pins s σ H (fun vs H1 => vs = [V.ref a] ∧ H = H1) I ⟨_, h1, rfl, rfl⟩) fun us s1 hh => ?_)
    obtain ⟨vs, H1, I1, r1, ev, eH⟩ := hh
    subst ev
    rw [← eH] at I1
    refine ⟨I1.kIn, ?_⟩
    cases r1 with
    | cons ru rn =>
      rename_i u us'
      cases rn
      cases ru
      have P1 := I1.pin (a, oe) (List.mem_append_left _ List.mem_cons_self)
      have hpin : L2H.PinOk X.stack H s1 (a, oe) := ⟨P1.1, P1.2.1, fun hm => (List.mem_cons.mp (I1.stkSub a hm)).elim P1.2.2.1 P1.2.2.2.1, P1.2.2.2.2⟩
      have hot : L2H.Hot1 (X.A.mark (some (.ref a))) (a, oe) := by
        obtain ⟨vs, hv⟩ := hf
        exact ⟨rfl, vs, hv, hz.2.2 vs hv⟩
      have b := hb s1 [Value.ref a] I1.kIn rfl
      rw [List.append_nil] at b
      refine wpAny_call (codeAny_mono (hw c D h7 hc (X.A.mark (some (.ref a))) X.stack s1 H ⟨[.ref a], []⟩ Q (fun _ _ _ => False) (a, oe) hr hot hpin hz.zc I1.env0 b h) fun r s' hq => ?_)
      cases r with
      | error e =>
        obtain ⟨_, _, _, _, _, _, _, _, _, _, _, _, z⟩ := hq
        exact z.elim
      | ok fl =>
        cases fl with
        | ret u => exact I1.after hq
        | next => exact False.elim hq
        | brk => exact False.elim hq
        | cont => exact False.elim hq
  · cases he
theorem suite_room {A : Around} {k : Nat} {v : Option Value} (h : L2H.RoomH (k + 1) A) : L2H.RoomH k (A.mark v) := ⟨by have := h.dp; show A.depth + 3 * k + 5 < _; omega, by have := h.un; show A.units + 16 * k + 200 < _; omega⟩
/-- the names of an except clause with a name -/
theorem ss_triN {b : IS} {k : Nat} {n : Str} {body : List Stmt} {s0 : Stmt} {p1 p2 p : Pos} (ok : XOkS X cs sc Γ W cv) (hx : cs.gls.lookup ("DateError" : Str) = some 99) (hgx : glB sc ("DateError" : Str) = true) (hn : cs.N.contains n = true) (hl : isLocal sc n = true)
    (hsuite : ∀ (a : Addr) (oe : Obj) (pn : List (Addr × Obj)) (c : Nat) (C : Addr) (i : Nat) (D D' : Ends) (S' : Store) (α' : List Addr) (H' : Hp) (σ' : L2.St) (rt : PQ), c < 7 → cv c = .ref C → L2N.Zn (.ref C) none oe → (∃ vs, oe.data = .fields vs) → X.N[i]? = some n → σ'[i]? = some (some (.ref a)) →
      hndl k c S' rt → Sim X.K S' α' H' → Post X.K α' H' rt D.rt → H' a = none → tSs (X.suite a ((a, oe) :: pn)) [s0] D σ' H')
    (hb : ∀ (X' : Cx) (W' : WX), XOkS X' cs sc Γ W' cv → SS X' W' cv (tSs X' body) (wpS Γ b)) :
    SS X W cv (tSt X (.Try body [.ExceptHandler (some (.Name ("DateError" : Str) p1)) (some n) [s0] p2] [] [] p)) (wpS Γ (.tri b k)) := by
  intro ρ S D h σ H α er s D' po pins st I
  rw [wpS] at h
  obtain ⟨kk, HA, hroom⟩ := ok.ok.hot hx
  obtain ⟨DE, hmD, hD⟩ := HA.ex
  obtain ⟨i, hi⟩ : ∃ i, X.N[i]? = some n := by
    rw [ok.ok.hN]
    have : n ∈ cs.N := by simpa using hn
    obtain ⟨i, h1, h2⟩ := List.getElem_of_mem this
    exact ⟨i, by rw [List.getElem?_eq_getElem h1, h2]⟩
  have hloc : X.env.kindOf n = some .local := by
    rw [kindOf_eq ok n]
    unfold isLocal at hl
    simpa using hl
  refine (L2N.ps_try_as (i := i) (tb := fun W' D1 σ1 H1 => ∀ (pn : List (Addr × Obj)) (xe : Value → Shared → Prop), L2N.Takes (X.tr pn xe) W' → PassesOwn (model X.prog X.w) X.A X.env xe → tSs (X.tr pn xe) body D1 σ1 H1)
    (ts := fun a cls d D1 σ1 H1 => ∀ (oe : Obj) (pn : List (Addr × Obj)), L2N.Zn cls d oe → (∃ vs, oe.data = .fields vs) → tSs (X.suite a ((a, oe) :: pn)) [s0] D1 σ1 H1)
    ok.stk ok.frm ok.ok.nd hi hloc ⟨ok.ok.gl _ hgx, by decide +kernel, .inl hmD⟩ ok.ok.tk (fun W' pn xe tk hp => ⟨fun pins s σ H D I h => h pn xe tk hp pins s I⟩) (fun a oe cls d pn hz hf => ⟨fun pins s σ H D I h => h oe pn hz hf pins s I⟩)).run pins st σ H D' I ?_
  intro pn xe tk hp
  have ok' : XOkS (X.tr pn xe) cs sc Γ (wAs X.K (.ref DE) i (fun a cls d D1 σ1 H1 => ∀ (oe : Obj) (pn : List (Addr × Obj)), L2N.Zn cls d oe → (∃ vs, oe.data = .fields vs) → tSs (X.suite a ((a, oe) :: pn)) [s0] D1 σ1 H1) W D') cv :=
    ⟨⟨ok.ok.hN, ok.ok.nd, ok.ok.vis, ok.ok.loc, ok.ok.fre, ok.ok.gl, ok.ok.calm, ok.ok.units, ok.ok.fn, ok.ok.lng, ok.ok.glo, ok.ok.blt, tk, ok.ok.exc, ok.ok.hot, ok.ok.fmt, ok.ok.cls, ok.ok.mts⟩, ok.esc, ok.kind, hp, ok.stk, ok.frm⟩
  refine hb _ _ ok' ρ S _ h σ H α er s D' ⟨po.nx, po.rt, po.bk, po.ct, fun σ' => ?_⟩
  intro c S' α' H' hr l' s'
  obtain ⟨h7, hh⟩ := hr
  obtain ⟨C, hc, hex⟩ := hD c h7
  refine ⟨true, by rw [hc]; exact hex, fun _ a ha oe pn' hz hf => ?_, fun z => by cases z⟩
  rw [hc] at hz
  by_cases hil : i < σ'.length
  · refine hsuite a oe pn' c C i _ D' S' α' H' _ D.rt h7 hc hz hf hi (by rw [List.getElem?_set_self hil]) hh s' (po.rt.le l') ha
  · intro pins1 st1 I1
    exfalso
    have h1 := I1.len
    have h2 := (List.getElem?_eq_some_iff.mp hi).1
    rw [List.length_set] at h1
    have h3 : (X.suite a ((a, oe) :: pn')).N.length = X.N.length := rfl
    omega
theorem loc_of {n : Str} (ok : XOkS X cs sc Γ W cv) (hl : isLocal sc n = true) : X.env.scope.names.lookup n = some .local := by
  rw [ok.esc]
  unfold isLocal at hl
  simpa using hl
theorem whB_gl {n : Str} {e : Expr} (h : whB sc n e = true) : glB sc ("_law_which" : Str) = true := by
  unfold whB at h
  split at h
  · simp only [Bool.and_eq_true, beq_iff_eq] at h
    obtain ⟨⟨rfl, h⟩, _⟩ := h
    exact h
  · cases h
theorem ss_tri {b : IS} {k : Nat} {x : Str} {on : Option Str} {body : List Stmt} {s0 : Stmt} {ss : List Stmt} {p1 p2 p : Pos} (ok : XOkS X cs sc Γ W cv) (h : hB cs sc k x on s0 ss = true) (hb : ∀ (X' : Cx) (W' : WX), XOkS X' cs sc Γ W' cv → SS X' W' cv (tSs X' body) (wpS Γ b)) :
    SS X W cv (tSt X (.Try body [.ExceptHandler (some (.Name x p1)) on (s0 :: ss) p2] [] [] p)) (wpS Γ (.tri b k)) := by
  unfold hB at h
  split at h
  · rename_i n e q1
    simp only [Bool.and_eq_true, beq_iff_eq] at h
    obtain ⟨⟨⟨⟨⟨⟨rfl, hx⟩, hgx⟩, hn⟩, hl⟩, hnm⟩, hw⟩ := h
    obtain ⟨kk, HA, hroom⟩ := ok.ok.hot hx
    obtain ⟨f, fd, hmf, hkf, hbf, hwf⟩ := HA.wh
    refine ss_triN ok hx hgx hn hl (fun a oe pn c C i D D' S' α' H' σ' rt h7 hc hz hf hi hσ hh s' po ha pins st I => ?_) hb
    refine (pss_one (ps_ret (pe_which hi (loc_of ok hl) (ok.ok.gl _ (whB_gl hw)) hmf hkf hbf hwf (suite_room hroom) h7 hc hz hf hnm hw))).run pins st σ' H' D I ⟨hσ, fun t H2 ht hg hext => ?_⟩
    exact po _ S' α' H2 (.ref t) hh (grow_le hext) (grow_sim s' hext) (.tup (.inl (.inl hg)) (.cons (.str _) (.cons (.int _) .nil)))
  · rename_i n e r u1 u2 j u3 u4 u5 u6 u7 u8 u9 u10 u11 u12
    simp only [Bool.and_eq_true, beq_iff_eq] at h
    obtain ⟨⟨⟨⟨⟨⟨⟨⟨rfl, hx⟩, hgx⟩, hn⟩, hl⟩, hnm⟩, hw⟩, rfl⟩, rfl⟩ := h
    obtain ⟨kk, HA, hroom⟩ := ok.ok.hot hx
    obtain ⟨f, fd, hmf, hkf, hbf, hwf⟩ := HA.wh
    refine ss_triN ok hx hgx hn hl (fun a oe pn c C i D D' S' α' H' σ' rt h7 hc hz hf hi hσ hh s' po ha pins st I => ?_) hb
    obtain ⟨h5, hh⟩ := hh
    subst h5
    have hu : (X.suite a ((a, oe) :: pn)).A.units + 64 < cLine := by have := ok.ok.units; show X.A.units + 64 < cLine; omega
    have pw := pe_which (X := X) (pn := pn) (a := a) hi (loc_of ok hl) (ok.ok.gl _ (whB_gl hw)) hmf hkf hbf hwf (suite_room hroom) h7 hc hz hf hnm hw
    refine (pss_one (ps_ret (pe_ifExp (pt_cmpR (op_eqD hu) pw (pe_tup (pa_cons pe_str (pa_cons pe_int pa_nil))) (nomark _)) pe_non (pe_sem _ _)))).run pins st σ' H' D I ?_
    refine ⟨hσ, fun t H2 ht hg hext => ?_⟩
    refine ⟨by show 2 ≤ sizeLine; rw [big_eq]; decide, fun t2 ht2 => ?_⟩
    refine ⟨.tuple [.str (ofT raisedT), .int (5 : Nat)], .tuple [.str (ofT raisedT), .int (5 : Nat)], .tup (.inl (.inl ?_)) (.cons (.str _) (.cons (.int _) .nil)), .tup (.inl (.inl ?_)) (.cons (.str _) (.cons (.int _) .nil)), by decide +kernel, by decide +kernel, ?_⟩
    · rw [upd_ne (fun z => by subst z; exact absurd (hg.symm.trans ht2) nofun)]
      exact hg
    · exact upd_same
    · refine ⟨_, rfl, ?_⟩
      have e1 : PyData.eqv (.tuple [.str (ofT raisedT), .int (5 : Nat)]) (.tuple [.str (ofT raisedT), .int (5 : Nat)]) = true := by decide +kernel
      rw [e1]
      have hx2 : ∀ b o, H' b = some o → (upd H2 t2 (.tup [V.str (ofT raisedT), .int (5 : Nat)])) b = some o := fun b o hb => by
        have h3 := hext b o hb
        rw [upd_ne (fun z => by subst z; exact absurd (h3.symm.trans ht2) nofun)]
        exact h3
      exact po _ S' α' _ .non hh (grow_le hx2) (grow_sim s' hx2) .non
  · rename_i n e q1 q2
    simp only [Bool.and_eq_true, beq_iff_eq] at h
    obtain ⟨⟨⟨⟨⟨⟨rfl, hx⟩, hgx⟩, hn⟩, hl⟩, hnm⟩, hw⟩ := h
    obtain ⟨kk, HA, hroom⟩ := ok.ok.hot hx
    obtain ⟨f, fd, hmf, hkf, hbf, hwf⟩ := HA.wh
    refine ss_triN ok hx hgx hn hl (fun a oe pn c C i D D' S' α' H' σ' rt h7 hc hz hf hi hσ hh s' po ha pins st I => ?_) hb
    have hst : starEach [e] X.env = [(false, eval e X.env)] := by
      unfold whB at hw
      split at hw
      · rfl
      · cases hw
    refine (pss_one (ps_ret (pe_lst (pa_cons (pe_which hi (loc_of ok hl) (ok.ok.gl _ (whB_gl hw)) hmf hkf hbf hwf (suite_room hroom) h7 hc hz hf hnm hw) pa_nil (by rw [show starEach [e] (X.suite a ((a, oe) :: pn)).env = _ from hst]; rfl))))).run pins st σ' H' D I ⟨hσ, fun t H2 ht hg hext => ?_⟩
    refine ⟨by show 1 ≤ sizeLine; rw [big_eq]; decide, fun l hl => ?_⟩
    have s2 := grow_sim s' hext
    exact post_new s2 (po.le (grow_le hext)) hl (.cons (.tup (.inl (.inl hg)) (.cons (.str _) (.cons (.int _) .nil))) .nil) hh
  · simp only [Bool.and_eq_true, beq_iff_eq] at h
    obtain ⟨⟨rfl, hx⟩, hgx⟩ := h
    obtain ⟨C, hC, hmC, hex⟩ := (ok.ok.fmt hx).ex
    intro ρ S D h σ H α er s D' po pins st I
    rw [wpS] at h
    refine (L2N.ps_try_many (l := [(.ref C, fun _ _ _ => tRet (tC (.bl true)))]) (tb := fun W' D1 σ1 H1 => ∀ (pn : List (Addr × Obj)) (xe : Value → Shared → Prop), L2N.Takes (X.tr pn xe) W' → PassesOwn (model X.prog X.w) X.A X.env xe → tSs (X.tr pn xe) body D1 σ1 H1)
      ok.stk ok.frm ok.ok.tk (fun W' pn xe tk hp => ⟨fun pins s σ H D I h => h pn xe tk hp pins s I⟩) (.cons ⟨ok.ok.gl _ hgx, by decide +kernel, .inl hmC⟩ (fun a oe cls d pn _ _ => pss_one (ps_ret pe_bl)) .nil)).run pins st σ H D' I ?_
    intro pn xe tk hp
    have ok' : XOkS (X.tr pn xe) cs sc Γ (wMany X.K W D' [(.ref C, fun _ _ _ => tRet (tC (.bl true)))]) cv :=
      ⟨⟨ok.ok.hN, ok.ok.nd, ok.ok.vis, ok.ok.loc, ok.ok.fre, ok.ok.gl, ok.ok.calm, ok.ok.units, ok.ok.fn, ok.ok.lng, ok.ok.glo, ok.ok.blt, tk, ok.ok.exc, ok.ok.hot, ok.ok.fmt, ok.ok.cls, ok.ok.mts⟩, ok.esc, ok.kind, hp, ok.stk, ok.frm⟩
    refine hb _ _ ok' ρ S _ h σ H α er s D' ⟨po.nx, po.rt, po.bk, po.ct, fun σ' => ?_⟩
    intro c S' α' H' hr l' s'
    obtain ⟨h7, rfl, hh⟩ := hr
    refine ⟨true, by rw [hC]; exact hex, fun _ a ha => ?_, fun z => by cases z⟩
    exact po.rt _ S' α' H' (.bl true) hh l' s' (.bl true)
  · cases h
theorem sw_attr {v o : Expr} {f : Str} {p : Pos} (l : Nat) (env : PySem.Env) : swapsWith v (some (.Attribute o f p)) l env = pure false := by
  unfold swapsWith
  cases v <;> rfl
/-- o.f = e -/
theorem ss_setfld {o e : IE} {f : Nat} {nm : Str} {a v : Expr} {p q : Pos} (ok : XOkS X cs sc Γ W cv) (hf : f < 2) (hn : nm = fldS f) (h1 : cs.gls.lookup ("Reader" : Str) = some 98) (ho : chkE cs sc o a = true) (he : chkE cs sc e v = true) :
    SS X W cv (tSt X (.Assign [.Attribute a nm q] v p)) (wpS Γ (.setfld o f e)) := by
  intro ρ S D h σ H α er s D' po pins st I
  rw [wpS] at h
  obtain ⟨C, hc⟩ := ok.ok.cls h1
  have na : NoAttr X.K C nm := by
    subst hn
    match f, hf with
    | 0, _ => exact hc.n0
    | 1, _ => exact hc.n1
  refine (ps_fld (pe_sem X a) (pe_sem X v) (sw_attr _ _)).run pins st σ H D' I ?_
  refine sndE e sc v X W ok.ok he ρ S _ _ h σ H α er s _ (fun d S1 α1 H1 u q l1 s1 rv => ?_) (po.rs σ)
  refine sndE o sc a X W ok.ok ho ρ S1 _ _ q σ H1 α1 (er.mono l1) s1 _ (fun d2 S2 α2 H2 u2 q2 l2 s2 rv2 => ?_) ((po.rs σ).le l1)
  obtain ⟨m, fs, rfl, gm, hfl, q2⟩ := q2
  cases rv2 with | ref ra =>
  obtain ⟨C', dx, gs, hH, hC, fr⟩ := s2.obj m _ _ gm ra
  have e : C' = C := by have := hC.symm.trans hc.nm; simpa using this
  subst e
  refine ⟨_, C', dx, gs, rfl, hH, hc.cl, na, by rw [← fr.length]; omega, ?_⟩
  subst hn
  have lu : Le X.K α2 H2 α2 (upd H2 _ (.ins C' dx (putF (fldS f) u gs))) := le_upd (.inr (by rw [hH]; trivial))
  have sw := s2.write (o := .ins C' dx (putF (fldS f) u gs)) (y := .ins 0 (putFd f d fs)) gm ra rfl ⟨C', dx, _, upd_same, hc.nm, (fr.mono lu).put hf ((rv.mono l2).mono lu)⟩
  have l := (l1.trans l2).trans lu
  exact po.nx _ _ _ _ _ q2 l sw (er.mono l)
mutual
theorem sndS : ∀ (is : IS) (st : Stmt) (X : Cx) (W : WX), XOkS X cs sc Γ W cv → chkS cs sc is st = true → SS X W cv (tSt X st) (wpS Γ is)
  | .pass, st, X, W, ok, h => by
    cases st <;> first | (simp [chkS] at h; done) | skip
    exact ss_pass
  | .asg t e, st, X, W, ok, h => by
    cases st <;> first | (simp [chkS] at h; done) | skip
    rename_i tgs v p
    match tgs, h with
    | [tg], h =>
      simp only [chkS, Bool.and_eq_true] at h
      exact ss_asg ok h.1.1 h.1.2 h.2
  | .par l e, st, X, W, ok, h => by
    cases st <;> first | (simp [chkS] at h; done) | skip
    rename_i tgs v p
    match tgs, v, h with
    | [.Tuple ts k1 p1], .Tuple vs k2 p2, h =>
      simp only [chkS, Bool.and_eq_true, decide_eq_true_eq] at h
      exact ss_par ok h.1.1.1 h.1.1.2 h.1.2 h.2
  | .aug i e, st, X, W, ok, h => by
    cases st <;> first | (simp [chkS] at h; done) | skip
    rename_i t op v p
    cases op <;> first | (simp [chkS] at h; done) | skip
    simp only [chkS, Bool.and_eq_true] at h
    exact ss_aug ok h.1 h.2
  | .setsub o i e, st, X, W, ok, h => by
    cases st <;> first | (simp [chkS] at h; done) | skip
    rename_i tgs v p
    match tgs, h with
    | [.Subscript a b q], h =>
      simp only [chkS, Bool.and_eq_true, Bool.not_eq_true'] at h
      exact ss_setsub ok h.1.1.1 h.1.1.2 h.1.2 h.2
  | .augsub o i e, st, X, W, ok, h => by
    cases st <;> first | (simp [chkS] at h; done) | skip
    rename_i t op v p
    match t, op, h with
    | .Subscript a b q, .Add, h =>
      simp only [chkS, Bool.and_eq_true] at h
      exact ss_augsub ok h.1.1 h.1.2 h.2
  | .ex e, st, X, W, ok, h => by
    cases st <;> first | (simp [chkS] at h; done) | skip
    simp only [chkS, Bool.and_eq_true, Bool.not_eq_true'] at h
    exact ss_ex ok h.1 h.2
  | .ret e, st, X, W, ok, h => by
    cases st <;> first | (simp [chkS] at h; done) | skip
    rename_i v p
    cases v <;> first | (simp [chkS] at h; done) | skip
    simp only [chkS] at h
    exact ss_ret ok h
  | .retn, st, X, W, ok, h => by
    cases st <;> first | (simp [chkS] at h; done) | skip
    rename_i v p
    cases v <;> first | (simp [chkS] at h; done) | skip
    exact ss_retn
  | .ite c a b, st, X, W, ok, h => by
    cases st <;> first | (simp [chkS] at h; done) | skip
    simp only [chkS, Bool.and_eq_true] at h
    exact ss_ite ok h.1.1 (sndB a _ X W ok h.1.2) (sndB b _ X W ok h.2)
  | .whl c b, st, X, W, ok, h => by
    cases st <;> first | (simp [chkS] at h; done) | skip
    rename_i t x oe p
    cases oe <;> first | (simp [chkS] at h; done) | skip
    simp only [chkS, Bool.and_eq_true] at h
    exact ss_whl ok h.1 (sndB b _ X W ok h.2)
  | .frl t k its b, st, X, W, ok, h => by
    cases st <;> first | (simp [chkS] at h; done) | skip
    rename_i tg iter x oe p
    cases oe <;> first | (simp [chkS] at h; done) | skip
    simp only [chkS, Bool.and_eq_true] at h
    obtain ⟨⟨⟨hns, hit⟩, hT⟩, hb⟩ := h
    refine ss_frl ok hns ?_ hT (sndB b _ X W ok hb)
    cases hi : iterArgs sc k tg iter with
    | none => simp only [hi, Bool.false_eq_true] at hit
    | some es =>
      simp only [hi] at hit
      have := sndA its sc es X W ok.ok hit
      exact snd_iter ok.ok hi (chkA_len hit) this.1 this.2
  | .brk, st, X, W, ok, h => by
    cases st <;> first | (simp [chkS] at h; done) | skip
    exact ss_brk
  | .cnt, st, X, W, ok, h => by
    cases st <;> first | (simp [chkS] at h; done) | skip
    exact ss_cnt
  | .nev, st, X, W, ok, h => by
    intro ρ S D h
    rw [wpS] at h
    exact h.elim
  | .seq _ _, st, X, W, ok, h => by cases st <;> simp [chkS] at h
  | .setfld o f e, st, X, W, ok, h => by
    cases st <;> first | (simp [chkS] at h; done) | skip
    rename_i tgs v p
    match tgs, h with
    | [.Attribute a nm q], h =>
      simp only [chkS, Bool.and_eq_true, beq_iff_eq, decide_eq_true_eq] at h
      obtain ⟨⟨⟨⟨h1, h2⟩, h3⟩, h4⟩, h5⟩ := h
      exact ss_setfld ok h1 h2 h3 h4 h5
  | .rse c, st, X, W, ok, h => by
    cases st <;> first | (simp [chkS] at h; done) | skip
    rename_i e o p
    match e, o, h with
    | some (.Call (.Name x p1) [] [] p2), none, h =>
      simp only [chkS, Bool.and_eq_true, beq_iff_eq] at h
      exact ss_rse ok h.1.1 h.1.2 h.2
  | .tri b k, st, X, W, ok, h => by
    cases st <;> first | (simp [chkS] at h; done) | skip
    rename_i body hs oe fb p
    match hs, oe, fb, h with
    | [.ExceptHandler (some (.Name x p1)) on (s0 :: ss) p2], [], [], h =>
      simp only [chkS, Bool.and_eq_true] at h
      exact ss_tri ok h.2 fun X' W' ok' => sndB b body X' W' ok' h.1
theorem sndB : ∀ (is : IS) (sts : List Stmt) (X : Cx) (W : WX), XOkS X cs sc Γ W cv → chkB cs sc is sts = true → SS X W cv (tSs X sts) (wpS Γ is)
  | .pass, sts, X, W, ok, h => by
    cases sts with
    | nil => exact ss_nil
    | cons s r => simp [chkB] at h
  | .seq a b, sts, X, W, ok, h => by
    cases sts with
    | nil => simp [chkB] at h
    | cons s r =>
      simp only [chkB, Bool.and_eq_true] at h
      exact ss_seq (sndS a s X W ok h.1) (sndB b r X W ok h.2)
  | .asg _ _, sts, X, W, ok, h => by cases sts <;> simp [chkB] at h
  | .par _ _, sts, X, W, ok, h => by cases sts <;> simp [chkB] at h
  | .aug _ _, sts, X, W, ok, h => by cases sts <;> simp [chkB] at h
  | .setsub _ _ _, sts, X, W, ok, h => by cases sts <;> simp [chkB] at h
  | .augsub _ _ _, sts, X, W, ok, h => by cases sts <;> simp [chkB] at h
  | .setfld _ _ _, sts, X, W, ok, h => by cases sts <;> simp [chkB] at h
  | .ex _, sts, X, W, ok, h => by cases sts <;> simp [chkB] at h
  | .ret _, sts, X, W, ok, h => by cases sts <;> simp [chkB] at h
  | .retn, sts, X, W, ok, h => by cases sts <;> simp [chkB] at h
  | .ite _ _ _, sts, X, W, ok, h => by cases sts <;> simp [chkB] at h
  | .whl _ _, sts, X, W, ok, h => by cases sts <;> simp [chkB] at h
  | .frl _ _ _ _, sts, X, W, ok, h => by cases sts <;> simp [chkB] at h
  | .brk, sts, X, W, ok, h => by cases sts <;> simp [chkB] at h
  | .cnt, sts, X, W, ok, h => by cases sts <;> simp [chkB] at h
  | .rse _, sts, X, W, ok, h => by cases sts <;> simp [chkB] at h
  | .nev, sts, X, W, ok, h => by cases sts <;> simp [chkB] at h
  | .tri _ _, sts, X, W, ok, h => by cases sts <;> simp [chkB] at h
end
end PyI
set_option autoImplicit false
set_option linter.all false
set_option Elab.async false
set_option maxRecDepth 100000
set_option maxHeartbeats 4000000
namespace PyI
open PySem PySem.Spec PyProof.Rows L2
def bltNames : List Str := [("len" : Str), "str", "int", "tuple", "list", "sum", "all", "any", "min", "max", "isinstance", "range", "enumerate", "zip", "bool", "set", "sorted", "dict"]
structure Tab where
  fns : List (Str × (Nat × Nat))
  gls : List (Str × Nat)
  mts : List (Str × (Nat × Nat))
/-- what stands around a def: the defs that it may call, the constants, the built-ins -/
structure GOk (P : Program) (w : World) (K : PySem.W.Frag) (mg : Str → Option Value) (base : Heap) (T : Tab) (Γ : Sig) (cv : Nat → Value) (k : Nat) : Prop where
  fn : ∀ x f n, T.fns.lookup x = some (f, n) → ∃ a fd ps, mg x = some (.ref a) ∧ FnOk P w K mg base (L2N.CX P w) k a fd ps (spOf K (Γ.ct f) n cv) ∧ PySem.W.keepIn K (.ref a) = true ∧ Binds K fd ps []
  lng : ∀ x, T.gls.lookup x = some 10 → ∃ a, mg x = some (.ref a) ∧ ∀ t n, lngT.lookup t = some n → KDct K w a (ofT t) (.int n)
  glo : ∀ x g, g < 10 → T.gls.lookup x = some g → ∃ v u u', Γ.gl g = some v ∧ mg x = some u ∧ RelV u' u ∧ ∀ α H, VR K α H v u'
  blt : ∀ x : Str, x ∈ bltNames → mg x = none
  exc : ∀ x c, T.gls.lookup x = some (100 + c) → ExcAt K mg x (cv c)
  hot : T.gls.lookup ("DateError" : Str) = some 99 → ∃ j, j + 1 ≤ k ∧ HotAt P w K mg base cv j
  fmt : T.gls.lookup ("InvalidFormat" : Str) = some 106 → FmtAt K mg cv
  cls : T.gls.lookup ("Reader" : Str) = some 98 → ∃ C, ClsAt K mg C
  mts : ∀ m f n, T.mts.lookup m = some (f, n) → ∃ C ad fd ps j, ClsAt K mg C ∧ Meth K C m ad ∧ FnOk P w K mg base (L2N.CX P w) j ad fd ps (spOf K (Γ.ct f) n cv) ∧ j + 1 ≤ k ∧ Binds K fd ps [] ∧ (m = ("__init__" : Str) → Mk K C ad)
section
variable {P : Program} {w : World} {K : PySem.W.Frag} {mg : Str → Option Value} {base : Heap} {Γ : Sig} {cv : Nat → Value}
theorem GOk.mono {T : Tab} {j k : Nat} (g : GOk P w K mg base T Γ cv j) (h : j ≤ k) : GOk P w K mg base T Γ cv k :=
  ⟨fun x f n e => let ⟨a, fd, ps, h1, h2, h3, h4⟩ := g.fn x f n e; ⟨a, fd, ps, h1, h2.mono h, h3, h4⟩, g.lng, g.glo, g.blt, g.exc, fun q => let ⟨j, h1, h2⟩ := g.hot q; ⟨j, Nat.le_trans h1 h, h2⟩, g.fmt, g.cls, fun m f n e => let ⟨C, ad, fd, ps, j, h1, h2, h3, h4, h5⟩ := g.mts m f n e; ⟨C, ad, fd, ps, j, h1, h2, h3, Nat.le_trans h4 h, h5⟩⟩
theorem vrs_get {α : List Addr} {H : Hp} : ∀ {ds : List PV} {vs : List V} {i : Nat} {d : PV}, VRs K α H ds vs → getv (ds.map some) i = some d → ∃ v, (vs.map some)[i]? = some (some v) ∧ VR K α H d v := fun {ds vs i d} r h => by
  have h' := getv_eq h
  rw [List.getElem?_map] at h'
  obtain ⟨x, h1, h2⟩ := Option.map_eq_some_iff.mp h'
  cases h2
  obtain ⟨v, h3, h4⟩ := r.get h1
  exact ⟨v, by rw [List.getElem?_map, h3]; rfl, h4⟩
theorem er_start {α : List Addr} {H : Hp} {N : List Str} {ds : List PV} {vs : List V} (r : VRs K α H ds vs) (hl : ds.length ≤ N.length) : ER K α H (PyI.start N.length ds) (L2.start N vs) := by
  have e := r.length
  refine ⟨by unfold PyI.start L2.start; simp [e], fun i d h => ?_⟩
  have h' := getv_eq h
  unfold PyI.start at h'
  by_cases hi : i < ds.length
  · rw [List.getElem?_append_left (by simpa using hi)] at h'
    obtain ⟨v, h1, h2⟩ := vrs_get r (getv_of h')
    refine ⟨v, ?_, h2⟩
    unfold L2.start
    rw [List.getElem?_append_left (by simp [← e]; exact hi)]
    exact h1
  · rw [List.getElem?_append_right (by simp; omega)] at h'
    rw [List.getElem?_replicate] at h'
    split at h' <;> cases h'
/-- as the kit's rule, with the other kind of context -/
theorem okN {x qual : Str} {st : Stmt} {f : Addr} {fd : FuncData} {N ps : List Str} {k : Nat} {sp : Sp} (F : Fun K x qual st f fd) (S : FnScope N ps (defScope st)) (len : ∀ vs H Q E, sp vs H Q E → vs.length = ps.length)
    (hbody : ∀ (cdv : Value) (A : Around) (outer : List PySem.Env) (s : Shared) (H : Hp) (vs : List V) (Q : VK) (E : XK), Room k (A.deeper (envOfC qual (defScope st) s.heap.objs.size f cdv)) → sp vs H Q E →
      ∃ t, PSs (cxOf (L2N.CX P w) P w K mg base N qual (defScope st) f cdv A outer s H E) (defBody st) t ∧ t { nx := fun _ H' => Q .non H', rt := Q } (L2.start N vs) H) : FnOk P w K mg base (L2N.CX P w) (k + 1) f fd ps sp := by
  obtain ⟨oc, od, kV, doc, pm, an, cdv, ct, osl, rfl, lk, hcd⟩ := F.ex
  exact fn_of lk hcd S len fun A outer s H vs Q E hr hsp => hbody cdv A outer s H vs Q E hr hsp
theorem def_ok {x qual : Str} {st : Stmt} {f : Addr} {fd : FuncData} {N ps : List Str} {k n : Nat} {T : Tab} {ct : Ct} {body : IS} (F : Fun K x qual st f fd) (S : FnScope N ps (defScope st)) (hn : n = N.length) (g : GOk P w K mg base T Γ cv k)
    (hb : chkB ⟨N, T.fns, T.gls, T.mts⟩ (defScope st) body (defBody st) = true) (h : ∀ vs S Q R, ct vs S Q R → wpB Γ n body vs S Q R) : FnOk P w K mg base (L2N.CX P w) (k + 1) f fd ps (spOf K ct ps.length cv) := by
  subst hn
  refine okN F S (fun vs H Q E h => ?_) fun cdv A outer s H vs Q E hr hsp => ?_
  · obtain ⟨α, S, ds, _, _, e, _, r, _⟩ := h
    rw [← r.length, e]
  obtain ⟨α, S0, ds, Q0, R0, e, sim, r, hc, po, pr⟩ := hsp
  refine ⟨_, pss_sem _ _, ?_⟩
  have hu : (cxOf (L2N.CX P w) P w K mg base N qual (defScope st) f cdv A outer s H E).A.units + 65 < cLine := by
    have h1 : (A.deeper (envOfC qual (defScope st) s.heap.objs.size f cdv)).units + 16 * k + 200 < cLine := hr.un
    show (A.deeper (envOfC qual (defScope st) s.heap.objs.size f cdv)).units + 65 < cLine
    omega
  have ok : XOkS (cxOf (L2N.CX P w) P w K mg base N qual (defScope st) f cdv A outer s H E) ⟨N, T.fns, T.gls, T.mts⟩ (defScope st) Γ (fun cls d _ H => E cls d H) cv := by
    refine ⟨⟨rfl, S.nd, fun x h => ?_, fun x h => ?_, fun x h => h, fun x h => ?_, rfl, hu, fun x f n e => ?_, g.lng, g.glo, g.blt, L2N.takes_of rfl rfl rfl rfl, g.exc, fun q => ?_, g.fmt, g.cls, fun m f n e => ?_⟩, rfl, S.kind, passes_of rfl, rfl, rfl⟩
    · unfold visB at h
      split at h <;> first | (cases h; done) | skip
      · rename_i q; exact .inl q
      · rename_i q; exact .inr (.inl q)
      · rename_i q; exact .inr (.inr q)
    · unfold locB at h
      split at h <;> first | (cases h; done) | skip
      · rename_i q; exact ⟨.inl q, .inl rfl⟩
      · rename_i q; exact ⟨.inr q, .inl rfl⟩
    · unfold glB at h
      split at h <;> first | (cases h; done) | skip
      rename_i q; exact q
    · obtain ⟨a, fd, ps, h1, h2, h3, h4⟩ := g.fn x f n e
      exact ⟨a, fd, ps, k, h1, h2, hr, h3, h4⟩
    · obtain ⟨j, h1, h2⟩ := g.hot q
      exact ⟨j, h2, L2H.RoomH.mono ⟨hr.dp, hr.un⟩ h1⟩
    · obtain ⟨C, ad, fd, ps, j, h1, h2, h3, h4, h5⟩ := g.mts m f n e
      exact ⟨C, ad, fd, ps, j, h1, h2, h3, hr.mono h4, h5⟩
  have hlen : ds.length ≤ N.length := by
    rw [e, ← S.pre, List.length_take]
    exact Nat.min_le_right _ _
  refine sndB body (defBody st) _ _ ok hb _ _ _ (h ds S0 Q0 R0 hc) (L2.start N vs) H α (er_start r hlen) sim _ ⟨?_, po, ?_, ?_, fun σ => pr⟩
  · intro ρ' S' α' H' σ' q l s' er
    exact po _ _ _ _ _ q l s' .non
  · intro ρ' S' α' H' σ' q l s' er
    exact q
  · intro ρ' S' α' H' σ' q l s' er
    exact q
/-! ### defs that call themselves -/
def Sig.upd (Γ : Sig) (i : Nat) (c : Ct) : Sig := ⟨fun j => if j = i then c else Γ.ct j, Γ.gl⟩
theorem Sig.upd_at (Γ : Sig) (i : Nat) (c : Ct) : (Γ.upd i c).ct i = c := if_pos rfl
theorem Sig.upd_ne (Γ : Sig) {i j : Nat} (c : Ct) (h : j ≠ i) : (Γ.upd i c).ct j = Γ.ct j := if_neg h
def lvl (C : Nat → Ct) : Nat → Ct
  | 0 => fun _ _ _ _ => False
  | m + 1 => C m
def freshB (i : Nat) (fns : List (Str × (Nat × Nat))) : Bool := fns.all fun p => p.2.1 != i
theorem fresh_ne {i : Nat} : ∀ {fns : List (Str × (Nat × Nat))} {y : Str} {j n : Nat}, freshB i fns = true → fns.lookup y = some (j, n) → j ≠ i
  | (x, p) :: r, y, j, n, hf, h => by
    unfold freshB at hf
    rw [List.all_cons, Bool.and_eq_true] at hf
    rw [List.lookup_cons] at h
    cases hx : y == x with
    | true =>
      rw [hx] at h
      cases h
      simpa using hf.1
    | false =>
      rw [hx] at h
      exact fresh_ne (fns := r) hf.2 h
theorem GOk.self {T : Tab} {k k' : Nat} {x : Str} {ps : List Str} {f : Addr} {fd : FuncData} {i : Nat} {c : Ct} (g : GOk P w K mg base T Γ cv k) (hk : k ≤ k') (hf : freshB i T.fns = true) (hfm : freshB i T.mts = true) (hg : mg x = some (.ref f)) (hkp : PySem.W.keepIn K (.ref f) = true) (hbd : Binds K fd ps [])
    (F : FnOk P w K mg base (L2N.CX P w) k' f fd ps (spOf K c ps.length cv)) : GOk P w K mg base ⟨(x, (i, ps.length)) :: T.fns, T.gls, T.mts⟩ (Γ.upd i c) cv k' := by
  refine ⟨fun y j n e => ?_, g.lng, g.glo, g.blt, g.exc, fun q => let ⟨j, h1, h2⟩ := g.hot q; ⟨j, Nat.le_trans h1 hk, h2⟩, g.fmt, g.cls, fun m f n e => by
    obtain ⟨C, ad, fd, ps, j, h1, h2, h3, h4, h5⟩ := g.mts m f n e
    rw [Sig.upd_ne _ _ (fresh_ne hfm e)]
    exact ⟨C, ad, fd, ps, j, h1, h2, h3, Nat.le_trans h4 hk, h5⟩⟩
  simp only [List.lookup_cons] at e
  cases hx : y == x with
  | true =>
    rw [hx] at e
    cases e
    have e2 : y = x := by simpa using hx
    subst e2
    rw [Sig.upd_at]
    exact ⟨f, fd, ps, hg, F, hkp, hbd⟩
  | false =>
    rw [hx] at e
    obtain ⟨a, fd', ps', h1, h2, h3, h4⟩ := g.fn y j n e
    rw [Sig.upd_ne _ _ (fresh_ne hf e)]
    exact ⟨a, fd', ps', h1, h2.mono hk, h3, h4⟩
theorem rec_ok {x qual : Str} {st : Stmt} {f : Addr} {fd : FuncData} {N ps : List Str} {k n i : Nat} {T : Tab} {C : Nat → Ct} {body : IS} (F : Fun K x qual st f fd) (S : FnScope N ps (defScope st)) (hn : n = N.length) (g : GOk P w K mg base T Γ cv k) (hf : freshB i T.fns = true) (hfm : freshB i T.mts = true)
    (hg : mg x = some (.ref f)) (hkp : PySem.W.keepIn K (.ref f) = true) (hbd : Binds K fd ps [])
    (hb : chkB ⟨N, (x, (i, ps.length)) :: T.fns, T.gls, T.mts⟩ (defScope st) body (defBody st) = true) (h : ∀ m vs S Q R, C m vs S Q R → wpB (Γ.upd i (lvl C m)) n body vs S Q R) :
    ∀ m, FnOk P w K mg base (L2N.CX P w) (k + m + 1) f fd ps (spOf K (C m) ps.length cv) := by
  intro m
  induction m with
  | zero =>
    have F0 : FnOk P w K mg base (L2N.CX P w) k f fd ps (spOf K (lvl C 0) ps.length cv) := ⟨fun vs H Q E q => by
      obtain ⟨α, S, ds, Q0, R0, _, _, _, q, _⟩ := q
      exact q.elim, fun A outer s H args us vs Q E hr he hb hv q => by
      obtain ⟨α, S, ds, Q0, R0, _, _, _, q, _⟩ := q
      exact q.elim⟩
    exact def_ok F S hn (g.self (Nat.le_refl _) hf hfm hg hkp hbd F0) hb (h 0)
  | succ m ih => exact def_ok F S hn (g.self (c := lvl C (m + 1)) (k' := k + m + 1) (by omega) hf hfm hg hkp hbd ih) hb (h (m + 1))
/-- a def of the top -/
structure DefAt (K : PySem.W.Frag) (mg : Str → Option Value) (x : Str) (st : Stmt) (ps : List Str) (f : Addr) (fd : FuncData) : Prop where
  g : mg x = some (.ref f)
  F : Fun K x x st f fd
  b : Binds K fd ps []
theorem defAt_mk {x : Str} {st : Stmt} {ps : List Str} {h : Heap} {f : Addr} {oc : Value} {od an : Option Addr} {osl : Array (Option Value)} {kV doc pm cdv ct : Value} (X : K.In h) (G : h.Ns mainGlobals mg)
    (a : PySem.W.nsIn K mainGlobals x = some (some (.ref f))) (l : K.lookup f = some ⟨oc, od, .func (PySem.W.fnOf x x (defArgs st) (defBody st) (defScope st) .none kV doc pm an cdv ct), osl⟩)
    (c : PySem.W.codeIn K cdv x = true) (k : PySem.W.keepIn K (.ref f) = true)
    (hb : ∀ (kV doc pm : Value) (an : Option Addr) (cdv ct : Value) (us : List Value), us.length = ps.length → bindArgs (PySem.W.fnOf x x (defArgs st) (defBody st) (defScope st) .none kV doc pm an cdv ct) ⟨us, []⟩ = pure (ps.zip us)) :
    DefAt K mg x st ps f (PySem.W.fnOf x x (defArgs st) (defBody st) (defScope st) .none kV doc pm an cdv ct) :=
  ⟨PySem.W.mg_of X G a, fun_mk l c k, (fun_mk l c k).binds hb⟩
/-- one def more -/
theorem GOk.add {T : Tab} {k : Nat} {x : Str} {st : Stmt} {ps : List Str} {f : Addr} {fd : FuncData} {i : Nat} (g : GOk P w K mg base T Γ cv k) (d : DefAt K mg x st ps f fd) (F : FnOk P w K mg base (L2N.CX P w) (k + 1) f fd ps (spOf K (Γ.ct i) ps.length cv)) :
    GOk P w K mg base ⟨(x, (i, ps.length)) :: T.fns, T.gls, T.mts⟩ Γ cv (k + 1) := by
  refine ⟨fun y j n e => ?_, g.lng, g.glo, g.blt, g.exc, fun q => let ⟨j, h1, h2⟩ := g.hot q; ⟨j, Nat.le_succ_of_le h1, h2⟩, g.fmt, g.cls, fun m f n e => let ⟨C, ad, fd, ps, j, h1, h2, h3, h4, h5⟩ := g.mts m f n e; ⟨C, ad, fd, ps, j, h1, h2, h3, Nat.le_succ_of_le h4, h5⟩⟩
  simp only [List.lookup_cons] at e
  cases hx : y == x with
  | true =>
    rw [hx] at e
    cases e
    have e2 : y = x := by simpa using hx
    subst e2
    exact ⟨f, fd, ps, d.g, F, d.F.kp, d.b⟩
  | false =>
    rw [hx] at e
    obtain ⟨a, fd', ps', h1, h2, h3, h4⟩ := g.fn y j n e
    exact ⟨a, fd', ps', h1, h2.mono (Nat.le_succ _), h3, h4⟩
/-- one method more -/
theorem GOk.addm {T : Tab} {k : Nat} {m : Str} {ps : List Str} {f C : Addr} {fd : FuncData} {i : Nat} (g : GOk P w K mg base T Γ cv k) (hc : ClsAt K mg C) (hm : Meth K C m f) (hb : Binds K fd ps []) (mk : m = ("__init__" : Str) → Mk K C f) (F : FnOk P w K mg base (L2N.CX P w) (k + 1) f fd ps (spOf K (Γ.ct i) ps.length cv)) :
    GOk P w K mg base ⟨T.fns, T.gls, (m, (i, ps.length)) :: T.mts⟩ Γ cv (k + 2) := by
  have g2 := g.mono (Nat.le_add_right k 2)
  refine ⟨g2.fn, g2.lng, g2.glo, g2.blt, g2.exc, g2.hot, g2.fmt, g2.cls, fun y j n e => ?_⟩
  simp only [List.lookup_cons] at e
  cases hx : y == m with
  | true =>
    rw [hx] at e
    cases e
    have e2 : y = m := by simpa using hx
    subst e2
    exact ⟨C, f, fd, ps, k + 1, hc, hm, F, Nat.le_refl _, hb, mk⟩
  | false =>
    rw [hx] at e
    exact g2.mts y j n e
/-- constants of the top -/
def GloAt (K : PySem.W.Frag) (mg : Str → Option Value) (x : Str) (v : PV) : Prop := ∃ u u', mg x = some u ∧ RelV u' u ∧ ∀ α H, VR K α H v u'
theorem glo_int {x : Str} {i : Int} {t : Tok} {h : Heap} (X : K.In h) (G : h.Ns mainGlobals mg) (a : PySem.W.nsIn K mainGlobals x = some (some (.int i t))) : GloAt K mg x (.int i) := ⟨_, .int i, PySem.W.mg_of X G a, ⟨t, rfl⟩, fun _ _ => .int i⟩
theorem glo_str {x : Str} {s : Txt} {t : Tok} {h : Heap} (X : K.In h) (G : h.Ns mainGlobals mg) (a : PySem.W.nsIn K mainGlobals x = some (some (.str (ofT s) t))) : GloAt K mg x (.str s) := ⟨_, .str (ofT s), PySem.W.mg_of X G a, ⟨t, rfl⟩, fun _ _ => .str s⟩
theorem vrs_strs {α : List Addr} {H : Hp} : ∀ l : List Txt, VRs K α H (l.map PV.str) (l.map fun s => V.str (ofT s))
  | [] => .nil
  | s :: r => .cons (.str s) (vrs_strs r)
def valsB : List Txt → List Value → Bool
  | [], [] => true
  | s :: r, .str x _ :: t => (x == ofT s) && valsB r t
  | _, _ => false
theorem valsB_ok : ∀ {l : List Txt} {us : List Value}, valsB l us = true → Vals (l.map fun s => V.str (ofT s)) us
  | [], [], _ => .nil
  | s :: r, .str x t :: us, h => by
    simp only [valsB, Bool.and_eq_true, beq_iff_eq] at h
    obtain ⟨rfl, h⟩ := h
    exact .cons ⟨t, rfl⟩ (valsB_ok h)
theorem glo_tup {x : Str} {l : List Txt} {a : Addr} {o : Obj} {its : Array Value} {n : Nat} {h : Heap} (X : K.In h) (G : h.Ns mainGlobals mg) (ha : PySem.W.nsIn K mainGlobals x = some (some (.ref a))) (hl : K.lookup a = some o) (hc : o.cls = .type "tuple") (hd : o.data = .seq its n)
    (hz : its.size ≤ 1000) (hv : valsB l its.toList = true) : GloAt K mg x (.tup (l.map PV.str)) :=
  ⟨_, .ref a, PySem.W.mg_of X G ha, rfl, fun α H => .tup (.inr ⟨o, its, n, hl, hc, hd, by rw [big_eq]; show _ ≤ 16777216; omega, valsB_ok hv⟩) (vrs_strs l)⟩
/-- the written dict of the longest rows of digits -/
def LngAt (K : PySem.W.Frag) (w : World) (mg : Str → Option Value) (x : Str) : Prop := ∃ a, mg x = some (.ref a) ∧ ∀ t n, lngT.lookup t = some n → KDct K w a (ofT t) (.int n)
theorem lit_D : ("D" : Str) = ofT [68] := by decide +kernel
theorem lit_DD : ("DD" : Str) = ofT [68, 68] := by decide +kernel
theorem lit_M : ("M" : Str) = ofT [77] := by decide +kernel
theorem lit_MM : ("MM" : Str) = ofT [77, 77] := by decide +kernel
theorem lit_YY : ("YY" : Str) = ofT [89, 89] := by decide +kernel
theorem lit_YYYY : ("YYYY" : Str) = ofT [89, 89, 89, 89] := by decide +kernel
theorem lit_J : ("J" : Str) = ofT [74] := by decide +kernel
theorem lit_JJJ : ("JJJ" : Str) = ofT [74, 74, 74] := by decide +kernel
theorem lng_mk {w : World} {x : Str} {a : Addr} {es : Array DictEntry} {n : Nat} {h : Heap} (X : K.In h) (G : h.Ns mainGlobals mg) (ha : PySem.W.nsIn K mainGlobals x = some (some (.ref a))) (hl : K.lookup a = some ⟨.type "dict", none, .dict es n, #[]⟩)
    (hk : PySem.W.KeysLit w.params es.toList) {t1 t2 t3 t4 t5 t6 t7 t8 : Tok} (h1 : PySem.W.nsIn K a ("D" : Str) = some (some (.int 2 t1))) (h2 : PySem.W.nsIn K a ("DD" : Str) = some (some (.int 2 t2))) (h3 : PySem.W.nsIn K a ("M" : Str) = some (some (.int 2 t3))) (h4 : PySem.W.nsIn K a ("MM" : Str) = some (some (.int 2 t4)))
    (h5 : PySem.W.nsIn K a ("YY" : Str) = some (some (.int 2 t5))) (h6 : PySem.W.nsIn K a ("YYYY" : Str) = some (some (.int 4 t6))) (h7 : PySem.W.nsIn K a ("J" : Str) = some (some (.int 3 t7))) (h8 : PySem.W.nsIn K a ("JJJ" : Str) = some (some (.int 3 t8))) : LngAt K w mg x := by
  refine ⟨a, PySem.W.mg_of X G ha, fun t m e => ?_⟩
  have go : ∀ {t : Txt} {i : Int} {tk : Tok}, PySem.W.nsIn K a (ofT t) = some (some (.int i tk)) → KDct K w a (ofT t) (.int i) := fun {t i tk} q => ⟨es, n, _, hl, hk, q, ⟨tk, rfl⟩⟩
  unfold lngT at e
  simp only [List.lookup_cons, List.lookup_nil] at e
  repeat' split at e
  all_goals first | (cases e; done) | skip
  all_goals (rename_i hq; have hq := eq_of_beq hq; subst hq; cases e)
  · exact go (lit_D ▸ h1)
  · exact go (lit_DD ▸ h2)
  · exact go (lit_M ▸ h3)
  · exact go (lit_MM ▸ h4)
  · exact go (lit_YY ▸ h5)
  · exact go (lit_YYYY ▸ h6)
  · exact go (lit_J ▸ h7)
  · exact go (lit_JJJ ▸ h8)
/-- nothing yet -/
theorem gOk0 {k : Nat} {gls : List (Str × Nat)} (hg : ∀ p ∈ gls, p.2 < 10 → ∃ v, Γ.gl p.2 = some v ∧ GloAt K mg p.1 v) (hL : ∀ p ∈ gls, p.2 = 10 → LngAt K w mg p.1) (hE : ∀ p ∈ gls, ∀ c, p.2 = 100 + c → ExcAt K mg p.1 (cv c))
    (hH : (("DateError" : Str), 99) ∈ gls → ∃ j, j + 1 ≤ k ∧ HotAt P w K mg base cv j) (hF : (("InvalidFormat" : Str), 106) ∈ gls → FmtAt K mg cv) (hC : (("Reader" : Str), 98) ∈ gls → ∃ C, ClsAt K mg C) (hb : ∀ x : Str, x ∈ bltNames → mg x = none) : GOk P w K mg base ⟨[], gls, []⟩ Γ cv k := by
  have mem : ∀ (x : Str) (g : Nat) (l : List (Str × Nat)), l.lookup x = some g → (x, g) ∈ l := by
    intro x g
    intro l
    induction l with
    | nil => intro e; cases e
    | cons p r ih =>
      intro e
      obtain ⟨y, j⟩ := p
      simp only [List.lookup_cons] at e
      cases hx : x == y with
      | true =>
        rw [hx] at e
        cases e
        have : x = y := by simpa using hx
        rw [this]
        exact List.mem_cons_self
      | false =>
        rw [hx] at e
        exact List.mem_cons_of_mem _ (ih e)
  refine ⟨fun x f n e => (by cases e), fun x e => hL _ (mem x 10 gls e) rfl, fun x g h10 e => ?_, hb, fun x c e => hE _ (mem x _ gls e) c rfl, fun e => hH (mem _ _ gls e), fun e => hF (mem _ _ gls e), fun e => hC (mem _ _ gls e), fun m f n e => (by cases e)⟩
  obtain ⟨v, h1, u, u', h2, h3, h4⟩ := hg _ (mem x g gls e) h10
  exact ⟨v, u, u', h1, h2, h3, h4⟩
/-- the law's contract lets nothing out: of no concern which classes there are -/
theorem law_cv {CX : CXT} {k n : Nat} {cv' : Nat → Value} {f : Addr} {fd : FuncData} {ps : List Str} (F : FnOk P w K mg base CX k f fd ps (spOf K (ctLaw n) 1 cv)) : FnOk P w K mg base CX k f fd ps (spOf K (ctLaw n) 1 cv') := by
  refine F.imp fun vs H Q E h => ?_
  obtain ⟨α, S, ds, Q0, R0, e, sim, r, ⟨ns, h1, h2, h3, h4⟩, po, pr⟩ := h
  exact ⟨α, S, ds, Q0, fun _ _ => False, e, sim, r, ⟨ns, h1, h2, h3, h4⟩, po, fun _ _ _ _ z => z.elim⟩
end
theorem law_sp {K : PySem.W.Frag} {cv : Nat → Value} {n : Nat} {H : Hp} {a : Addr} {ns : List Int} (hl : ns.length ≤ n) (ho : Only H) (hs : SqL K H a (ns.map V.int)) : spOf K (ctLaw n) 1 cv [.ref a] H (fun v _ => v = .bl true) fun _ _ _ => False := by
  have hf : SqF K H a (ns.map V.int) := by
    rcases hs with (h | ⟨o, h⟩) | h
    · rcases ho a with e | ⟨o, xs, e⟩
      · rw [e] at h; cases h
      · rw [e] at h; cases h
    · exact .inl ⟨o, h⟩
    · exact .inr fun H' => .inr h
  have hv : ∀ (l : List Int), VRs K [a] H (l.map PV.int) (l.map V.int) := by
    intro l
    induction l with
    | nil => exact .nil
    | cons x r ih => exact .cons (.int x) ih
  refine ⟨[a], [.scr (ns.map PV.int)], [.ref 0], fun v _ => v = .bl true, fun _ _ => False, rfl, ⟨rfl, fun m o b e1 e2 => ?_, fun m k b o o' e1 e2 m1 m2 a1 a2 => ?_⟩, .cons (.ref rfl) .nil, ⟨ns, rfl, rfl, hl, fun _ => rfl⟩, fun d S' α' H' v q l s r => ?_, fun c S' α' H' r => r.elim⟩
  · cases m with
    | zero =>
      cases e1
      cases e2
      exact ⟨_, hf, hv ns⟩
    | succ j => simp at e1
  · cases m with
    | zero => cases e1; cases m1
    | succ j => simp at e1
  · subst q
    cases r
    rfl
/-! ### the seven classes -/
theorem all7 {P : Nat → Prop} (h0 : P 0) (h1 : P 1) (h2 : P 2) (h3 : P 3) (h4 : P 4) (h5 : P 5) (h6 : P 6) : ∀ i, i < 7 → P i
  | 0, _ => h0 | 1, _ => h1 | 2, _ => h2 | 3, _ => h3 | 4, _ => h4 | 5, _ => h5 | 6, _ => h6 | n + 7, h => absurd h (by omega)
theorem nm7 {mg : Str → Option Value} {cv : Nat → Value} (h0 : ∃ C : Addr, cv 0 = .ref C ∧ mg "InvalidDate" = some (.ref C)) (h1 : ∃ C : Addr, cv 1 = .ref C ∧ mg "InvalidSpan" = some (.ref C)) (h2 : ∃ C : Addr, cv 2 = .ref C ∧ mg "InvalidPattern" = some (.ref C))
    (h3 : ∃ C : Addr, cv 3 = .ref C ∧ mg "InvalidPatterns" = some (.ref C)) (h4 : ∃ C : Addr, cv 4 = .ref C ∧ mg "InvalidText" = some (.ref C)) (h5 : ∃ C : Addr, cv 5 = .ref C ∧ mg "Unreadable" = some (.ref C)) (h6 : ∃ C : Addr, cv 6 = .ref C ∧ mg "InvalidFormat" = some (.ref C)) :
    ∀ (i : Nat) (x : Str), wNames[i]? = some x → ∃ C : Addr, cv i = .ref C ∧ mg x = some (.ref C)
  | 0, _, e => by cases e; exact h0
  | 1, _, e => by cases e; exact h1
  | 2, _, e => by cases e; exact h2
  | 3, _, e => by cases e; exact h3
  | 4, _, e => by cases e; exact h4
  | 5, _, e => by cases e; exact h5
  | 6, _, e => by cases e; exact h6
  | n + 7, _, e => by simp [wNames] at e
theorem kit_yes {K : PySem.W.Frag} {cv : Nat → Value} {i : Nat} {C : Addr} (h : cv i = .ref C) : PySem.W.kitOne K (cv i) (cv i) = some (decide (i = i)) := by
  unfold PySem.W.kitOne
  rw [if_pos (beq_self_eq_true _)]
  simp
theorem kit_ref {K : PySem.W.Frag} {C D : Addr} {b : Bool} (hd : PySem.W.hasDictIn K D = true) (ht : PySem.W.typeIn K (.ref D) = some (.type "type")) (hs : PySem.W.subIn K (.ref C) (.ref C) = some true) (h : PySem.W.subIn K (.ref C) (.ref D) = some b) : PySem.W.kitOne K (.ref C) (.ref D) = some b := by
  unfold PySem.W.kitOne
  by_cases e : C = D
  · subst e
    rw [if_pos (beq_self_eq_true _), ← h, hs]
  · rw [if_neg (by intro q; exact e (Value.ref.inj (eq_of_beq q)))]
    obtain ⟨cd, hc, _⟩ := PySem.W.any_some hd
    have e2 : ((PySem.W.clsIn K D).isSome && PySem.W.typeIn K (.ref D) == some (.type "type")) = true := by rw [hc, ht] <;> rfl
    show (if ((PySem.W.clsIn K D).isSome && PySem.W.typeIn K (.ref D) == some (.type "type")) = true then PySem.W.subIn K (.ref C) (.ref D) else none) = some b
    rw [if_pos e2]
    exact h
theorem kit_no {K : PySem.W.Frag} {cv : Nat → Value} {i j : Nat} {C D : Addr} (h1 : cv i = .ref C) (h2 : cv j = .ref D) (hd : PySem.W.hasDictIn K D = true) (ht : PySem.W.typeIn K (.ref D) = some (.type "type")) (hs : PySem.W.subIn K (.ref C) (.ref C) = some true) (h : PySem.W.subIn K (.ref C) (.ref D) = some false)
    (hij : decide (i = j) = false := by decide) : PySem.W.kitOne K (cv i) (cv j) = some (decide (i = j)) := by
  rw [h1, h2, hij]
  exact kit_ref hd ht hs h
theorem kit_val {K : PySem.W.Frag} {cv : Nat → Value} {i : Nat} {C : Addr} (h1 : cv i = .ref C) (h : PySem.W.subIn K (.ref C) (.type "ValueError") = some true) : PySem.W.kitOne K (cv i) (.type "ValueError") = some true := by
  rw [h1]
  unfold PySem.W.kitOne
  rw [if_neg (by intro q; exact absurd (eq_of_beq q) nofun)]
  exact h
end PyI
set_option autoImplicit false
set_option linter.all false
namespace PyI
def b_is_count : IS := .seq (.ret (.and (.blt .isInt (.cons (.var 0) .nil)) (.and (.not (.blt .isBool (.cons (.var 0) .nil))) (.chain .le .le (.var 1) (.var 0) (.var 2))))) <|
  .pass
def b_is_long : IS := .seq (.ret (.or (.and (.cmp .eq (.bin .mod (.var 0) (.int 4)) (.int 0)) (.cmp .ne (.bin .mod (.var 0) (.int 100)) (.int 0))) (.cmp .eq (.bin .mod (.var 0) (.int 400)) (.int 0)))) <|
  .pass
def b_month_length : IS := .seq (.ite (.cmp .eq (.var 1) (.int 2)) (.seq (.ret (.ite (.call 1 (.cons (.var 0) .nil)) (.int 29) (.int 28))) <|
    .pass) .pass) <|
  .seq (.ret (.ite (.cmp .isin (.var 1) (.tup (.cons (.int 4) (.cons (.int 6) (.cons (.int 9) (.cons (.int 11) .nil)))))) (.int 30) (.int 31))) <|
  .pass
def b_is_date : IS := .seq (.ite (.or (.not (.blt .isTup (.cons (.var 0) .nil))) (.or (.cmp .ne (.blt .len (.cons (.var 0) .nil)) (.int 3)) (.not (.call 0 (.cons (.sub (.var 0) (.int 0)) (.cons (.glb 0) (.cons (.glb 1) .nil))))))) (.seq (.ret (.bl false)) <|
    .pass) .pass) <|
  .seq (.ret (.and (.call 0 (.cons (.sub (.var 0) (.int 1)) (.cons (.int 1) (.cons (.int 12) .nil)))) (.call 0 (.cons (.sub (.var 0) (.int 2)) (.cons (.int 1) (.cons (.call 2 (.cons (.sub (.var 0) (.int 0)) (.cons (.sub (.var 0) (.int 1)) .nil))) .nil)))))) <|
  .pass
def b_is_span : IS := .seq (.ite (.or (.not (.blt .isTup (.cons (.var 0) .nil))) (.or (.cmp .ne (.blt .len (.cons (.var 0) .nil)) (.int 2)) (.not (.blt .all (.cons (.comp (.nm 1) .seq (.cons (.var 0) .nil) [1] .nil (.call 0 (.cons (.var 1) (.cons (.glb 0) (.cons (.glb 1) .nil))))) .nil))))) (.seq (.ret (.bl false)) <|
    .pass) .pass) <|
  .seq (.ret (.chain .le .lt (.sub (.var 0) (.int 0)) (.sub (.var 0) (.int 1)) (.bin .add (.sub (.var 0) (.int 0)) (.glb 2)))) <|
  .pass
def b_need_date : IS := .seq (.ite (.not (.call 3 (.cons (.var 0) .nil))) (.seq (.nev) <|
    .pass) .pass) <|
  .pass
def b_need_span : IS := .seq (.ite (.not (.call 4 (.cons (.var 0) .nil))) (.seq (.nev) <|
    .pass) .pass) <|
  .pass
def b_place_in_year : IS := .seq (.ret (.bin .add (.blt .sum (.cons (.comp (.nm 1) .rng2 (.cons (.int 1) (.cons (.sub (.var 0) (.int 1)) .nil)) [1] .nil (.call 2 (.cons (.sub (.var 0) (.int 0)) (.cons (.var 1) .nil)))) .nil)) (.sub (.var 0) (.int 2)))) <|
  .pass
def b_weekday_of : IS := .seq (.asg (.nm 1) (.bin .sub (.sub (.var 0) (.int 0)) (.int 1))) <|
  .seq (.asg (.nm 2) (.bin .add (.bin .add (.bin .sub (.bin .add (.bin .mul (.int 365) (.var 1)) (.bin .div (.var 1) (.int 4))) (.bin .div (.var 1) (.int 100))) (.bin .div (.var 1) (.int 400))) (.call 7 (.cons (.var 0) .nil)))) <|
  .seq (.ret (.sub (.glb 3) (.bin .mod (.bin .sub (.var 2) (.int 1)) (.int 7)))) <|
  .pass
def b_weekday : IS := .seq (.ex (.call 5 (.cons (.var 0) .nil))) <|
  .seq (.ret (.call 8 (.cons (.var 0) .nil))) <|
  .pass
def b_day_of_year : IS := .seq (.ex (.call 5 (.cons (.var 0) .nil))) <|
  .seq (.ret (.call 7 (.cons (.var 0) .nil))) <|
  .pass
def b_dates_in : IS := .seq (.asg (.nm 1) (.lst .nil)) <|
  .seq (.frl (.nm 2) .rng2 (.cons (.sub (.var 0) (.int 0)) (.cons (.bin .add (.sub (.var 0) (.int 1)) (.int 1)) .nil)) (.seq (.frl (.nm 3) .rng2 (.cons (.int 1) (.cons (.int 13) .nil)) (.seq (.ex (.meth .extend (.var 1) (.cons (.comp (.nm 4) .rng2 (.cons (.int 1) (.cons (.bin .add (.call 2 (.cons (.var 2) (.cons (.var 3) .nil))) (.int 1)) .nil)) [4] .nil (.tup (.cons (.var 2) (.cons (.var 3) (.cons (.var 4) .nil))))) .nil))) <|
      .pass)) <|
    .pass)) <|
  .seq (.ret (.var 1)) <|
  .pass
def b_dates : IS := .seq (.ex (.call 6 (.cons (.var 0) .nil))) <|
  .seq (.ret (.call 11 (.cons (.var 0) .nil))) <|
  .pass
def b_is_literal : IS := .seq (.ret (.and (.blt .isStr (.cons (.var 0) .nil)) (.and (.chain .le .le (.int 1) (.blt .len (.cons (.var 0) .nil)) (.int 3)) (.blt .all (.cons (.comp (.nm 1) .seq (.cons (.var 0) .nil) [1] .nil (.cmp .isin (.var 1) (.glb 6))) .nil))))) <|
  .pass
def b_is_pattern : IS := .seq (.ite (.or (.not (.blt .isTup (.cons (.var 0) .nil))) (.not (.chain .le .le (.int 1) (.blt .len (.cons (.var 0) .nil)) (.glb 7)))) (.seq (.ret (.bl false)) <|
    .pass) .pass) <|
  .seq (.ite (.not (.blt .all (.cons (.comp (.nm 1) .seq (.cons (.var 0) .nil) [1] .nil (.and (.blt .isStr (.cons (.var 1) .nil)) (.or (.cmp .isin (.var 1) (.glb 5)) (.call 13 (.cons (.var 1) .nil))))) .nil))) (.seq (.ret (.bl false)) <|
    .pass) .pass) <|
  .seq (.ret (.not (.blt .any (.cons (.comp (.tp [2, 3]) .zip2 (.cons (.var 0) (.cons (.slice (.var 0) (.int 1) .nil) .nil)) [2, 3] .nil (.and (.cmp .nin (.var 2) (.glb 5)) (.cmp .nin (.var 3) (.glb 5)))) .nil)))) <|
  .pass
def b_need_pattern : IS := .seq (.ite (.not (.call 14 (.cons (.var 0) .nil))) (.seq (.nev) <|
    .pass) .pass) <|
  .pass
def b_need_text : IS := .seq (.ite (.not (.blt .isStr (.cons (.var 0) .nil))) (.seq (.nev) <|
    .pass) .pass) <|
  .pass
def b_padded : IS := .seq (.asg (.nm 2) (.blt .str (.cons (.var 0) .nil))) <|
  .seq (.ret (.bin .add (.bin .mul (.str [48]) (.bin .sub (.var 1) (.blt .len (.cons (.var 2) .nil)))) (.var 2))) <|
  .pass
def b_value_of : IS := .seq (.ite (.cmp .isin (.var 0) (.tup (.cons (.str [68]) (.cons (.str [68, 68]) .nil)))) (.seq (.ret (.sub (.var 1) (.int 2))) <|
    .pass) .pass) <|
  .seq (.ite (.cmp .isin (.var 0) (.tup (.cons (.str [77]) (.cons (.str [77, 77]) .nil)))) (.seq (.ret (.sub (.var 1) (.int 1))) <|
    .pass) .pass) <|
  .seq (.ite (.cmp .eq (.var 0) (.str [77, 79, 78])) (.seq (.ret (.sub (.glb 4) (.bin .sub (.sub (.var 1) (.int 1)) (.int 1)))) <|
    .pass) .pass) <|
  .seq (.ite (.cmp .eq (.var 0) (.str [87, 68])) (.seq (.ret (.call 8 (.cons (.var 1) .nil))) <|
    .pass) .pass) <|
  .seq (.ite (.cmp .isin (.var 0) (.tup (.cons (.str [74]) (.cons (.str [74, 74, 74]) .nil)))) (.seq (.ret (.call 7 (.cons (.var 1) .nil))) <|
    .pass) .pass) <|
  .seq (.ret (.ite (.cmp .eq (.var 0) (.str [89, 89, 89, 89])) (.sub (.var 1) (.int 0)) (.bin .mod (.sub (.var 1) (.int 0)) (.int 100)))) <|
  .pass
def b_piece : IS := .seq (.ite (.cmp .nin (.var 0) (.glb 5)) (.seq (.ret (.var 0)) <|
    .pass) .pass) <|
  .seq (.asg (.nm 2) (.call 18 (.cons (.var 0) (.cons (.var 1) .nil)))) <|
  .seq (.ite (.cmp .isin (.var 0) (.tup (.cons (.str [77, 79, 78]) (.cons (.str [87, 68]) .nil)))) (.seq (.ret (.var 2)) <|
    .pass) .pass) <|
  .seq (.ret (.call 17 (.cons (.var 2) (.cons (.ite (.cmp .isin (.var 0) (.tup (.cons (.str [68]) (.cons (.str [77]) (.cons (.str [74]) .nil))))) (.int 1) (.blt .len (.cons (.var 0) .nil))) .nil)))) <|
  .pass
def b_written : IS := .seq (.ret (.meth .join (.str []) (.cons (.comp (.nm 2) .seq (.cons (.var 0) .nil) [2] .nil (.call 19 (.cons (.var 2) (.cons (.var 1) .nil)))) .nil))) <|
  .pass
def b_write : IS := .seq (.ex (.call 15 (.cons (.var 0) .nil))) <|
  .seq (.ex (.call 5 (.cons (.var 1) .nil))) <|
  .seq (.ret (.call 20 (.cons (.var 0) (.cons (.var 1) .nil)))) <|
  .pass
def b_table : IS := .seq (.asg (.nm 2) (.dic0)) <|
  .seq (.frl (.nm 3) .seq (.cons (.call 11 (.cons (.var 1) .nil)) .nil) (.seq (.asg (.nm 4) (.call 20 (.cons (.var 0) (.cons (.var 3) .nil)))) <|
    .seq (.ite (.cmp .nin (.var 4) (.var 2)) (.seq (.setsub (.var 2) (.var 4) (.lst .nil)) <|
      .pass) .pass) <|
    .seq (.ex (.meth .append (.sub (.var 2) (.var 4)) (.cons (.var 3) .nil))) <|
    .pass)) <|
  .seq (.ret (.var 2)) <|
  .pass
def b_readings : IS := .seq (.ex (.call 15 (.cons (.var 0) .nil))) <|
  .seq (.ex (.call 6 (.cons (.var 1) .nil))) <|
  .seq (.ex (.call 16 (.cons (.var 2) .nil))) <|
  .seq (.ret (.meth .get (.call 22 (.cons (.var 0) (.cons (.var 1) .nil))) (.cons (.var 2) (.cons (.lst .nil) .nil)))) <|
  .pass
def b_law_draw : IS := .seq (.ite (.cmp .gt (.sub (.var 1) (.int 1)) (.int 0)) (.seq (.asg (.nm 3) (.bin .mod (.sub (.var 1) (.int 1)) (.var 2))) <|
    .seq (.setsub (.var 1) (.int 1) (.bin .div (.sub (.var 1) (.int 1)) (.var 2))) <|
    .seq (.ret (.var 3)) <|
    .pass) .pass) <|
  .seq (.asg (.nm 4) (.sub (.var 1) (.int 0))) <|
  .seq (.augsub (.var 1) (.int 0) (.int 1)) <|
  .seq (.ite (.cmp .eq (.var 0) (.lst .nil)) (.seq (.ret (.bin .mod (.var 4) (.var 2))) <|
    .pass) .pass) <|
  .seq (.ite (.and (.cmp .lt (.var 4) (.blt .len (.cons (.var 0) .nil))) (.cmp .ge (.sub (.var 0) (.var 4)) (.bin .pow (.int 10) (.int 18)))) (.seq (.setsub (.var 1) (.int 1) (.bin .mod (.bin .div (.sub (.var 0) (.var 4)) (.var 2)) (.bin .mul (.bin .pow (.int 10) (.int 60)) (.bin .pow (.int 10) (.int 60))))) <|
    .seq (.ret (.bin .mod (.sub (.var 0) (.var 4)) (.var 2))) <|
    .pass) .pass) <|
  .seq (.asg (.nm 5) (.bin .mod (.bin .add (.bin .add (.bin .mul (.sub (.var 0) (.bin .mod (.var 4) (.blt .len (.cons (.var 0) .nil)))) (.int 1103515245)) (.bin .mul (.int 7919) (.var 4))) (.int 12345)) (.int 2147483647))) <|
  .seq (.ret (.bin .mod (.bin .mod (.bin .mod (.bin .pow (.var 5) (.int 5)) (.int 2147483647)) (.int 999983)) (.var 2))) <|
  .pass
def b_law_pick : IS := .seq (.ret (.sub (.var 2) (.call 100 (.cons (.var 0) (.cons (.var 1) (.cons (.blt .len (.cons (.var 2) .nil)) .nil)))))) <|
  .pass
def b_law_pattern : IS := .seq (.asg (.nm 3) (.lst .nil)) <|
  .seq (.frl (.nm 4) .rng1 (.cons (.bin .add (.int 1) (.call 100 (.cons (.var 0) (.cons (.var 1) (.cons (.var 2) .nil))))) .nil) (.seq (.ite (.and (.cmp .ne (.var 3) (.lst .nil)) (.and (.meth .isalpha (.sub (.var 3) (.neg (.int 1))) .nil) (.cmp .eq (.call 100 (.cons (.var 0) (.cons (.var 1) (.cons (.int 2) .nil)))) (.int 0)))) (.seq (.ex (.meth .append (.var 3) (.cons (.call 101 (.cons (.var 0) (.cons (.var 1) (.cons (.lst (.cons (.str [45]) (.cons (.str [47]) (.cons (.str [46]) (.cons (.str [44, 32]) (.cons (.str [32]) (.cons (.str [58]) .nil))))))) .nil)))) .nil))) <|
      .pass) (.seq (.asg (.nm 5) (.lst (.cons (.str [68]) (.cons (.str [68, 68]) (.cons (.str [77]) (.cons (.str [77, 77]) (.cons (.str [77, 79, 78]) (.cons (.str [89, 89]) (.cons (.str [89, 89, 89, 89]) (.cons (.str [74]) (.cons (.str [74, 74, 74]) (.cons (.str [87, 68]) (.cons (.str [68]) (.cons (.str [77]) .nil)))))))))))))) <|
      .seq (.ex (.meth .append (.var 3) (.cons (.call 101 (.cons (.var 0) (.cons (.var 1) (.cons (.var 5) .nil)))) .nil))) <|
      .pass)) <|
    .pass)) <|
  .seq (.ret (.blt .tuple (.cons (.var 3) .nil))) <|
  .pass
def b_law_span : IS := .seq (.asg (.nm 2) (.call 101 (.cons (.var 0) (.cons (.var 1) (.cons (.lst (.cons (.int 1600) (.cons (.int 1899) (.cons (.int 1999) (.cons (.int 2000) (.cons (.int 2001) (.cons (.int 2004) (.cons (.int 2099) (.cons (.int 2398) .nil))))))))) .nil))))) <|
  .seq (.ret (.tup (.cons (.var 2) (.cons (.bin .add (.var 2) (.ite (.cmp .eq (.call 100 (.cons (.var 0) (.cons (.var 1) (.cons (.int 4) .nil)))) (.int 0)) (.int 1) (.int 0))) .nil)))) <|
  .pass
def b_law_days : IS := .seq (.asg (.nm 1) (.or (.cmp .eq (.bin .mod (.var 0) (.int 400)) (.int 0)) (.and (.cmp .eq (.bin .mod (.var 0) (.int 4)) (.int 0)) (.cmp .ne (.bin .mod (.var 0) (.int 100)) (.int 0))))) <|
  .seq (.ret (.lst (.cons (.int 31) (.cons (.ite (.var 1) (.int 29) (.int 28)) (.cons (.int 31) (.cons (.int 30) (.cons (.int 31) (.cons (.int 30) (.cons (.int 31) (.cons (.int 31) (.cons (.int 30) (.cons (.int 31) (.cons (.int 30) (.cons (.int 31) .nil)))))))))))))) <|
  .pass
def b_law_dates : IS := .seq (.asg (.nm 1) (.lst .nil)) <|
  .seq (.frl (.nm 2) .rng2 (.cons (.sub (.var 0) (.int 0)) (.cons (.bin .add (.sub (.var 0) (.int 1)) (.int 1)) .nil)) (.seq (.asg (.nm 3) (.int 0)) <|
    .seq (.frl (.tp [4, 5]) .enm (.cons (.call 104 (.cons (.var 2) .nil)) .nil) (.seq (.frl (.nm 6) .rng1 (.cons (.var 5) .nil) (.seq (.asg (.nm 3) (.bin .add (.var 3) (.int 1))) <|
        .seq (.ex (.meth .append (.var 1) (.cons (.tup (.cons (.tup (.cons (.var 2) (.cons (.bin .add (.var 4) (.int 1)) (.cons (.bin .add (.var 6) (.int 1)) .nil)))) (.cons (.var 3) .nil))) .nil))) <|
        .pass)) <|
      .pass)) <|
    .pass)) <|
  .seq (.ret (.var 1)) <|
  .pass
def b_law_weekday : IS := .seq (.asg (.nm 1) (.bin .sub (.sub (.var 0) (.int 0)) (.int 1600))) <|
  .seq (.asg (.nm 2) (.bin .add (.bin .sub (.bin .add (.bin .add (.int 5) (.bin .mul (.int 365) (.var 1))) (.bin .div (.bin .add (.var 1) (.int 3)) (.int 4))) (.bin .div (.bin .add (.var 1) (.int 99)) (.int 100))) (.bin .div (.bin .add (.var 1) (.int 399)) (.int 400)))) <|
  .seq (.ret (.bin .mod (.bin .sub (.bin .add (.bin .add (.var 2) (.blt .sum (.cons (.slice (.call 104 (.cons (.sub (.var 0) (.int 0)) .nil)) .nil (.bin .sub (.sub (.var 0) (.int 1)) (.int 1))) .nil))) (.sub (.var 0) (.int 2))) (.int 1)) (.int 7))) <|
  .pass
def b_law_write : IS := .seq (.asg (.nm 3) (.str [])) <|
  .seq (.frl (.nm 4) .seq (.cons (.var 0) .nil) (.seq (.ite (.cmp .eq (.var 4) (.str [77, 79, 78])) (.seq (.asg (.nm 3) (.bin .add (.var 3) (.slice (.str [106, 97, 110, 102, 101, 98, 109, 97, 114, 97, 112, 114, 109, 97, 121, 106, 117, 110, 106, 117, 108, 97, 117, 103, 115, 101, 112, 111, 99, 116, 110, 111, 118, 100, 101, 99]) (.bin .sub (.bin .mul (.int 3) (.sub (.var 1) (.int 1))) (.int 3)) (.bin .mul (.int 3) (.sub (.var 1) (.int 1)))))) <|
      .pass) (.seq (.ite (.cmp .eq (.var 4) (.str [87, 68])) (.seq (.asg (.nm 5) (.bin .mul (.int 3) (.call 106 (.cons (.var 1) .nil)))) <|
        .seq (.asg (.nm 3) (.bin .add (.var 3) (.slice (.str [109, 111, 110, 116, 117, 101, 119, 101, 100, 116, 104, 117, 102, 114, 105, 115, 97, 116, 115, 117, 110]) (.var 5) (.bin .add (.var 5) (.int 3))))) <|
        .pass) (.seq (.ite (.cmp .isin (.sub (.var 4) (.int 0)) (.str [68, 77, 89, 74])) (.seq (.asg (.nm 6) (.sub (.lst (.cons (.sub (.var 1) (.int 2)) (.cons (.sub (.var 1) (.int 1)) (.cons (.sub (.var 1) (.int 0)) (.cons (.var 2) .nil))))) (.meth .sindex (.str [68, 77, 89, 74]) (.cons (.sub (.var 4) (.int 0)) .nil)))) <|
          .seq (.asg (.nm 7) (.blt .str (.cons (.ite (.cmp .eq (.var 4) (.str [89, 89])) (.bin .mod (.var 6) (.int 100)) (.var 6)) .nil))) <|
          .seq (.asg (.nm 3) (.bin .add (.bin .add (.var 3) (.bin .mul (.str [48]) (.bin .sub (.ite (.cmp .eq (.blt .len (.cons (.var 4) .nil)) (.int 1)) (.int 0) (.blt .len (.cons (.var 4) .nil))) (.blt .len (.cons (.var 7) .nil))))) (.var 7))) <|
          .pass) (.seq (.asg (.nm 3) (.bin .add (.var 3) (.var 4))) <|
          .pass)) <|
        .pass)) <|
      .pass)) <|
    .pass)) <|
  .seq (.ret (.var 3)) <|
  .pass
def b_clash_of : IS := .seq (.asg (.nm 2) (.comp (.nm 3) .vals (.cons (.call 22 (.cons (.var 0) (.cons (.var 1) .nil))) .nil) [3] (.cmp .gt (.blt .len (.cons (.var 3) .nil)) (.int 1)) (.tup (.cons (.sub (.var 3) (.int 1)) (.cons (.sub (.var 3) (.int 0)) .nil))))) <|
  .seq (.ret (.ite (.cmp .ne (.var 2) (.lst .nil)) (.rev (.blt .minD (.cons (.var 2) .nil))) (.non))) <|
  .pass
def b_clash : IS := .seq (.ex (.call 15 (.cons (.var 0) .nil))) <|
  .seq (.ex (.call 6 (.cons (.var 1) .nil))) <|
  .seq (.ret (.call 24 (.cons (.var 0) (.cons (.var 1) .nil)))) <|
  .pass
def b_unsorted : IS := .seq (.ex (.call 15 (.cons (.var 0) .nil))) <|
  .seq (.ex (.call 6 (.cons (.var 1) .nil))) <|
  .seq (.asg (.nm 2) (.call 11 (.cons (.var 1) .nil))) <|
  .seq (.asg (.nm 3) (.comp (.nm 4) .seq (.cons (.var 2) .nil) [4] .nil (.call 20 (.cons (.var 0) (.cons (.var 4) .nil))))) <|
  .seq (.frl (.tp [4, 5, 6]) .zip3 (.cons (.var 2) (.cons (.var 3) (.cons (.slice (.var 3) (.int 1) .nil) .nil))) (.seq (.ite (.cmp .ge (.var 5) (.var 6)) (.seq (.ret (.var 4)) <|
      .pass) .pass) <|
    .pass)) <|
  .seq (.ret (.non)) <|
  .pass
def b_widths : IS := .seq (.ex (.call 15 (.cons (.var 0) .nil))) <|
  .seq (.ex (.call 6 (.cons (.var 1) .nil))) <|
  .seq (.asg (.nm 2) (.comp (.nm 3) .keys (.cons (.call 22 (.cons (.var 0) (.cons (.var 1) .nil))) .nil) [3] .nil (.blt .len (.cons (.var 3) .nil)))) <|
  .seq (.ret (.tup (.cons (.blt .min (.cons (.var 2) .nil)) (.cons (.blt .max (.cons (.var 2) .nil)) .nil)))) <|
  .pass
def b_with_bars : IS := .seq (.asg (.nm 2) (.lst .nil)) <|
  .seq (.frl (.tp [3, 4]) .enm (.cons (.var 0) .nil) (.seq (.ex (.meth .append (.var 2) (.cons (.var 4) .nil))) <|
    .seq (.ite (.cmp .isin (.var 3) (.var 1)) (.seq (.ex (.meth .append (.var 2) (.cons (.str [124]) .nil))) <|
      .pass) .pass) <|
    .pass)) <|
  .seq (.ret (.blt .tuple (.cons (.var 2) .nil))) <|
  .pass
def b_choices : IS := .seq (.ite (.cmp .eq (.var 1) (.int 0)) (.seq (.ret (.lst (.cons (.lst .nil) .nil))) <|
    .pass) .pass) <|
  .seq (.asg (.nm 3) (.lst .nil)) <|
  .seq (.frl (.nm 4) .rng2 (.cons (.var 2) (.cons (.var 0) .nil)) (.seq (.ex (.meth .extend (.var 3) (.cons (.comp (.nm 5) .seq (.cons (.call 29 (.cons (.var 0) (.cons (.bin .sub (.var 1) (.int 1)) (.cons (.bin .add (.var 4) (.int 1)) .nil)))) .nil) [5] .nil (.bin .add (.lst (.cons (.var 4) .nil)) (.var 5))) .nil))) <|
    .pass)) <|
  .seq (.ret (.var 3)) <|
  .pass
def b_bars : IS := .seq (.ex (.call 15 (.cons (.var 0) .nil))) <|
  .seq (.ex (.call 6 (.cons (.var 1) .nil))) <|
  .seq (.asg (.nm 2) (.bin .sub (.blt .len (.cons (.var 0) .nil)) (.int 1))) <|
  .seq (.ite (.cmp .isn (.call 24 (.cons (.call 28 (.cons (.var 0) (.cons (.lrg (.var 2)) .nil))) (.cons (.var 1) .nil))) (.non)) (.seq (.ret (.non)) <|
    .pass) .pass) <|
  .seq (.frl (.nm 3) .rng1 (.cons (.var 2) .nil) (.seq (.frl (.nm 4) .seq (.cons (.call 29 (.cons (.var 2) (.cons (.var 3) (.cons (.int 0) .nil)))) .nil) (.seq (.ite (.cmp .is (.call 24 (.cons (.call 28 (.cons (.var 0) (.cons (.var 4) .nil))) (.cons (.var 1) .nil))) (.non)) (.seq (.ret (.var 4)) <|
        .pass) .pass) <|
      .pass)) <|
    .pass)) <|
  .seq (.ret (.lrg (.var 2))) <|
  .pass
def b_taken : IS := .seq (.ite (.cmp .nin (.var 0) (.glb 5)) (.seq (.ret (.ite (.cmp .eq (.slice (.var 1) (.var 2) (.bin .add (.var 2) (.blt .len (.cons (.var 0) .nil)))) (.var 0)) (.tup (.cons (.non) (.cons (.bin .add (.var 2) (.blt .len (.cons (.var 0) .nil))) .nil))) (.non))) <|
    .pass) .pass) <|
  .seq (.ite (.cmp .isin (.var 0) (.tup (.cons (.str [77, 79, 78]) (.cons (.str [87, 68]) .nil)))) (.seq (.asg (.nm 3) (.slice (.var 1) (.var 2) (.bin .add (.var 2) (.int 3)))) <|
    .seq (.ret (.ite (.cmp .isin (.var 3) (.ite (.cmp .eq (.var 0) (.str [77, 79, 78])) (.glb 4) (.glb 3))) (.tup (.cons (.var 3) (.cons (.bin .add (.var 2) (.int 3)) .nil))) (.non))) <|
    .pass) .pass) <|
  .seq (.asg (.nm 4) (.var 2)) <|
  .seq (.whl (.and (.cmp .lt (.var 4) (.blt .len (.cons (.var 1) .nil))) (.and (.cmp .lt (.bin .sub (.var 4) (.var 2)) (.glbsub 10 (.var 0))) (.cmp .isin (.sub (.var 1) (.var 4)) (.glb 9)))) (.seq (.aug 4 (.int 1)) <|
    .pass)) <|
  .seq (.ret (.ite (.cmp .gt (.var 4) (.var 2)) (.tup (.cons (.blt .int (.cons (.slice (.var 1) (.var 2) (.var 4)) .nil)) (.cons (.var 4) .nil))) (.non))) <|
  .pass
def b_greedy_result : IS := .seq (.par [2, 3] (.cons (.lst .nil) (.cons (.int 0) .nil))) <|
  .seq (.frl (.nm 4) .seq (.cons (.var 0) .nil) (.seq (.asg (.nm 5) (.call 31 (.cons (.var 4) (.cons (.var 1) (.cons (.var 3) .nil))))) <|
    .seq (.ite (.cmp .is (.var 5) (.non)) (.seq (.ret (.non)) <|
      .pass) .pass) <|
    .seq (.ite (.cmp .isin (.var 4) (.glb 5)) (.seq (.ex (.meth .append (.var 2) (.cons (.sub (.var 5) (.int 0)) .nil))) <|
      .pass) .pass) <|
    .seq (.asg (.nm 3) (.sub (.var 5) (.int 1))) <|
    .pass)) <|
  .seq (.ret (.ite (.cmp .eq (.var 3) (.blt .len (.cons (.var 1) .nil))) (.var 2) (.non))) <|
  .pass
def b_greedy : IS := .seq (.ex (.call 15 (.cons (.var 0) .nil))) <|
  .seq (.ex (.call 16 (.cons (.var 1) .nil))) <|
  .seq (.asg (.nm 2) (.call 32 (.cons (.var 0) (.cons (.var 1) .nil)))) <|
  .seq (.ite (.cmp .is (.var 2) (.non)) (.seq (.rse 5) <|
    .pass) .pass) <|
  .seq (.ret (.var 2)) <|
  .pass
def b_misread : IS := .seq (.ex (.call 15 (.cons (.var 0) .nil))) <|
  .seq (.ex (.call 6 (.cons (.var 1) .nil))) <|
  .seq (.frl (.nm 2) .seq (.cons (.call 11 (.cons (.var 1) .nil)) .nil) (.seq (.asg (.nm 3) (.comp (.nm 4) .seq (.cons (.var 0) .nil) [4] (.cmp .isin (.var 4) (.glb 5)) (.call 18 (.cons (.var 4) (.cons (.var 2) .nil))))) <|
    .seq (.ite (.cmp .ne (.call 32 (.cons (.var 0) (.cons (.call 20 (.cons (.var 0) (.cons (.var 2) .nil))) .nil))) (.var 3)) (.seq (.ret (.var 2)) <|
      .pass) .pass) <|
    .pass)) <|
  .seq (.ret (.non)) <|
  .pass
def b_confused : IS := .seq (.ex (.call 15 (.cons (.var 0) .nil))) <|
  .seq (.ex (.call 15 (.cons (.var 1) .nil))) <|
  .seq (.ex (.call 6 (.cons (.var 2) .nil))) <|
  .seq (.asg (.nm 3) (.call 22 (.cons (.var 1) (.cons (.var 2) .nil)))) <|
  .seq (.frl (.nm 4) .seq (.cons (.call 11 (.cons (.var 2) .nil)) .nil) (.seq (.asg (.nm 5) (.comp (.nm 6) .seq (.cons (.meth .get (.var 3) (.cons (.call 20 (.cons (.var 0) (.cons (.var 4) .nil))) (.cons (.lst .nil) .nil))) .nil) [6] (.cmp .ne (.var 6) (.var 4)) (.var 6))) <|
    .seq (.ite (.cmp .ne (.var 5) (.lst .nil)) (.seq (.ret (.tup (.cons (.var 4) (.cons (.sub (.var 5) (.int 0)) .nil)))) <|
      .pass) .pass) <|
    .pass)) <|
  .seq (.ret (.non)) <|
  .pass
def b_need_patterns : IS := .seq (.ite (.or (.not (.blt .isTup (.cons (.var 0) .nil))) (.or (.not (.chain .le .le (.int 1) (.blt .len (.cons (.var 0) .nil)) (.glb 8))) (.not (.blt .all (.cons (.comp (.nm 1) .seq (.cons (.var 0) .nil) [1] .nil (.call 14 (.cons (.var 1) .nil))) .nil))))) (.seq (.nev) <|
    .pass) .pass) <|
  .pass
def b_fitting_of : IS := .seq (.ret (.comp (.tp [2, 3]) .enm (.cons (.var 0) .nil) [2, 3] (.blt .all (.cons (.comp (.nm 4) .seq (.cons (.var 1) .nil) [4] .nil (.cmp .isin (.var 4) (.var 3))) .nil)) (.var 2))) <|
  .pass
def b_fitting : IS := .seq (.ex (.call 36 (.cons (.var 0) .nil))) <|
  .seq (.ex (.call 6 (.cons (.var 1) .nil))) <|
  .seq (.ite (.or (.not (.blt .isSeq (.cons (.var 2) .nil))) (.not (.blt .all (.cons (.comp (.nm 3) .seq (.cons (.var 2) .nil) [3] .nil (.blt .isStr (.cons (.var 3) .nil))) .nil)))) (.seq (.nev) <|
    .pass) .pass) <|
  .seq (.ret (.call 37 (.cons (.comp (.nm 4) .seq (.cons (.var 0) .nil) [4] .nil (.call 22 (.cons (.var 4) (.cons (.var 1) .nil)))) (.cons (.var 2) .nil)))) <|
  .pass
def b_is_telling : IS := .seq (.frl (.tp [3, 4]) .enm (.cons (.var 0) .nil) (.seq (.asg (.nm 5) (.call 20 (.cons (.var 4) (.cons (.var 2) .nil)))) <|
    .seq (.ite (.blt .any (.cons (.comp (.tp [6, 7]) .enm (.cons (.var 1) .nil) [6, 7] (.cmp .ne (.var 6) (.var 3)) (.cmp .isin (.var 5) (.var 7))) .nil)) (.seq (.ret (.bl false)) <|
      .pass) .pass) <|
    .pass)) <|
  .seq (.ret (.bl true)) <|
  .pass
def b_telling : IS := .seq (.ex (.call 36 (.cons (.var 0) .nil))) <|
  .seq (.ex (.call 6 (.cons (.var 1) .nil))) <|
  .seq (.asg (.nm 2) (.comp (.nm 3) .seq (.cons (.var 0) .nil) [3] .nil (.call 22 (.cons (.var 3) (.cons (.var 1) .nil))))) <|
  .seq (.frl (.nm 4) .seq (.cons (.call 11 (.cons (.var 1) .nil)) .nil) (.seq (.ite (.call 39 (.cons (.var 0) (.cons (.var 2) (.cons (.var 4) .nil)))) (.seq (.ret (.var 4)) <|
      .pass) .pass) <|
    .pass)) <|
  .seq (.ret (.non)) <|
  .pass
def b_Reader_init : IS := .seq (.ex (.call 36 (.cons (.var 1) .nil))) <|
  .seq (.ex (.call 6 (.cons (.var 2) .nil))) <|
  .seq (.setfld (.var 0) 0 (.comp (.nm 3) .seq (.cons (.var 1) .nil) [3] .nil (.call 22 (.cons (.var 3) (.cons (.var 2) .nil))))) <|
  .seq (.setfld (.var 0) 1 (.lst .nil)) <|
  .pass
def b_Reader_candidates : IS := .seq (.ret (.call 37 (.cons (.fld (.var 0) 0) (.cons (.fld (.var 0) 1) .nil)))) <|
  .pass
def b_Reader_feed : IS := .seq (.ex (.call 16 (.cons (.var 1) .nil))) <|
  .seq (.ex (.meth .append (.fld (.var 0) 1) (.cons (.var 1) .nil))) <|
  .seq (.ret (.mcl 62 (.var 0) .nil)) <|
  .pass
def b_Reader_only : IS := .seq (.asg (.nm 2) (.lst .nil)) <|
  .seq (.frl (.nm 3) .seq (.cons (.mcl 62 (.var 0) .nil) .nil) (.seq (.ex (.meth .extend (.var 2) (.cons (.meth .get (.sub (.fld (.var 0) 0) (.var 3)) (.cons (.var 1) (.cons (.lst .nil) .nil))) .nil))) <|
    .pass)) <|
  .seq (.ret (.ite (.and (.cmp .ne (.var 2) (.lst .nil)) (.cmp .eq (.blt .minD (.cons (.var 2) .nil)) (.blt .maxD (.cons (.var 2) .nil)))) (.sub (.var 2) (.int 0)) (.non))) <|
  .pass
def b_Reader_certain : IS := .seq (.ex (.call 16 (.cons (.var 1) .nil))) <|
  .seq (.ret (.mcl 63 (.var 0) (.cons (.var 1) .nil))) <|
  .pass
def b_Reader_len : IS := .seq (.ret (.blt .len (.cons (.fld (.var 0) 1) .nil))) <|
  .pass
def b_Reader_uncertain : IS := .seq (.asg (.nm 1) (.lst .nil)) <|
  .seq (.frl (.nm 2) .seq (.cons (.fld (.var 0) 1) .nil) (.seq (.ite (.and (.cmp .nin (.var 2) (.var 1)) (.cmp .is (.mcl 63 (.var 0) (.cons (.var 2) .nil)) (.non))) (.seq (.ex (.meth .append (.var 1) (.cons (.var 2) .nil))) <|
      .pass) .pass) <|
    .pass)) <|
  .seq (.ret (.var 1)) <|
  .pass
def b_Reader_copy : IS := .seq (.asg (.nm 1) (.newc 60 (.cons (.tup (.cons (.tup (.cons (.str [68]) .nil)) .nil)) (.cons (.tup (.cons (.int 2000) (.cons (.int 2000) .nil))) .nil)))) <|
  .seq (.setfld (.var 1) 0 (.fld (.var 0) 0)) <|
  .seq (.setfld (.var 1) 1 (.blt .list (.cons (.fld (.var 0) 1) .nil))) <|
  .seq (.ret (.var 1)) <|
  .pass
def b_formatted : IS := .seq (.ret (.meth .join (.str []) (.cons (.comp (.nm 1) .seq (.cons (.var 0) .nil) [1] .nil (.ite (.cmp .isin (.var 1) (.glb 5)) (.bin .add (.bin .add (.str [60]) (.var 1)) (.str [62])) (.var 1))) .nil))) <|
  .pass
def b_format_pattern : IS := .seq (.ex (.call 15 (.cons (.var 0) .nil))) <|
  .seq (.ret (.call 41 (.cons (.var 0) .nil))) <|
  .pass
def b_parse_pattern : IS := .seq (.ite (.not (.blt .isStr (.cons (.var 0) .nil))) (.seq (.nev) <|
    .pass) .pass) <|
  .seq (.asg (.nm 1) (.lst .nil)) <|
  .seq (.frl (.tp [2, 3]) .enm (.cons (.meth .split (.var 0) (.cons (.str [60]) .nil)) .nil) (.seq (.ite (.cmp .eq (.var 2) (.int 0)) (.seq (.ex (.meth .append (.var 1) (.cons (.var 3) .nil))) <|
      .pass) (.seq (.asg (.tp [4, 5, 6]) (.meth .partition (.var 3) (.cons (.str [62]) .nil))) <|
      .seq (.ex (.meth .extend (.var 1) (.cons (.lst (.cons (.var 4) (.cons (.var 6) .nil))) .nil))) <|
      .pass)) <|
    .pass)) <|
  .seq (.asg (.nm 7) (.blt .tuple (.cons (.comp (.nm 8) .seq (.cons (.var 1) .nil) [8] (.cmp .ne (.var 8) (.str [])) (.var 8)) .nil))) <|
  .seq (.ite (.or (.not (.call 14 (.cons (.var 7) .nil))) (.cmp .ne (.call 41 (.cons (.var 7) .nil)) (.var 0))) (.seq (.nev) <|
    .pass) .pass) <|
  .seq (.ret (.var 7)) <|
  .pass
end PyI
set_option autoImplicit false
set_option linter.all false
namespace PyI
def b_law_orders_k11 : IS := .seq (.asg (.nm 2) (.tup (.cons (.var 0) (.cons (.var 0) .nil)))) <|
  .seq (.par [3, 4] (.cons (.tup (.cons (.str [68]) (.cons (.var 1) (.cons (.str [77]) (.cons (.var 1) (.cons (.str [89, 89, 89, 89]) .nil)))))) (.cons (.tup (.cons (.str [77]) (.cons (.var 1) (.cons (.str [68]) (.cons (.var 1) (.cons (.str [89, 89, 89, 89]) .nil)))))) .nil))) <|
  .seq (.ite (.cmp .ne (.call 35 (.cons (.var 3) (.cons (.var 4) (.cons (.var 2) .nil)))) (.tup (.cons (.tup (.cons (.var 0) (.cons (.int 1) (.cons (.int 2) .nil)))) (.cons (.tup (.cons (.var 0) (.cons (.int 2) (.cons (.int 1) .nil)))) .nil)))) (.seq (.ret (.bl false)) <|
    .pass) .pass) <|
  .seq (.ite (.cmp .ne (.call 40 (.cons (.tup (.cons (.var 3) (.cons (.var 4) .nil))) (.cons (.var 2) .nil))) (.tup (.cons (.var 0) (.cons (.int 1) (.cons (.int 13) .nil))))) (.seq (.ret (.bl false)) <|
    .pass) .pass) <|
  .seq (.ite (.cmp .ne (.call 35 (.cons (.var 4) (.cons (.var 3) (.cons (.var 2) .nil)))) (.tup (.cons (.tup (.cons (.var 0) (.cons (.int 1) (.cons (.int 2) .nil)))) (.cons (.tup (.cons (.var 0) (.cons (.int 2) (.cons (.int 1) .nil)))) .nil)))) (.seq (.ret (.bl false)) <|
    .pass) .pass) <|
  .seq (.ite (.cmp .isn (.call 35 (.cons (.var 3) (.cons (.var 3) (.cons (.var 2) .nil)))) (.non)) (.seq (.ret (.bl false)) <|
    .pass) .pass) <|
  .seq (.ite (.or (.cmp .ne (.call 26 (.cons (.var 3) (.cons (.var 2) .nil))) (.tup (.cons (.var 0) (.cons (.int 1) (.cons (.int 9) .nil))))) (.cmp .ne (.call 26 (.cons (.var 4) (.cons (.var 2) .nil))) (.tup (.cons (.var 0) (.cons (.int 1) (.cons (.int 9) .nil)))))) (.seq (.ret (.bl false)) <|
    .pass) .pass) <|
  .seq (.ite (.cmp .ne (.comp (.nm 5) .seq (.cons (.tup (.cons (.var 3) (.cons (.var 4) .nil))) .nil) [5] .nil (.call 25 (.cons (.var 5) (.cons (.var 2) .nil)))) (.lst (.cons (.non) (.cons (.non) .nil)))) (.seq (.ret (.bl false)) <|
    .pass) .pass) <|
  .seq (.ret (.cmp .eq (.call 27 (.cons (.var 3) (.cons (.var 2) .nil))) (.tup (.cons (.int 8) (.cons (.int 10) .nil))))) <|
  .pass
def b_law_k11_t18 : IS := .seq (.asg (.nm 6) (.call 23 (.cons (.tup (.cons (.str [87, 68]) (.cons (.str [77, 79, 78]) .nil))) (.cons (.var 3) (.cons (.str [115, 97, 116, 102, 101, 98]) .nil))))) <|
  .seq (.ite (.not (.cmp .isin (.blt .len (.cons (.var 6) .nil)) (.tup (.cons (.int 4) (.cons (.int 5) .nil))))) (.seq (.ret (.bl false)) <|
    .pass) .pass) <|
  .seq (.ite (.not (.blt .all (.cons (.comp (.tp [7, 8]) .zip2 (.cons (.var 6) (.cons (.slice (.var 6) (.int 1) .nil) .nil)) [7, 8] .nil (.cmp .eq (.bin .add (.sub (.var 7) (.int 2)) (.int 7)) (.sub (.var 8) (.int 2)))) .nil))) (.seq (.ret (.bl false)) <|
    .pass) .pass) <|
  .seq (.ret (.cmp .eq (.call 25 (.cons (.tup (.cons (.str [87, 68]) .nil)) (.cons (.var 3) .nil))) (.tup (.cons (.tup (.cons (.var 2) (.cons (.int 1) (.cons (.int 1) .nil)))) (.cons (.tup (.cons (.var 2) (.cons (.int 1) (.cons (.int 8) .nil)))) .nil))))) <|
  .pass
def b_law_k11_t15 : IS := .seq (.asg (.nm 5) (.call 23 (.cons (.tup (.cons (.str [74, 74, 74]) .nil)) (.cons (.var 3) (.cons (.str [51, 54, 54]) .nil))))) <|
  .seq (.ite (.cmp .ne (.var 5) (.ite (.var 4) (.lst (.cons (.tup (.cons (.var 2) (.cons (.int 12) (.cons (.int 31) .nil)))) .nil)) (.lst .nil))) (.seq (.ret (.bl false)) <|
    .pass) .pass) <|
  .seq (.ite (.cmp .ne (.call 23 (.cons (.tup (.cons (.str [68, 68]) (.cons (.str [77, 79, 78]) .nil))) (.cons (.var 3) (.cons (.str [50, 57, 102, 101, 98]) .nil)))) (.ite (.var 4) (.lst (.cons (.tup (.cons (.var 2) (.cons (.int 2) (.cons (.int 29) .nil)))) .nil)) (.lst .nil))) (.seq (.ret (.bl false)) <|
    .pass) .pass) <|
  b_law_k11_t18
def b_law_k11_t13 : IS := .seq (.ite (.or (.cmp .ne (.call 30 (.cons (.tup (.cons (.str [68]) (.cons (.str [77]) .nil))) (.cons (.var 3) .nil))) (.lst (.cons (.int 0) .nil))) (.cmp .ne (.call 30 (.cons (.tup (.cons (.str [89, 89, 89, 89]) (.cons (.str [77]) (.cons (.str [68]) .nil)))) (.cons (.var 3) .nil))) (.lst (.cons (.int 1) .nil)))) (.seq (.ret (.bl false)) <|
    .pass) .pass) <|
  .seq (.ite (.cmp .isn (.call 30 (.cons (.tup (.cons (.str [68, 68]) (.cons (.str [89, 89]) .nil))) (.cons (.var 3) .nil))) (.non)) (.seq (.ret (.bl false)) <|
    .pass) .pass) <|
  b_law_k11_t15
def b_law_k11_t11 : IS := .seq (.ite (.or (.cmp .ne (.call 34 (.cons (.tup (.cons (.str [68]) (.cons (.str [77]) .nil))) (.cons (.var 3) .nil))) (.tup (.cons (.var 2) (.cons (.int 1) (.cons (.int 1) .nil))))) (.cmp .isn (.call 34 (.cons (.tup (.cons (.str [68, 68]) (.cons (.str [77, 77]) (.cons (.str [89, 89]) .nil)))) (.cons (.var 3) .nil))) (.non))) (.seq (.ret (.bl false)) <|
    .pass) .pass) <|
  .seq (.ite (.cmp .ne (.call 34 (.cons (.tup (.cons (.str [74]) (.cons (.str [89, 89, 89, 89]) .nil))) (.cons (.var 3) .nil))) (.tup (.cons (.var 2) (.cons (.int 1) (.cons (.int 1) .nil))))) (.seq (.ret (.bl false)) <|
    .pass) .pass) <|
  b_law_k11_t13
def b_law_k11_t8 : IS := .seq (.ite (.or (.cmp .isn (.call 26 (.cons (.tup (.cons (.str [77, 77]) (.cons (.str [68, 68]) .nil))) (.cons (.var 3) .nil))) (.non)) (.cmp .isn (.call 26 (.cons (.tup (.cons (.str [89, 89, 89, 89]) (.cons (.str [74, 74, 74]) .nil))) (.cons (.var 3) .nil))) (.non))) (.seq (.ret (.bl false)) <|
    .pass) .pass) <|
  .seq (.ite (.cmp .ne (.call 26 (.cons (.tup (.cons (.str [74]) .nil)) (.cons (.var 3) .nil))) (.tup (.cons (.var 2) (.cons (.int 1) (.cons (.int 9) .nil))))) (.seq (.ret (.bl false)) <|
    .pass) .pass) <|
  .seq (.ite (.or (.cmp .ne (.call 26 (.cons (.tup (.cons (.str [77, 79, 78]) (.cons (.str [68, 68]) .nil))) (.cons (.var 3) .nil))) (.tup (.cons (.var 2) (.cons (.int 1) (.cons (.int 31) .nil))))) (.cmp .ne (.call 26 (.cons (.tup (.cons (.str [68, 68]) (.cons (.str [77, 77]) .nil))) (.cons (.var 3) .nil))) (.tup (.cons (.var 2) (.cons (.int 1) (.cons (.int 31) .nil)))))) (.seq (.ret (.bl false)) <|
    .pass) .pass) <|
  b_law_k11_t11
def b_law_k11_t6 : IS := .seq (.ite (.or (.cmp .isn (.call 25 (.cons (.tup (.cons (.str [68, 68]) (.cons (.str [77]) .nil))) (.cons (.var 3) .nil))) (.non)) (.cmp .isn (.call 25 (.cons (.tup (.cons (.str [77, 77]) (.cons (.str [68]) .nil))) (.cons (.var 3) .nil))) (.non))) (.seq (.ret (.bl false)) <|
    .pass) .pass) <|
  .seq (.ite (.cmp .isn (.call 25 (.cons (.tup (.cons (.str [68]) (.cons (.str [77, 79, 78]) .nil))) (.cons (.var 3) .nil))) (.non)) (.seq (.ret (.bl false)) <|
    .pass) .pass) <|
  b_law_k11_t8
def b_law_k11_t4 : IS := .seq (.ite (.cmp .ne (.call 25 (.cons (.tup (.cons (.str [68]) (.cons (.str [77]) .nil))) (.cons (.var 3) .nil))) (.tup (.cons (.tup (.cons (.var 2) (.cons (.int 1) (.cons (.int 11) .nil)))) (.cons (.tup (.cons (.var 2) (.cons (.int 11) (.cons (.int 1) .nil)))) .nil)))) (.seq (.ret (.bl false)) <|
    .pass) .pass) <|
  .seq (.ite (.cmp .ne (.call 25 (.cons (.tup (.cons (.str [77]) (.cons (.str [68]) .nil))) (.cons (.var 3) .nil))) (.tup (.cons (.tup (.cons (.var 2) (.cons (.int 1) (.cons (.int 11) .nil)))) (.cons (.tup (.cons (.var 2) (.cons (.int 11) (.cons (.int 1) .nil)))) .nil)))) (.seq (.ret (.bl false)) <|
    .pass) .pass) <|
  b_law_k11_t6
def b_law_k11_t2 : IS := .seq (.par [3, 4] (.cons (.tup (.cons (.var 2) (.cons (.var 2) .nil))) (.cons (.cmp .eq (.blt .len (.cons (.call 105 (.cons (.tup (.cons (.var 2) (.cons (.var 2) .nil))) .nil)) .nil)) (.int 366)) .nil))) <|
  .seq (.ite (.not (.call 200 (.cons (.var 2) (.cons (.call 101 (.cons (.var 0) (.cons (.var 1) (.cons (.lst (.cons (.str [47]) (.cons (.str [45]) (.cons (.str [46]) (.cons (.str [32]) .nil))))) .nil)))) .nil)))) (.seq (.ret (.bl false)) <|
    .pass) .pass) <|
  b_law_k11_t4
def b_law_k11 : IS := .seq (.asg (.nm 1) (.lst (.cons (.int 0) (.cons (.int 0) .nil)))) <|
  .seq (.asg (.nm 2) (.bin .add (.int 1600) (.call 100 (.cons (.var 0) (.cons (.var 1) (.cons (.int 800) .nil)))))) <|
  b_law_k11_t2
end PyI
set_option autoImplicit false
set_option linter.all false
set_option Elab.async false
set_option maxRecDepth 100000
set_option maxHeartbeats 4000000
namespace PyI
/-! ### the walk's steps as single laws, one per construct -/
theorem nil_t : isNil .nil = true := rfl
section
variable (Γ : Sig) (ρ : Env) (S : Store) (Q : PQ) (R : PR)
theorem e_var (i : Nat) : wpE Γ (.var i) ρ S Q R = ∃ v, getv ρ i = some v ∧ Q v S := by rw [wpE]
theorem e_glb (i : Nat) : wpE Γ (.glb i) ρ S Q R = ∃ v, Γ.gl i = some v ∧ Q v S := by rw [wpE]
theorem e_int (i : Int) : wpE Γ (.int i) ρ S Q R = Q (.int i) S := by rw [wpE]
theorem e_str (i : Txt) : wpE Γ (.str i) ρ S Q R = Q (.str i) S := by rw [wpE]
theorem e_bl (i : Bool) : wpE Γ (.bl i) ρ S Q R = Q (.bl i) S := by rw [wpE]
theorem e_non : wpE Γ .non ρ S Q R = Q .non S := by rw [wpE]
theorem e_bin (op : BOp) (a b : IE) : wpE Γ (.bin op a b) ρ S Q R = wpE Γ a ρ S (fun x S1 => wpE Γ b ρ S1 (fun y S2 => binop op x y S2 Q) R) R := by rw [wpE]
theorem e_cmp (op : COp) (a b : IE) : wpE Γ (.cmp op a b) ρ S Q R = wpE Γ a ρ S (fun x S1 => wpE Γ b ρ S1 (fun y S2 => cmpop op x y S2 Q) R) R := by rw [wpE]
theorem e_chain (o1 o2 : COp) (a b c : IE) : wpE Γ (.chain o1 o2 a b c) ρ S Q R = wpE Γ a ρ S (fun x S1 => wpE Γ b ρ S1 (fun y S2 => cmpop o1 x y S2 (tst fun k S3 =>
      if k = true then wpE Γ c ρ S3 (fun z S4 => cmpop o2 y z S4 Q) R else Q (.bl false) S3)) R) R := by rw [wpE]
theorem e_neg (a : IE) : wpE Γ (.neg a) ρ S Q R = wpE Γ a ρ S (fun x S1 => negop x S1 Q) R := by rw [wpE]
theorem e_and (a b : IE) : wpE Γ (.and a b) ρ S Q R = wpE Γ a ρ S (tst fun k S1 => if k = true then wpE Γ b ρ S1 Q R else Q (.bl false) S1) R := by rw [wpE]
theorem e_or (a b : IE) : wpE Γ (.or a b) ρ S Q R = wpE Γ a ρ S (tst fun k S1 => if k = true then Q (.bl true) S1 else wpE Γ b ρ S1 Q R) R := by rw [wpE]
theorem e_not (a : IE) : wpE Γ (.not a) ρ S Q R = wpE Γ a ρ S (tst fun k S1 => Q (.bl (!k)) S1) R := by rw [wpE]
theorem e_ite (c a b : IE) : wpE Γ (.ite c a b) ρ S Q R = wpE Γ c ρ S (tst fun k S1 => if k = true then wpE Γ a ρ S1 Q R else wpE Γ b ρ S1 Q R) R := by rw [wpE]
theorem e_tup (a : IE) : wpE Γ (.tup a) ρ S Q R = wpA Γ a ρ S (fun vs S1 => Q (.tup vs) S1) R := by rw [wpE]
theorem e_lst (a : IE) : wpE Γ (.lst a) ρ S Q R = wpA Γ a ρ S (fun vs S1 => Q (.ref S1.length) (S1 ++ [.lst vs])) R := by rw [wpE]
theorem e_dic0 : wpE Γ .dic0 ρ S Q R = Q (.ref S.length) (S ++ [.dic []]) := by rw [wpE]
theorem e_sub (a i : IE) : wpE Γ (.sub a i) ρ S Q R = wpE Γ a ρ S (fun x S1 => wpE Γ i ρ S1 (fun y S2 => subop x y S2 Q) R) R := by rw [wpE]
def wpO (e : IE) (K : Option Int → Store → Prop) : Prop := if isNil e = true then K none S else wpE Γ e ρ S (opt K) R
theorem e_slice (a lo hi : IE) : wpE Γ (.slice a lo hi) ρ S Q R = wpE Γ a ρ S (fun x S1 => wpO Γ ρ S1 R lo fun l S2 => wpO Γ ρ S2 R hi fun h S3 => cutop x l h S3 Q) R := by rw [wpE]; rfl
theorem wo_nil (K : Option Int → Store → Prop) : wpO Γ ρ S R .nil K = K none S := rfl
theorem wo_int (i : Int) (K : Option Int → Store → Prop) : wpO Γ ρ S R (.int i) K = wpE Γ (.int i) ρ S (opt K) R := rfl
theorem wo_var (i : Nat) (K : Option Int → Store → Prop) : wpO Γ ρ S R (.var i) K = wpE Γ (.var i) ρ S (opt K) R := rfl
theorem wo_bin (o : BOp) (a b : IE) (K : Option Int → Store → Prop) : wpO Γ ρ S R (.bin o a b) K = wpE Γ (.bin o a b) ρ S (opt K) R := rfl
theorem wo_neg (a : IE) (K : Option Int → Store → Prop) : wpO Γ ρ S R (.neg a) K = wpE Γ (.neg a) ρ S (opt K) R := rfl
theorem wo_blt (o : BI) (a : IE) (K : Option Int → Store → Prop) : wpO Γ ρ S R (.blt o a) K = wpE Γ (.blt o a) ρ S (opt K) R := rfl
theorem wo_call (o : Nat) (a : IE) (K : Option Int → Store → Prop) : wpO Γ ρ S R (.call o a) K = wpE Γ (.call o a) ρ S (opt K) R := rfl
theorem wo_sub (o a : IE) (K : Option Int → Store → Prop) : wpO Γ ρ S R (.sub o a) K = wpE Γ (.sub o a) ρ S (opt K) R := rfl
theorem e_lrg (a : IE) : wpE Γ (.lrg a) ρ S Q R = wpE Γ a ρ S (fun x S1 => ∃ k : Int, x = .int k ∧ -100000 ≤ k ∧ k ≤ 100000 ∧ Q (.ref S1.length) (S1 ++ [.lst ((List.range k.toNat).map fun i => .int (i : Nat))])) R := by rw [wpE]
theorem e_lng (k : Nat) (i : IE) : wpE Γ (.glbsub k i) ρ S Q R = wpE Γ i ρ S (fun y S1 => ∃ t n, y = .str t ∧ lngT.lookup t = some n ∧ Q (.int n) S1) R := by rw [wpE]
theorem e_rev (a : IE) : wpE Γ (.rev a) ρ S Q R = wpE Γ a ρ S (fun x S1 => revop x S1 Q) R := by rw [wpE]
theorem e_fld (o : IE) (f : Nat) : wpE Γ (.fld o f) ρ S Q R = wpE Γ o ρ S (fun x S1 => ∃ n fs v, x = .ref n ∧ S1[n]? = some (.ins 0 fs) ∧ fs.lookup f = some v ∧ Q v S1) R := by rw [wpE]
theorem e_newc (f : Nat) (a : IE) : wpE Γ (.newc f a) ρ S Q R = wpA Γ a ρ S (fun vs S1 => Γ.ct f (.ref S1.length :: vs) (S1 ++ [.ins 0 []]) (fun v S2 => v = .non ∧ Q (.ref S1.length) S2) R) R := by rw [wpE]
theorem e_mcl (f : Nat) (o a : IE) : wpE Γ (.mcl f o a) ρ S Q R = wpE Γ o ρ S (fun x S1 => (∃ n fs, x = .ref n ∧ S1[n]? = some (.ins 0 fs)) ∧ wpA Γ a ρ S1 (fun vs S2 => Γ.ct f (x :: vs) S2 Q R) R) R := by rw [wpE]
theorem e_lenc (f : Nat) (o : IE) : wpE Γ (.lenc f o) ρ S Q R = wpE Γ o ρ S (fun x S1 => (∃ n fs, x = .ref n ∧ S1[n]? = some (.ins 0 fs)) ∧ Γ.ct f [x] S1 (fun v S2 => ∃ k : Nat, v = .int (k : Nat) ∧ k < 2 ^ 60 ∧ Q v S2) (fun _ _ => False)) R := by rw [wpE]
theorem e_orv (a b : IE) : wpE Γ (.orv a b) ρ S Q R = wpE Γ a ρ S (fun x S1 => (x = .non ∧ wpE Γ b ρ S1 Q R) ∨ ∃ n xs, x = .ref n ∧ getL S1 n = some xs ∧ if xs.isEmpty = true then wpE Γ b ρ S1 Q R else Q x S1) R := by rw [wpE]
theorem e_selc (fs : List Nat) (i a : IE) : wpE Γ (.selc fs i a) ρ S Q R = wpE Γ i ρ S (fun y S1 => ∃ (k f : Nat), y = .int (k : Nat) ∧ fs[k]? = some f ∧ wpA Γ a ρ S1 (fun vs S2 => Γ.ct f vs S2 Q R) R) R := by rw [wpE]
theorem e_call (f : Nat) (a : IE) : wpE Γ (.call f a) ρ S Q R = wpA Γ a ρ S (fun vs S1 => Γ.ct f vs S1 Q R) R := by rw [wpE]
theorem e_blt (f : BI) (a : IE) : wpE Γ (.blt f a) ρ S Q R = wpA Γ a ρ S (fun vs S1 => bltop f vs S1 Q) R := by rw [wpE]
theorem e_meth (m : MI) (o a : IE) : wpE Γ (.meth m o a) ρ S Q R = wpE Γ o ρ S (fun x S1 => mty m x S1 ∧ wpA Γ a ρ S1 (fun vs S2 => methop m x vs S2 Q) R) R := by rw [wpE]
def compP (t : Tg) (own : List Nat) (c e : IE) (items : List PV) (keep : Store → Prop) : Prop :=
  ∃ I : Nat → List PV → Store → Prop, I 0 [] (S ++ [.lst []]) ∧ (∀ i acc S', I i acc S' → S'[S.length]? = some (.lst acc) ∧ keep S') ∧
        (∀ i x acc S', items[i]? = some x → I i acc S' → ∃ ρ2, setTg (wipeP ρ own) t x = some ρ2 ∧
          let K3 := fun (b : Bool) (S3 : Store) => if b = true then
              wpE Γ e ρ2 S3 (fun v S4 => S4[S.length]? = some (.lst acc) ∧ acc.length < big ∧ I (i + 1) (acc ++ [v]) (S4.set S.length (.lst (acc ++ [v])))) (fun _ _ => False)
            else I (i + 1) acc S3
          if isNil c = true then K3 true S' else wpE Γ c ρ2 S' (tst K3) (fun _ _ => False)) ∧
        (∀ acc S', I items.length acc S' → Q (.ref S.length) S')
theorem e_comp (t : Tg) (k : ItK) (its : IE) (own : List Nat) (c e : IE) : wpE Γ (.comp t k its own c e) ρ S Q R = wpA Γ its ρ S (fun vs S1 => itemsOf k vs S1 fun items keep S2 => compP Γ ρ S2 Q t own c e items keep) R := by rw [wpE]; rfl
theorem a_nil (K : List PV → Store → Prop) : wpA Γ .nil ρ S K R = K [] S := by rw [wpA]
theorem a_cons (a b : IE) (K : List PV → Store → Prop) : wpA Γ (.cons a b) ρ S K R = wpE Γ a ρ S (fun v S1 => wpA Γ b ρ S1 (fun vs S2 => K (v :: vs) S2) R) R := by rw [wpA]
variable (D : PEnds)
theorem s_pass : wpS Γ .pass ρ S D = D.nx ρ S := by rw [wpS]
theorem s_seq (a b : IS) : wpS Γ (.seq a b) ρ S D = wpS Γ a ρ S ⟨fun ρ' S' => wpS Γ b ρ' S' D, D.rt, D.bk, D.ct, D.rs⟩ := by rw [wpS]
theorem s_nm (i : Nat) (e : IE) : wpS Γ (.asg (.nm i) e) ρ S D = wpE Γ e ρ S (fun v S1 => D.nx (ρ.set i (some v)) S1) D.rs := by
  rw [wpS]; congr 1; funext v S1; exact propext ⟨fun ⟨r, h, q⟩ => by cases h; exact q, fun q => ⟨_, rfl, q⟩⟩
theorem s_tp (l : List Nat) (e : IE) : wpS Γ (.asg (.tp l) e) ρ S D = wpE Γ e ρ S (fun v S1 => ∃ ρ2, setTg ρ (.tp l) v = some ρ2 ∧ D.nx ρ2 S1) D.rs := by rw [wpS]
theorem s_par (l : List Nat) (e : IE) : wpS Γ (.par l e) ρ S D = wpA Γ e ρ S (fun vs S1 => ∃ ρ2, setAll ρ l vs = some ρ2 ∧ D.nx ρ2 S1) D.rs := by rw [wpS]
theorem s_aug (i : Nat) (e : IE) : wpS Γ (.aug i e) ρ S D = ∃ a, getv ρ i = some (.int a) ∧ wpE Γ e ρ S (fun y S1 => ∃ b, y = .int b ∧ D.nx (ρ.set i (some (.int (a + b)))) S1) D.rs := by rw [wpS]
theorem s_setsub (o i e : IE) : wpS Γ (.setsub o i e) ρ S D = wpE Γ e ρ S (fun v S1 => wpE Γ o ρ S1 (fun x S2 => wpE Γ i ρ S2 (fun y S3 => setop x y v S3 fun S4 => D.nx ρ S4) D.rs) D.rs) D.rs := by rw [wpS]
theorem s_augsub (o i e : IE) : wpS Γ (.augsub o i e) ρ S D = wpE Γ o ρ S (fun x S1 => wpE Γ i ρ S1 (fun y S2 => ∃ n k xs a, x = .ref n ∧ y = .int (Int.ofNat k) ∧ S2[n]? = some (.lst xs) ∧ xs[k]? = some (.int a) ∧ k < 2 ^ 60 ∧
      wpE Γ e ρ S2 (fun v S4 => ∃ b ys, v = .int b ∧ S4[n]? = some (.lst ys) ∧ k < ys.length ∧ D.nx ρ (S4.set n (.lst (ys.set k (.int (a + b)))))) D.rs) D.rs) D.rs := by rw [wpS]
theorem s_ex (e : IE) : wpS Γ (.ex e) ρ S D = wpE Γ e ρ S (fun _ S1 => D.nx ρ S1) D.rs := by rw [wpS]
theorem s_ret (e : IE) : wpS Γ (.ret e) ρ S D = wpE Γ e ρ S D.rt D.rs := by rw [wpS]
theorem s_retn : wpS Γ .retn ρ S D = D.rt .non S := by rw [wpS]
theorem s_ite (c : IE) (a b : IS) : wpS Γ (.ite c a b) ρ S D = wpE Γ c ρ S (tst fun k S1 => if k = true then wpS Γ a ρ S1 D else wpS Γ b ρ S1 D) D.rs := by rw [wpS]
def whlP (c : IE) (b : IS) : Prop := ∃ I : Nat → Env → Store → Prop, (∃ m, I m ρ S) ∧ ∀ m ρ' S', I m ρ' S' → wpE Γ c ρ' S' (tst fun k S1 =>
      if k = true then wpS Γ b ρ' S1 ⟨fun ρ2 S2 => ∃ m', m' < m ∧ I m' ρ2 S2, D.rt, D.nx, fun ρ2 S2 => ∃ m', m' < m ∧ I m' ρ2 S2, D.rs⟩ else D.nx ρ' S1) D.rs
theorem s_whl (c : IE) (b : IS) : wpS Γ (.whl c b) ρ S D = whlP Γ ρ S D c b := by rw [wpS]; rfl
def forP (t : Tg) (b : IS) (items : List PV) (keep : Store → Prop) : Prop := ∃ I : Nat → Env → Store → Prop, I 0 ρ S ∧ (∀ i ρ' S', I i ρ' S' → keep S') ∧
        (∀ i x ρ' S', items[i]? = some x → I i ρ' S' → ∃ ρ2, setTg ρ' t x = some ρ2 ∧ wpS Γ b ρ2 S' ⟨I (i + 1), D.rt, D.nx, I (i + 1), D.rs⟩) ∧
        (∀ ρ' S', I items.length ρ' S' → D.nx ρ' S')
theorem s_for (t : Tg) (k : ItK) (its : IE) (b : IS) : wpS Γ (.frl t k its b) ρ S D = wpA Γ its ρ S (fun vs S1 => itemsOf k vs S1 fun items keep S2 => forP Γ ρ S2 D t b items keep) D.rs := by rw [wpS]; rfl
theorem s_rse (c : Nat) : wpS Γ (.rse c) ρ S D = D.rs c S := by rw [wpS]
theorem s_tri (b : IS) (k : Nat) : wpS Γ (.tri b k) ρ S D = wpS Γ b ρ S ⟨D.nx, D.rt, D.bk, D.ct, fun c S' => c < 7 ∧ hndl k c S' D.rt⟩ := by rw [wpS]
theorem s_setfld (o : IE) (f : Nat) (e : IE) : wpS Γ (.setfld o f e) ρ S D = wpE Γ e ρ S (fun v S1 => wpE Γ o ρ S1 (fun x S2 => ∃ n fs, x = .ref n ∧ S2[n]? = some (.ins 0 fs) ∧ fs.length < 100 ∧ D.nx ρ (S2.set n (.ins 0 (putFd f v fs)))) D.rs) D.rs := by rw [wpS]
theorem s_brk : wpS Γ .brk ρ S D = D.bk ρ S := by rw [wpS]
theorem s_cnt : wpS Γ .cnt ρ S D = D.ct ρ S := by rw [wpS]
end
section
variable (S : Store) (Q : PQ)
theorem b_add (i j : Int) : binop .add (.int i) (.int j) S Q = Q (.int (i + j)) S := rfl
theorem b_adds (s t : Txt) : binop .add (.str s) (.str t) S Q = (s.length + t.length ≤ big ∧ Q (.str (s ++ t)) S) := rfl
theorem b_addt (a b : List PV) : binop .add (.tup a) (.tup b) S Q = (a ≠ [] ∧ b ≠ [] ∧ a.length + b.length ≤ 100000 ∧ Q (.tup (a ++ b)) S) := rfl
theorem b_addr (m n : Nat) : binop .add (.ref m) (.ref n) S Q = ∃ a b, S[m]? = some (.lst a) ∧ S[n]? = some (.lst b) ∧ a.length + b.length ≤ big ∧ Q (.ref S.length) (S ++ [.lst (a ++ b)]) := rfl
theorem b_sub (i j : Int) : binop .sub (.int i) (.int j) S Q = Q (.int (i - j)) S := rfl
theorem b_mul (i j : Int) : binop .mul (.int i) (.int j) S Q = (mulOk i j ∧ Q (.int (i * j)) S) := rfl
theorem b_mulr (n : Nat) (k : Int) : binop .mul (.ref n) (.int k) S Q = ∃ a, S[n]? = some (.lst a) ∧ 0 ≤ k ∧ k ≤ 1000 ∧ a.length * k.toNat ≤ big ∧ Q (.ref S.length) (S ++ [.lst (List.replicate k.toNat a).flatten]) := rfl
theorem b_mult (a : List PV) (k : Int) : binop .mul (.tup a) (.int k) S Q = (a ≠ [] ∧ 2 ≤ k ∧ k ≤ 1000 ∧ a.length ≤ 1000 ∧ Q (.tup (List.replicate k.toNat a).flatten) S) := rfl
theorem b_muls (s : Txt) (k : Int) : binop .mul (.str s) (.int k) S Q = ((1 ≤ s.length ∧ s.length ≤ 16) ∧ -1000 ≤ k ∧ k ≤ 1000 ∧ Q (.str (List.replicate k.toNat s).flatten) S) := rfl
theorem b_div (i j : Int) : binop .div (.int i) (.int j) S Q = (0 < j ∧ j < 1073741824 ∧ Q (.int (i / j)) S) := rfl
theorem b_mod (i j : Int) : binop .mod (.int i) (.int j) S Q = (0 < j ∧ Q (.int (i % j)) S) := rfl
theorem b_pow (i j : Int) : binop .pow (.int i) (.int j) S Q = (0 ≤ j ∧ j ≤ 1000 ∧ i.natAbs < 2 ^ 64 ∧ Q (.int (i ^ j.toNat)) S) := rfl
theorem c_eq (i j : Int) : cmpop .eq (.int i) (.int j) S Q = Q (.bl (decide (i = j))) S := rfl
theorem c_eqs (i j : Txt) : cmpop .eq (.str i) (.str j) S Q = Q (.bl (decide (i = j))) S := rfl
theorem c_eqr (m : Nat) (y : PV) : cmpop .eq (.ref m) y S Q = ∃ d e, Dn S 60 (.ref m) d ∧ Dn S 60 y e ∧ Q (.bl (d.eqv e)) S := rfl
theorem c_eqt (m : List PV) (y : PV) : cmpop .eq (.tup m) y S Q = ∃ d e, Dn S 60 (.tup m) d ∧ Dn S 60 y e ∧ Q (.bl (d.eqv e)) S := rfl
theorem c_eqn (y : PV) : cmpop .eq .non y S Q = ∃ d e, Dn S 60 .non d ∧ Dn S 60 y e ∧ Q (.bl (d.eqv e)) S := rfl
theorem c_ne (i j : Int) : cmpop .ne (.int i) (.int j) S Q = Q (.bl (!decide (i = j))) S := rfl
theorem c_nes (i j : Txt) : cmpop .ne (.str i) (.str j) S Q = Q (.bl (!decide (i = j))) S := rfl
theorem c_ner (m : Nat) (y : PV) : cmpop .ne (.ref m) y S Q = ∃ d e, Dn S 60 (.ref m) d ∧ Dn S 60 y e ∧ Q (.bl (!d.eqv e)) S := rfl
theorem c_net (m : List PV) (y : PV) : cmpop .ne (.tup m) y S Q = ∃ d e, Dn S 60 (.tup m) d ∧ Dn S 60 y e ∧ Q (.bl (!d.eqv e)) S := rfl
theorem c_nen (y : PV) : cmpop .ne .non y S Q = ∃ d e, Dn S 60 .non d ∧ Dn S 60 y e ∧ Q (.bl (!d.eqv e)) S := rfl
theorem c_lt (i j : Int) : cmpop .lt (.int i) (.int j) S Q = Q (.bl (decide (i < j))) S := rfl
theorem c_le (i j : Int) : cmpop .le (.int i) (.int j) S Q = Q (.bl (decide (i ≤ j))) S := rfl
theorem c_gt (i j : Int) : cmpop .gt (.int i) (.int j) S Q = Q (.bl (decide (j < i))) S := rfl
theorem c_ge (i j : Int) : cmpop .ge (.int i) (.int j) S Q = Q (.bl (decide (j ≤ i))) S := rfl
theorem c_lts (i j : Txt) : cmpop .lt (.str i) (.str j) S Q = Q (.bl (decide (i < j))) S := rfl
theorem c_les (i j : Txt) : cmpop .le (.str i) (.str j) S Q = Q (.bl (!decide (j < i))) S := rfl
theorem c_gts (i j : Txt) : cmpop .gt (.str i) (.str j) S Q = Q (.bl (decide (j < i))) S := rfl
theorem c_ges (i j : Txt) : cmpop .ge (.str i) (.str j) S Q = Q (.bl (!decide (i < j))) S := rfl
theorem c_ltt (x y : List PV) : cmpop .lt (.tup x) (.tup y) S Q = ordP (.tup x) (.tup y) S fun d e => Q (.bl (ltDt d e)) S := rfl
theorem c_let (x y : List PV) : cmpop .le (.tup x) (.tup y) S Q = ordP (.tup x) (.tup y) S fun d e => Q (.bl (!ltDt e d)) S := rfl
theorem c_gtt (x y : List PV) : cmpop .gt (.tup x) (.tup y) S Q = ordP (.tup x) (.tup y) S fun d e => Q (.bl (ltDt e d)) S := rfl
theorem c_get (x y : List PV) : cmpop .ge (.tup x) (.tup y) S Q = ordP (.tup x) (.tup y) S fun d e => Q (.bl (!ltDt d e)) S := rfl
theorem c_isbb (i j : Bool) : cmpop .is (.bl i) (.bl j) S Q = Q (.bl (decide (i = j))) S := rfl
theorem c_isnn : cmpop .is .non .non S Q = Q (.bl true) S := rfl
theorem c_isbn (i : Bool) : cmpop .is (.bl i) .non S Q = Q (.bl false) S := rfl
theorem c_isin (i : Int) : cmpop .is (.int i) .non S Q = Q (.bl false) S := rfl
theorem c_issn (i : Txt) : cmpop .is (.str i) .non S Q = Q (.bl false) S := rfl
theorem c_istn (i : List PV) : cmpop .is (.tup i) .non S Q = Q (.bl false) S := rfl
theorem c_isrn (i : Nat) : cmpop .is (.ref i) .non S Q = Q (.bl false) S := rfl
theorem c_nsbb (i j : Bool) : cmpop .isn (.bl i) (.bl j) S Q = Q (.bl (!decide (i = j))) S := rfl
theorem c_nsnn : cmpop .isn .non .non S Q = Q (.bl false) S := rfl
theorem c_nsbn (i : Bool) : cmpop .isn (.bl i) .non S Q = Q (.bl true) S := rfl
theorem c_nsin (i : Int) : cmpop .isn (.int i) .non S Q = Q (.bl true) S := rfl
theorem c_nssn (i : Txt) : cmpop .isn (.str i) .non S Q = Q (.bl true) S := rfl
theorem c_nstn (i : List PV) : cmpop .isn (.tup i) .non S Q = Q (.bl true) S := rfl
theorem c_nsrn (i : Nat) : cmpop .isn (.ref i) .non S Q = Q (.bl true) S := rfl
theorem c_int (x : PV) (xs : List PV) : cmpop .isin x (.tup xs) S Q = (flat x = true ∧ xs.all flat = true ∧ Q (.bl (inP x xs)) S) := by cases x <;> rfl
theorem c_ins (s t : Txt) : cmpop .isin (.str s) (.str t) S Q = ∃ c, s = [c] ∧ Q (.bl (decide (c ∈ t))) S := rfl
theorem c_inr (x : PV) (n : Nat) : cmpop .isin x (.ref n) S Q = ((∃ xs, getL S n = some xs ∧ flat x = true ∧ xs.all flat = true ∧ Q (.bl (inP x xs)) S) ∨
      (∃ k kvs, x = .str k ∧ getD S n = some kvs ∧ Q (.bl (lkp kvs k).isSome) S) ∨
      (∃ d ds, Dn S 60 x d ∧ Dn S 60 (.ref n) (.lst ds) ∧ Q (.bl (ds.any fun z => z.eqv d)) S)) := by cases x <;> rfl
theorem c_nit (x : PV) (xs : List PV) : cmpop .nin x (.tup xs) S Q = (flat x = true ∧ xs.all flat = true ∧ Q (.bl (!inP x xs)) S) := by cases x <;> rfl
theorem c_nis (s t : Txt) : cmpop .nin (.str s) (.str t) S Q = ∃ c, s = [c] ∧ Q (.bl (!decide (c ∈ t))) S := rfl
theorem c_nir (x : PV) (n : Nat) : cmpop .nin x (.ref n) S Q = ((∃ xs, getL S n = some xs ∧ flat x = true ∧ xs.all flat = true ∧ Q (.bl (!inP x xs)) S) ∨
      (∃ k kvs, x = .str k ∧ getD S n = some kvs ∧ Q (.bl (!(lkp kvs k).isSome)) S) ∨
      (∃ d ds, Dn S 60 x d ∧ Dn S 60 (.ref n) (.lst ds) ∧ Q (.bl (!ds.any fun z => z.eqv d)) S)) := by cases x <;> rfl
theorem n_int (i : Int) : negop (.int i) S Q = Q (.int (-i)) S := rfl
theorem i_tup (xs : List PV) (i : Int) : subop (.tup xs) (.int i) S Q = ∃ v, atP xs i = some v ∧ Q v S := rfl
theorem i_str (s : Txt) (i : Int) : subop (.str s) (.int i) S Q = (s.length ≤ big ∧ ∃ c, atP s i = some c ∧ Q (.str [c]) S) := rfl
theorem i_ref (n : Nat) (i : Int) : subop (.ref n) (.int i) S Q = ∃ xs v, getL S n = some xs ∧ atP xs i = some v ∧ Q v S := rfl
theorem i_dic (n : Nat) (k : Txt) : subop (.ref n) (.str k) S Q = ∃ kvs v, getD S n = some kvs ∧ lkp kvs k = some v ∧ Q v S := rfl
theorem k_str (s : Txt) (lo hi : Option Int) : cutop (.str s) lo hi S Q = (s.length ≤ big ∧ Q (.str (cut s lo hi)) S) := rfl
theorem k_tup (xs : List PV) (lo hi : Option Int) : cutop (.tup xs) lo hi S Q = Q (.tup (cut xs lo hi)) S := rfl
theorem k_ref (n : Nat) (lo hi : Option Int) : cutop (.ref n) lo hi S Q = ∃ xs, getL S n = some xs ∧ Q (.ref S.length) (S ++ [.lst (cut xs lo hi)]) := rfl
theorem v_tup (xs : List PV) : revop (.tup xs) S Q = Q (.tup xs.reverse) S := rfl
theorem v_ref (n : Nat) : revop (.ref n) S Q = ∃ xs, getL S n = some xs ∧ Q (.ref S.length) (S ++ [.lst xs.reverse]) := rfl
theorem l_lens (s : Txt) : bltop .len [.str s] S Q = (s.length ≤ big ∧ Q (.int s.length) S) := rfl
theorem l_lent (s : List PV) : bltop .len [.tup s] S Q = Q (.int s.length) S := rfl
theorem l_lenr (n : Nat) : bltop .len [.ref n] S Q = ((∃ xs, getL S n = some xs ∧ Q (.int xs.length) S) ∨ ∃ kvs, getD S n = some kvs ∧ Q (.int kvs.length) S) := rfl
theorem l_str (i : Int) : bltop .str [.int i] S Q = (0 ≤ i ∧ i < 2 ^ 64 ∧ Q (.str (numT i.toNat)) S) := rfl
theorem l_int (s : Txt) : bltop .int [.str s] S Q = ∃ n, PySem.intText? (ofT s) = some n ∧ s.length ≤ 640 ∧ Q (.int n) S := rfl
theorem l_dictP (n : Nat) : bltop .dictP [.ref n] S Q = ∃ kvs : List (Txt × PV), getL S n = some (kvs.map fun q => .tup [.str q.1, q.2]) ∧ Q (.ref S.length) (S ++ [.dic (kvs.foldl (fun d q => putD d q.1 q.2) [])]) := rfl
theorem l_isSeq_t (l : List PV) : bltop .isSeq [.tup l] S Q = Q (.bl true) S := rfl
theorem l_isSeq_r (n : Nat) : bltop .isSeq [.ref n] S Q = ∃ xs, getL S n = some xs ∧ Q (.bl true) S := rfl
theorem l_isTup_r (n : Nat) : bltop .isTup [.ref n] S Q = (known (.ref n) S ∧ Q (.bl false) S) := rfl
theorem l_isTup_i (n : Int) : bltop .isTup [.int n] S Q = (True ∧ Q (.bl false) S) := rfl
theorem l_tuplet (s : List PV) : bltop .tuple [.tup s] S Q = Q (.tup s) S := rfl
theorem l_tupler (n : Nat) : bltop .tuple [.ref n] S Q = ∃ xs, getL S n = some xs ∧ Q (.tup xs) S := rfl
theorem l_listt (s : List PV) : bltop .list [.tup s] S Q = Q (.ref S.length) (S ++ [.lst s]) := rfl
theorem l_listr (n : Nat) : bltop .list [.ref n] S Q = ∃ xs, getL S n = some xs ∧ Q (.ref S.length) (S ++ [.lst xs]) := rfl
theorem l_sum (n : Nat) : bltop .sum [.ref n] S Q = ∃ ns : List Int, getL S n = some (ns.map PV.int) ∧ Q (.int ns.sum) S := rfl
theorem l_all (n : Nat) : bltop .all [.ref n] S Q = ∃ bs : List Bool, getL S n = some (bs.map PV.bl) ∧ Q (.bl (bs.all id)) S := rfl
theorem l_any (n : Nat) : bltop .any [.ref n] S Q = ∃ bs : List Bool, getL S n = some (bs.map PV.bl) ∧ Q (.bl (bs.any id)) S := rfl
theorem l_maxD (n : Nat) : bltop .maxD [.ref n] S Q = ∃ xs d ds, getL S n = some xs ∧ DnL S 50 xs (d :: ds) ∧ alikeDt (d :: ds) ∧ ∀ (i : Nat) v, xs[i]? = some v → (d :: ds)[i]? = some (maxDt d ds) → Q v S := rfl
theorem l_minD (n : Nat) : bltop .minD [.ref n] S Q = ∃ xs d ds, getL S n = some xs ∧ DnL S 50 xs (d :: ds) ∧ alikeDt (d :: ds) ∧ ∀ (i : Nat) v, xs[i]? = some v → (d :: ds)[i]? = some (minDt d ds) → Q v S := rfl
theorem l_min (n : Nat) : bltop .min [.ref n] S Q = ∃ ns : List Int, getL S n = some (ns.map PV.int) ∧ 0 < ns.length ∧ ∀ m, m ∈ ns → (∀ y, y ∈ ns → m ≤ y) → Q (.int m) S := rfl
theorem l_max (n : Nat) : bltop .max [.ref n] S Q = ∃ ns : List Int, getL S n = some (ns.map PV.int) ∧ 0 < ns.length ∧ ∀ m, m ∈ ns → (∀ y, y ∈ ns → y ≤ m) → Q (.int m) S := rfl
theorem l_isInt_i (i : Int) : bltop .isInt [.int i] S Q = (True ∧ Q (.bl true) S) := rfl
theorem l_isBool_i (i : Int) : bltop .isBool [.int i] S Q = (True ∧ Q (.bl false) S) := rfl
theorem l_isStr_s (i : Txt) : bltop .isStr [.str i] S Q = (True ∧ Q (.bl true) S) := rfl
theorem l_isTup_t (i : List PV) : bltop .isTup [.tup i] S Q = (True ∧ Q (.bl true) S) := rfl
theorem m_starts (a b : Txt) : methop .startswith (.str a) [.str b] S Q = Q (.bl (b.isPrefixOf a)) S := rfl
theorem m_ins (n : Nat) (i : Int) (v : PV) : methop .insert (.ref n) [.int i, v] S Q = ∃ xs, S[n]? = some (.lst xs) ∧ i = 0 ∧ xs.length < big ∧ Q .non (S.set n (.lst (v :: xs))) := rfl
theorem m_split (a b : Txt) : methop .split (.str a) [.str b] S Q = ∃ c, b = [c] ∧ c < 256 ∧ a.length ≤ 100000 ∧ Q (.ref S.length) (S ++ [.lst ((splitT c a).map PV.str)]) := rfl
theorem m_part (a b : Txt) : methop .partition (.str a) [.str b] S Q = ∃ c, b = [c] ∧ a.length ≤ 100000 ∧ Q (.tup [.str (partT c a).1, .str (partT c a).2.1, .str (partT c a).2.2]) S := rfl
theorem m_popAt (n : Nat) (i : Int) : methop .popAt (.ref n) [.int i] S Q = ∃ xs k v, S[n]? = some (.lst xs) ∧ i = Int.ofNat k ∧ k < 2 ^ 60 ∧ xs[k]? = some v ∧ Q v (S.set n (.lst (xs.eraseIdx k))) := rfl
theorem y_popAt (x : PV) : mty .popAt x S = ∃ n xs, x = .ref n ∧ getL S n = some xs := rfl
theorem y_ins (x : PV) : mty .insert x S = ∃ n xs, x = .ref n ∧ getL S n = some xs := rfl
theorem y_starts (x : PV) : mty .startswith x S = ∃ s, x = .str s := rfl
theorem y_split (x : PV) : mty .split x S = ∃ s, x = .str s := rfl
theorem y_part (x : PV) : mty .partition x S = ∃ s, x = .str s := rfl
theorem m_app (n : Nat) (v : PV) : methop .append (.ref n) [v] S Q = ∃ xs, S[n]? = some (.lst xs) ∧ xs.length < big ∧ Q .non (S.set n (.lst (xs ++ [v]))) := rfl
theorem m_ext (n m : Nat) : methop .extend (.ref n) [.ref m] S Q = ∃ xs ys, S[n]? = some (.lst xs) ∧ S[m]? = some (.lst ys) ∧ xs.length + ys.length ≤ big ∧ Q .non (S.set n (.lst (xs ++ ys))) := rfl
theorem m_pop (n : Nat) : methop .pop (.ref n) [] S Q = ∃ xs v, S[n]? = some (.lst xs) ∧ xs[xs.length - 1]? = some v ∧ Q v (S.set n (.lst xs.dropLast)) := rfl
theorem m_join (a : Txt) (n : Nat) : methop .join (.str a) [.ref n] S Q = ∃ ys : List Txt, getL S n = some (ys.map PV.str) ∧ (ys.map (·.length)).sum + ys.length * a.length ≤ big ∧ Q (.str (joinT a ys)) S := rfl
theorem m_alpha (a : Txt) : methop .isalpha (.str a) [] S Q = (ascii a ∧ Q (.bl (alpha a)) S) := rfl
theorem m_sidx (a b : Txt) : methop .sindex (.str a) [.str b] S Q = (a = [68, 77, 89, 74] ∧ ∃ (j c : Nat), a[j]? = some c ∧ b = [c] ∧ Q (.int (j : Nat)) S) := rfl
theorem m_get (n : Nat) (k : Txt) (x : PV) : methop .get (.ref n) [.str k, x] S Q = ∃ kvs, getD S n = some kvs ∧ Q ((lkp kvs k).getD x) S := rfl
theorem m_setd (n : Nat) (k : Txt) (x : PV) : methop .setdefault (.ref n) [.str k, x] S Q = ∃ kvs, getD S n = some kvs ∧ kvs.length < big ∧
      ((∃ v, lkp kvs k = some v ∧ Q v S) ∨ (lkp kvs k = none ∧ Q x (S.set n (.dic (putD kvs k x))))) := rfl
theorem y_app (x : PV) : mty .append x S = ∃ n xs, x = .ref n ∧ getL S n = some xs := rfl
theorem y_ext (x : PV) : mty .extend x S = ∃ n xs, x = .ref n ∧ getL S n = some xs := rfl
theorem y_pop (x : PV) : mty .pop x S = ∃ n xs, x = .ref n ∧ getL S n = some xs := rfl
theorem y_get (x : PV) : mty .get x S = ∃ n xs, x = .ref n ∧ getD S n = some xs := rfl
theorem y_setd (x : PV) : mty .setdefault x S = ∃ n xs, x = .ref n ∧ getD S n = some xs := rfl
theorem y_str (x : Txt) : mty .join (.str x) S = ∃ s, PV.str x = .str s := rfl
theorem y_alpha (x : PV) : mty .isalpha x S = ∃ s, x = .str s := rfl
theorem y_sidx (x : PV) : mty .sindex x S = ∃ s, x = .str s := rfl
theorem t_bl (K : Bool → Store → Prop) (b : Bool) : tst K (.bl b) S = K b S := rfl
theorem o_int (K : Option Int → Store → Prop) (b : Int) : opt K (.int b) S = K (some b) S := rfl
variable (K : IQ)
theorem z_tup (xs : List PV) : itemsOf .seq [.tup xs] S K = K xs (fun _ => True) S := rfl
theorem z_ref (n : Nat) : itemsOf .seq [.ref n] S K = ∃ xs, getL S n = some xs ∧ K xs (fun S' => getL S' n = some xs) S := rfl
theorem z_str (s : Txt) : itemsOf .seq [.str s] S K = K (s.map fun c => .str [c]) (fun _ => True) S := rfl
theorem z_rng1 (j : Int) : itemsOf .rng1 [.int j] S K = (j < 2 ^ 60 ∧ -(2 ^ 60) < j ∧ K ((List.range j.toNat).map fun i => .int (i : Nat)) (fun _ => True) S) := rfl
theorem z_rng3 (i j c : Int) : itemsOf .rng3 [.int i, .int j, .int c] S K = ((i = 0 ∧ (j = 21 ∨ j = 36) ∧ c = 3) ∧ K ((List.range (j.toNat / 3)).map fun k => .int (0 + (k : Nat) * 3)) (fun _ => True) S) := rfl
theorem z_rng2 (i j : Int) : itemsOf .rng2 [.int i, .int j] S K = ((j < 2 ^ 60 ∧ -(2 ^ 60) < j ∧ i < 2 ^ 60 ∧ -(2 ^ 60) < i) ∧ K ((List.range (j - i).toNat).map fun k => .int (i + (k : Nat))) (fun _ => True) S) := rfl
theorem z_enm (n : Nat) : itemsOf .enm [.ref n] S K = ∃ xs, getL S n = some xs ∧ K (enumW 0 xs) (fun S' => getL S' n = some xs) S := rfl
theorem z_zipt (xs ys : List PV) : itemsOf .zip2 [.tup xs, .tup ys] S K = K (zipW xs ys) (fun _ => True) S := rfl
theorem z_zipr (m n : Nat) : itemsOf .zip2 [.ref m, .ref n] S K = ∃ xs ys, getL S m = some xs ∧ getL S n = some ys ∧ K (zipW xs ys) (fun S' => getL S' m = some xs ∧ getL S' n = some ys) S := rfl
theorem z_vals (n : Nat) : itemsOf .vals [.ref n] S K = ∃ kvs, S[n]? = some (.dic kvs) ∧ K (kvs.map (·.2)) (fun _ => True) (S.set n (.ldc kvs)) := rfl
theorem z_keys (n : Nat) : itemsOf .keys [.ref n] S K = ∃ kvs, S[n]? = some (.dic kvs) ∧ K (kvs.map fun q => .str q.1) (fun _ => True) (S.set n (.ldc kvs)) := rfl
theorem z_enmt (xs : List PV) : itemsOf .enm [.tup xs] S K = K (enumW 0 xs) (fun _ => True) S := rfl
theorem z_zip3 (m n k : Nat) : itemsOf .zip3 [.ref m, .ref n, .ref k] S K = ∃ xs ys zs, getL S m = some xs ∧ getL S n = some ys ∧ getL S k = some zs ∧ K (zip3W xs ys zs) (fun S' => getL S' m = some xs ∧ getL S' n = some ys ∧ getL S' k = some zs) S := rfl
theorem w_ri (n : Nat) (i : Int) (v : PV) (P : Store → Prop) : setop (.ref n) (.int i) v S P = ∃ xs j, S[n]? = some (.lst xs) ∧ idx xs.length i = some j ∧ P (S.set n (.lst (xs.set j v))) := rfl
theorem w_rs (n : Nat) (i : Txt) (v : PV) (P : Store → Prop) : setop (.ref n) (.str i) v S P = ∃ kvs, S[n]? = some (.dic kvs) ∧ kvs.length < big ∧ P (S.set n (.dic (putD kvs i v))) := rfl
end
section
variable {α : Type} (x y z w : α) (l : List α)
theorem at_0 : atP (x :: l) 0 = some x := rfl
theorem at_1 : atP (x :: y :: l) 1 = some y := rfl
theorem at_2 : atP (x :: y :: z :: l) 2 = some z := rfl
theorem at_3 : atP (x :: y :: z :: w :: l) 3 = some w := rfl
theorem gv_0 (o : Option PV) (r : Env) : getv (o :: r) 0 = o := rfl
theorem gv_s (o : Option PV) (r : Env) (n : Nat) : getv (o :: r) (n + 1) = getv r n := rfl
theorem sa_0 (ρ : Env) : setAll ρ [] [] = some ρ := rfl
theorem sa_s (ρ : Env) (i : Nat) (r : List Nat) (v : PV) (vs : List PV) : setAll ρ (i :: r) (v :: vs) = setAll (ρ.set i (some v)) r vs := rfl
theorem st_nm (ρ : Env) (i : Nat) (v : PV) : setTg ρ (.nm i) v = some (ρ.set i (some v)) := rfl
theorem st_tp (ρ : Env) (i : List Nat) (v : List PV) : setTg ρ (.tp i) (.tup v) = setAll ρ i v := rfl
theorem wi_0 (ρ : Env) : wipeP ρ [] = ρ := rfl
theorem wi_s (ρ : Env) (i : Nat) (r : List Nat) : wipeP ρ (i :: r) = (wipeP ρ r).set i none := rfl
theorem st_0 : start 0 [] = [] := rfl
theorem st_s (n : Nat) (v : PV) (vs : List PV) : start (n + 1) (v :: vs) = some v :: start n vs := by
  unfold start
  simp
theorem st_n (n : Nat) : start (n + 1) [] = none :: start n [] := by
  unfold start
  simp [List.replicate_succ]
end
local macro_rules | `(tactic| walk_at "wp") => `(tactic| simp only [e_var, e_glb, e_int, e_str, e_bl, e_non, e_bin, e_cmp, e_chain, e_neg, e_and, e_or, e_not, e_ite, e_tup, e_lst, e_dic0, e_sub, e_slice, wo_nil, wo_int, wo_var, wo_bin, wo_neg, wo_blt, wo_call, wo_sub, e_lrg, e_lng, e_rev, e_call, e_blt, e_meth, e_comp, e_fld, e_newc, e_mcl, e_lenc, e_orv, e_selc, a_nil, a_cons,
  s_pass, s_seq, s_nm, s_tp, s_par, s_aug, s_setsub, s_augsub, s_ex, s_ret, s_retn, s_ite, s_whl, s_for, s_brk, s_cnt, s_rse, s_tri, s_setfld,
  b_add, b_adds, b_addr, b_addt, b_sub, b_mul, b_mulr, b_muls, b_mult, b_div, b_mod, b_pow, c_eq, c_eqs, c_eqr, c_eqt, c_eqn, c_ne, c_nes, c_ner, c_net, c_nen, c_lt, c_le, c_gt, c_ge, c_ltt, c_let, c_gtt, c_get, c_lts, c_les, c_gts, c_ges, c_isbb, c_isnn, c_isbn, c_isin, c_issn, c_istn, c_isrn, c_nsbb, c_nsnn, c_nsbn, c_nsin, c_nssn, c_nstn, c_nsrn,
  c_int, c_ins, c_inr, c_nit, c_nis, c_nir, n_int, i_tup, i_str, i_ref, i_dic, k_str, k_tup, k_ref, v_ref, v_tup, l_minD, l_maxD, l_min, l_max, z_vals, z_keys, z_enmt, z_zip3, l_lens, l_lent, l_lenr, l_str, l_int, l_dictP, l_isSeq_t, l_isSeq_r, l_isTup_r, l_isTup_i, l_tuplet, l_tupler, l_listt, l_listr, l_sum, l_all, l_any, l_isInt_i, l_isBool_i, l_isStr_s, l_isTup_t,
  m_starts, m_ins, m_split, m_part, m_popAt, y_popAt, y_ins, y_starts, y_split, y_part, m_app, m_ext, m_pop, m_join, m_alpha, m_sidx, m_get, m_setd, y_app, y_ext, y_pop, y_get, y_setd, y_str, y_alpha, y_sidx, t_bl, o_int, z_tup, z_ref, z_str, z_rng1, z_rng2, z_rng3, z_enm, z_zipt, z_zipr, w_ri, w_rs,
  at_0, at_1, at_2, at_3, gv_0, gv_s, sa_0, sa_s, st_nm, st_tp, wi_0, wi_s, st_0, st_s, st_n, wpB, List.set_cons_zero, List.set_cons_succ, Option.some.injEq, exists_eq_left', true_and, Bool.not_true, Bool.not_false, if_true, if_false, Bool.false_eq_true, exists_const, PV.ref.injEq, PV.str.injEq, PV.int.injEq, List.length_cons, List.length_nil])
/-! ### stores that only grow -/
def Ext (S S' : Store) : Prop := ∀ (n : Nat) (o : PO), S[n]? = some o → S'[n]? = some o
theorem Ext.refl {S : Store} : Ext S S := fun _ _ h => h
theorem Ext.trans {A B C : Store} (a : Ext A B) (b : Ext B C) : Ext A C := fun n o h => b n o (a n o h)
theorem Ext.new {S : Store} {o : PO} : Ext S (S ++ [o]) := fun n x h => by
  rw [List.getElem?_append_left (List.getElem?_eq_some_iff.mp h).1]; exact h
theorem new_at {S : Store} {o : PO} : (S ++ [o])[S.length]? = some o := by simp
theorem Ext.set {S S' : Store} {n : Nat} {o : PO} (e : Ext S S') (h : S.length ≤ n) : Ext S (S'.set n o) := fun k x hk => by
  have hl := (List.getElem?_eq_some_iff.mp hk).1
  rw [List.getElem?_set_ne (by omega)]
  exact e k x hk
theorem Ext.len {S S' : Store} (e : Ext S S') : S.length ≤ S'.length := by
  cases h : S.length with
  | zero => omega
  | succ k =>
    have hk : k < S.length := by omega
    have := e k S[k] (List.getElem?_eq_getElem hk)
    have := (List.getElem?_eq_some_iff.mp this).1
    omega
theorem Ext.getL {S S' : Store} (e : Ext S S') {n : Nat} {xs : List PV} (h : getL S n = some xs) : getL S' n = some xs := by
  unfold PyI.getL at h ⊢
  split at h
  · rename_i ys q; rw [e n _ q]; exact h
  · rename_i ys q; rw [e n _ q]; exact h
  · cases h
theorem Ext.getD {S S' : Store} (e : Ext S S') {n : Nat} {xs : List (Txt × PV)} (h : getD S n = some xs) : getD S' n = some xs := by
  unfold PyI.getD at h ⊢
  split at h
  · rename_i ys q; rw [e n _ q]; exact h
  · cases h
theorem getL_lst {S : Store} {n : Nat} {xs : List PV} (h : S[n]? = some (.lst xs)) : getL S n = some xs := by unfold getL; rw [h]
theorem getL_scr {S : Store} {n : Nat} {xs : List PV} (h : S[n]? = some (.scr xs)) : getL S n = some xs := by unfold getL; rw [h]
theorem getD_dic {S : Store} {n : Nat} {xs : List (Txt × PV)} (h : S[n]? = some (.dic xs)) : getD S n = some xs := by unfold getD; rw [h]
mutual
theorem Dn.ext {S S' : Store} (e : Ext S S') : ∀ {k : Nat} {x : PV} {d : Dt}, Dn S k x d → Dn S' k x d
  | _, _, _, .non => .non
  | _, _, _, .bl b => .bl b
  | _, _, _, .int b => .int b
  | _, _, _, .str b h => .str b h
  | _, _, _, .tup h => .tup (DnL.ext e h)
  | _, _, _, .lst g h => .lst (e.getL g) (DnL.ext e h)
theorem DnL.ext {S S' : Store} (e : Ext S S') : ∀ {k : Nat} {x : List PV} {d : List Dt}, DnL S k x d → DnL S' k x d
  | _, _, _, .nil => .nil
  | _, _, _, .cons h t => .cons (Dn.ext e h) (DnL.ext e t)
end
/-- [e for x in items]: each item gives its own value, old things stay -/
theorem comp_map {Γ : Sig} {t : Tg} {own : List Nat} {e : IE} {ρ : Env} {S2 : Store} {items : List PV} {keep : Store → Prop} {Q : PQ} (f : PV → PV) (hk : ∀ S', Ext S2 S' → keep S') (hl : items.length < big)
    (h : ∀ x S', x ∈ items → Ext S2 S' → ∃ ρ2, setTg (wipeP ρ own) t x = some ρ2 ∧ ∀ Q1 : PQ, (∀ S'', Ext S' S'' → Q1 (f x) S'') → wpE Γ e ρ2 S' Q1 (fun _ _ => False))
    (q : ∀ S', Ext S2 S' → S'[S2.length]? = some (.lst (items.map f)) → Q (.ref S2.length) S') :
    compP Γ ρ S2 Q t own .nil e items keep := by
  refine ⟨fun i acc S' => Ext S2 S' ∧ S'[S2.length]? = some (.lst acc) ∧ acc = (items.take i).map f, ⟨Ext.new, new_at, rfl⟩, fun i acc S' w => ⟨w.2.1, hk _ w.1⟩, fun i x acc S' hx w => ?_, fun acc S' w => ?_⟩
  · obtain ⟨w1, w2, rfl⟩ := w
    obtain ⟨ρ2, h1, h2⟩ := h x S' (List.mem_of_getElem? hx) w1
    refine ⟨ρ2, h1, ?_⟩
    refine h2 _ fun S'' e2 => ⟨e2 _ _ w2, ?_, (w1.trans e2).set (Nat.le_refl _), ?_, ?_⟩
    · rw [List.length_map, List.length_take]; omega
    · have hlt := (List.getElem?_eq_some_iff.mp (e2 _ _ w2)).1
      rw [List.getElem?_set_self hlt]
    · rw [List.take_add_one, hx, List.map_append]; rfl
  · obtain ⟨w1, w2, rfl⟩ := w
    rw [List.take_length] at w2
    exact q S' w1 w2
/-- [e for x in items if c] -/
theorem comp_if {Γ : Sig} {t : Tg} {own : List Nat} {c e : IE} {ρ : Env} {S2 : Store} {items : List PV} {keep : Store → Prop} {Q : PQ} (g : PV → Bool) (f : PV → PV) (hc : isNil c = false) (hk : ∀ S', Ext S2 S' → keep S') (hl : items.length < big)
    (h : ∀ x S', x ∈ items → Ext S2 S' → ∃ ρ2, setTg (wipeP ρ own) t x = some ρ2 ∧
      (∀ Q1 : PQ, (∀ S'', Ext S' S'' → Q1 (.bl (g x)) S'') → wpE Γ c ρ2 S' Q1 (fun _ _ => False)) ∧
      ∀ S3, Ext S' S3 → g x = true → ∀ Q1 : PQ, (∀ S'', Ext S3 S'' → Q1 (f x) S'') → wpE Γ e ρ2 S3 Q1 (fun _ _ => False))
    (q : ∀ S', Ext S2 S' → S'[S2.length]? = some (.lst ((items.filter g).map f)) → Q (.ref S2.length) S') :
    compP Γ ρ S2 Q t own c e items keep := by
  refine ⟨fun i acc S' => Ext S2 S' ∧ S'[S2.length]? = some (.lst acc) ∧ acc = ((items.take i).filter g).map f, ⟨Ext.new, new_at, rfl⟩, fun i acc S' w => ⟨w.2.1, hk _ w.1⟩, fun i x acc S' hx w => ?_, fun acc S' w => ?_⟩
  · obtain ⟨w1, w2, rfl⟩ := w
    obtain ⟨ρ2, h1, h2, h3⟩ := h x S' (List.mem_of_getElem? hx) w1
    refine ⟨ρ2, h1, ?_⟩
    simp only [hc, Bool.false_eq_true, if_false]
    refine h2 _ fun S3 e2 => ?_
    simp only [t_bl]
    cases hg : g x with
    | false =>
      simp only [Bool.false_eq_true, if_false]
      refine ⟨w1.trans e2, e2 _ _ w2, ?_⟩
      rw [List.take_add_one, hx, List.filter_append]
      simp [hg]
    | true =>
      simp only [if_true]
      refine h3 S3 e2 hg _ fun S'' e3 => ⟨e3 _ _ (e2 _ _ w2), ?_, ((w1.trans e2).trans e3).set (Nat.le_refl _), ?_, ?_⟩
      · rw [List.length_map]
        have := List.length_filter_le g (items.take i)
        have h2 : (items.take i).length ≤ items.length := by rw [List.length_take]; omega
        omega
      · have hlt := (List.getElem?_eq_some_iff.mp (e3 _ _ (e2 _ _ w2))).1
        rw [List.getElem?_set_self hlt]
      · rw [List.take_add_one, hx, List.filter_append, List.map_append]
        simp [hg]
  · obtain ⟨w1, w2, rfl⟩ := w
    rw [List.take_length] at w2
    exact q S' w1 w2
end PyI
set_option autoImplicit false
set_option linter.all false
set_option Elab.async false
set_option maxRecDepth 100000
set_option maxHeartbeats 4000000
namespace PyI
local macro_rules | `(tactic| walk_at "wp") => `(tactic| simp only [e_var, e_glb, e_int, e_str, e_bl, e_non, e_bin, e_cmp, e_chain, e_neg, e_and, e_or, e_not, e_ite, e_tup, e_lst, e_dic0, e_sub, e_slice, wo_nil, wo_int, wo_var, wo_bin, wo_neg, wo_blt, wo_call, wo_sub, e_lrg, e_lng, e_rev, e_call, e_blt, e_meth, e_comp, e_fld, e_newc, e_mcl, e_lenc, e_orv, e_selc, a_nil, a_cons,
  s_pass, s_seq, s_nm, s_tp, s_par, s_aug, s_setsub, s_augsub, s_ex, s_ret, s_retn, s_ite, s_whl, s_for, s_brk, s_cnt, s_rse, s_tri, s_setfld,
  b_add, b_adds, b_addr, b_addt, b_sub, b_mul, b_mulr, b_muls, b_mult, b_div, b_mod, b_pow, c_eq, c_eqs, c_eqr, c_eqt, c_eqn, c_ne, c_nes, c_ner, c_net, c_nen, c_lt, c_le, c_gt, c_ge, c_ltt, c_let, c_gtt, c_get, c_lts, c_les, c_gts, c_ges, c_isbb, c_isnn, c_isbn, c_isin, c_issn, c_istn, c_isrn, c_nsbb, c_nsnn, c_nsbn, c_nsin, c_nssn, c_nstn, c_nsrn,
  c_int, c_ins, c_inr, c_nit, c_nis, c_nir, n_int, i_tup, i_str, i_ref, i_dic, k_str, k_tup, k_ref, v_ref, v_tup, l_minD, l_maxD, l_min, l_max, z_vals, z_keys, z_enmt, z_zip3, l_lens, l_lent, l_lenr, l_str, l_int, l_dictP, l_isSeq_t, l_isSeq_r, l_isTup_r, l_isTup_i, l_tuplet, l_tupler, l_listt, l_listr, l_sum, l_all, l_any, l_isInt_i, l_isBool_i, l_isStr_s, l_isTup_t,
  m_starts, m_ins, m_split, m_part, m_popAt, y_popAt, y_ins, y_starts, y_split, y_part, m_app, m_ext, m_pop, m_join, m_alpha, m_sidx, m_get, m_setd, y_app, y_ext, y_pop, y_get, y_setd, y_str, y_alpha, y_sidx, t_bl, o_int, z_tup, z_ref, z_str, z_rng1, z_rng2, z_rng3, z_enm, z_zipt, z_zipr, w_ri, w_rs,
  at_0, at_1, at_2, at_3, gv_0, gv_s, sa_0, sa_s, st_nm, st_tp, wi_0, wi_s, st_0, st_s, st_n, wpB, List.set_cons_zero, List.set_cons_succ, Option.some.injEq, exists_eq_left', true_and, Bool.not_true, Bool.not_false, if_true, if_false, Bool.false_eq_true, exists_const, PV.ref.injEq, PV.str.injEq, PV.int.injEq, List.length_cons, List.length_nil])
/-! ### the calendar, in plain Lean -/
def irange (a b : Int) : List Int := (List.range (b - a).toNat).map fun k => a + (k : Nat)
def isLong (y : Int) : Bool := (decide (y % 4 = 0) && !decide (y % 100 = 0)) || decide (y % 400 = 0)
def mlen (y m : Int) : Int := if m = 2 then (if isLong y then 29 else 28) else if m = 4 ∨ m = 6 ∨ m = 9 ∨ m = 11 then 30 else 31
abbrev Date := Int × Int × Int
def dV (d : Date) : PV := .tup [.int d.1, .int d.2.1, .int d.2.2]
def piy (d : Date) : Int := ((irange 1 d.2.1).map (mlen d.1)).sum + d.2.2
def isDate (d : Date) : Prop := 1600 ≤ d.1 ∧ d.1 ≤ 2399 ∧ 1 ≤ d.2.1 ∧ d.2.1 ≤ 12 ∧ 1 ≤ d.2.2 ∧ d.2.2 ≤ mlen d.1 d.2.1
def isSpan (a b : Int) : Prop := 1600 ≤ a ∧ a ≤ 2399 ∧ 1600 ≤ b ∧ b ≤ 2399 ∧ a ≤ b ∧ b < a + 12
def wdNames : List Txt := [[109, 111, 110], [116, 117, 101], [119, 101, 100], [116, 104, 117], [102, 114, 105], [115, 97, 116], [115, 117, 110]]
def wdNo (d : Date) : Int := (365 * (d.1 - 1) + (d.1 - 1) / 4 - (d.1 - 1) / 100 + (d.1 - 1) / 400 + piy d - 1) % 7
def wdOf (d : Date) : Txt := wdNames.getD (wdNo d).toNat []
def datesY (y : Int) : List Date := (irange 1 13).flatMap fun m => (irange 1 (mlen y m + 1)).map fun d => (y, m, d)
def datesIn (a b : Int) : List Date := (irange a (b + 1)).flatMap datesY

/-! ### contracts -/
def ct_is_count : Ct := fun vs S Q _ => ∃ (i a b : Int), vs = [.int i, .int a, .int b] ∧ Q (.bl (decide (a ≤ i) && decide (i ≤ b))) S
def ct_is_long : Ct := fun vs S Q _ => ∃ y : Int, vs = [.int y] ∧ Q (.bl (isLong y)) S
def ct_month_length : Ct := fun vs S Q _ => ∃ y m : Int, vs = [.int y, .int m] ∧ Q (.int (mlen y m)) S
def ct_is_date : Ct := fun vs S Q _ => ∃ d : Date, isDate d ∧ vs = [dV d] ∧ Q (.bl true) S
def ct_is_span : Ct := fun vs S Q _ => ∃ a b : Int, isSpan a b ∧ vs = [.tup [.int a, .int b]] ∧ ∀ S', Ext S S' → Q (.bl true) S'
def ct_need_date : Ct := fun vs S Q _ => ∃ d : Date, isDate d ∧ vs = [dV d] ∧ Q .non S
def ct_need_span : Ct := fun vs S Q _ => ∃ a b : Int, isSpan a b ∧ vs = [.tup [.int a, .int b]] ∧ ∀ S', Ext S S' → Q .non S'
def ct_place_in_year : Ct := fun vs S Q _ => ∃ d : Date, isDate d ∧ vs = [dV d] ∧ ∀ S', Ext S S' → Q (.int (piy d)) S'
def ct_weekday_of : Ct := fun vs S Q _ => ∃ d : Date, isDate d ∧ vs = [dV d] ∧ ∀ S', Ext S S' → Q (.str (wdOf d)) S'
def ct_dates_in : Ct := fun vs S Q _ => ∃ a b : Int, isSpan a b ∧ vs = [.tup [.int a, .int b]] ∧ ∀ S' n, Ext S S' → S.length ≤ n → S'[n]? = some (.lst ((datesIn a b).map dV)) → Q (.ref n) S'
def strV (l : List Txt) : PV := .tup (l.map PV.str)
def moNames : List Txt := [[106, 97, 110], [102, 101, 98], [109, 97, 114], [97, 112, 114], [109, 97, 121], [106, 117, 110], [106, 117, 108], [97, 117, 103], [115, 101, 112], [111, 99, 116], [110, 111, 118], [100, 101, 99]]
def fieldT : List Txt := [[68], [68, 68], [77], [77, 77], [77, 79, 78], [89, 89], [89, 89, 89, 89], [74], [74, 74, 74], [87, 68]]
def litT : Txt := [32, 45, 47, 46, 44, 58]
def digT : Txt := [48, 49, 50, 51, 52, 53, 54, 55, 56, 57]
def glT : Nat → Option PV
  | 0 => some (.int 1600) | 1 => some (.int 2399) | 2 => some (.int 12) | 3 => some (strV wdNames) | 4 => some (strV moNames) | 5 => some (strV fieldT) | 6 => some (.str litT) | 7 => some (.int 7) | 8 => some (.int 5) | 9 => some (.str digT)
  | _ => none
/-- a group of functions whose contracts are known -/
structure Cal (Γ : Sig) : Prop where
  gl : Γ.gl = glT
  is_count : Γ.ct 0 = ct_is_count
  is_long : Γ.ct 1 = ct_is_long
  month_length : Γ.ct 2 = ct_month_length
  is_date : Γ.ct 3 = ct_is_date
  is_span : Γ.ct 4 = ct_is_span
  need_date : Γ.ct 5 = ct_need_date
  need_span : Γ.ct 6 = ct_need_span
  place_in_year : Γ.ct 7 = ct_place_in_year
  weekday_of : Γ.ct 8 = ct_weekday_of
  weekday : Γ.ct 9 = ct_weekday_of
  day_of_year : Γ.ct 10 = ct_place_in_year
  dates_in : Γ.ct 11 = ct_dates_in
  dates : Γ.ct 12 = ct_dates_in
theorem inP_int (m : Int) (l : List Int) : inP (.int m) (l.map PV.int) = decide (m ∈ l) := by
  unfold inP
  induction l with
  | nil => rfl
  | cons a r ih =>
    rw [List.map_cons, List.any_cons, ih]
    show ((a == m) || decide (m ∈ r)) = _
    by_cases h : a = m
    · subst h; simp
    · have : ¬ m = a := fun z => h z.symm
      simp [h, this]
theorem inP_str (m : Txt) (l : List Txt) : inP (.str m) (l.map PV.str) = decide (m ∈ l) := by
  unfold inP
  induction l with
  | nil => rfl
  | cons a r ih =>
    rw [List.map_cons, List.any_cons, ih]
    show ((a == m) || decide (m ∈ r)) = _
    by_cases h : a = m
    · subst h; simp
    · have : ¬ m = a := fun z => h z.symm
      simp [h, this]
section
variable {Γ : Sig} (C : Cal Γ)
include C
theorem p_is_count : ∀ vs S Q R, ct_is_count vs S Q R → wpB Γ 3 b_is_count vs S Q R := by
  rintro vs S Q R ⟨i, a, b, rfl, q⟩
  unfold b_is_count
  walk_at "wp"
  by_cases h : a ≤ i
  · rw [if_pos (decide_eq_true h)]; rwa [decide_eq_true h, Bool.true_and] at q
  · rw [if_neg (by simp [h])]; rwa [decide_eq_false h, Bool.false_and] at q
theorem p_is_long : ∀ vs S Q R, ct_is_long vs S Q R → wpB Γ 1 b_is_long vs S Q R := by
  rintro vs S Q R ⟨y, rfl, q⟩
  unfold b_is_long
  walk_at "wp"
  refine ⟨by decide, ?_⟩
  unfold isLong at q
  by_cases h1 : y % 4 = 0
  · rw [if_pos (decide_eq_true h1)]
    refine ⟨by decide, ?_⟩
    by_cases h2 : y % 100 = 0
    · rw [if_neg (by simp [h2])]
      refine ⟨by decide, ?_⟩
      simpa [h1, h2] using q
    · rw [if_pos (by simp [h2])]
      simpa [h1, h2] using q
  · rw [if_neg (by simp [h1])]
    refine ⟨by decide, ?_⟩
    simpa [h1] using q
theorem p_month_length : ∀ vs S Q R, ct_month_length vs S Q R → wpB Γ 2 b_month_length vs S Q R := by
  rintro vs S Q R ⟨y, m, rfl, q⟩
  unfold b_month_length
  walk_at "wp"
  rw [C.is_long]
  unfold mlen at q
  by_cases h : m = 2
  · rw [if_pos (decide_eq_true h)]
    rw [if_pos h] at q
    refine ⟨y, rfl, ?_⟩
    walk_at "wp"
    cases hl : isLong y with
    | true => rw [hl] at q; exact q
    | false => rw [hl] at q; exact q
  · rw [if_neg (by simp [h])]
    rw [if_neg h] at q
    refine ⟨rfl, rfl, ?_⟩
    rw [show ([PV.int 4, PV.int 6, PV.int 9, PV.int 11] : List PV) = ([4, 6, 9, 11] : List Int).map PV.int from rfl, inP_int]
    by_cases h4 : m = 4 ∨ m = 6 ∨ m = 9 ∨ m = 11
    · rw [if_pos (by simpa using h4)]; rw [if_pos h4] at q; exact q
    · rw [if_neg (by simpa using h4)]; rw [if_neg h4] at q; exact q
theorem p_is_date : ∀ vs S Q R, ct_is_date vs S Q R → wpB Γ 1 b_is_date vs S Q R := by
  rintro vs S Q R ⟨⟨y, m, d⟩, hd, rfl, q⟩
  unfold b_is_date dV
  walk_at "wp"
  obtain ⟨h1, h2, h3, h4, h5, h6⟩ := hd
  simp only at h1 h2 h3 h4 h5 h6
  rw [if_neg (by simp), C.gl, C.is_count, C.month_length]
  refine ⟨_, rfl, _, rfl, y, 1600, 2399, rfl, ?_⟩
  rw [decide_eq_true h1, decide_eq_true h2]
  walk_at "wp"
  refine ⟨m, 1, 12, rfl, ?_⟩
  rw [decide_eq_true h3, decide_eq_true h4]
  walk_at "wp"
  refine ⟨y, m, rfl, d, 1, mlen y m, rfl, ?_⟩
  rw [decide_eq_true h5, decide_eq_true h6]
  exact q
theorem p_need_date : ∀ vs S Q R, ct_need_date vs S Q R → wpB Γ 1 b_need_date vs S Q R := by
  rintro vs S Q R ⟨d, hd, rfl, q⟩
  unfold b_need_date
  walk_at "wp"
  rw [C.is_date]
  refine ⟨d, hd, rfl, ?_⟩
  walk_at "wp"
  exact q
theorem p_is_span : ∀ vs S Q R, ct_is_span vs S Q R → wpB Γ 2 b_is_span vs S Q R := by
  rintro vs S Q R ⟨a, b, hs, rfl, q⟩
  unfold b_is_span
  walk_at "wp"
  obtain ⟨h1, h2, h3, h4, h5, h6⟩ := hs
  rw [if_neg (by simp)]
  refine comp_map (fun _ => .bl true) (fun _ _ => trivial) (by show 2 < big; decide) (fun x S' hx e => ⟨_, rfl, fun Q1 q1 => ?_⟩) fun S' e h => ?_
  · have hx' : x = .int a ∨ x = .int b := by simpa using hx
    walk_at "wp"
    rw [C.gl, C.is_count]
    rcases hx' with rfl | rfl
    · refine ⟨_, rfl, _, rfl, a, 1600, 2399, rfl, ?_⟩
      rw [decide_eq_true h1, decide_eq_true h2]
      exact q1 _ Ext.refl
    · refine ⟨_, rfl, _, rfl, b, 1600, 2399, rfl, ?_⟩
      rw [decide_eq_true h3, decide_eq_true h4]
      exact q1 _ Ext.refl
  · refine ⟨[true, true], getL_lst h, ?_⟩
    walk_at "wp"
    rw [if_neg (by decide), if_pos (decide_eq_true h5), C.gl]
    refine ⟨_, rfl, ?_⟩
    walk_at "wp"
    rw [decide_eq_true h6]
    exact q S' e
theorem p_need_span : ∀ vs S Q R, ct_need_span vs S Q R → wpB Γ 1 b_need_span vs S Q R := by
  rintro vs S Q R ⟨a, b, hs, rfl, q⟩
  unfold b_need_span
  walk_at "wp"
  rw [C.is_span]
  refine ⟨a, b, hs, rfl, fun S' e => ?_⟩
  walk_at "wp"
  exact q S' e
omit C in
theorem irange_mem {a b x : Int} : x ∈ irange a b ↔ a ≤ x ∧ x < b := by
  unfold irange
  simp only [List.mem_map, List.mem_range]
  constructor
  · rintro ⟨k, h1, rfl⟩; omega
  · rintro ⟨h1, h2⟩; exact ⟨(x - a).toNat, by omega, by omega⟩
omit C in
theorem irange_len (a b : Int) : (irange a b).length = (b - a).toNat := by unfold irange; simp
omit C in
theorem map_irange {α : Type} (f : Int → α) (a b : Int) : ((List.range (b - a).toNat).map fun k => f (a + (k : Nat))) = (irange a b).map f := by
  unfold irange; rw [List.map_map]; rfl
def intF (f : Int → PV) : PV → PV
  | .int k => f k
  | _ => .non
theorem p_place_in_year : ∀ vs S Q R, ct_place_in_year vs S Q R → wpB Γ 2 b_place_in_year vs S Q R := by
  rintro vs S Q R ⟨⟨y, m, d⟩, hd, rfl, q⟩
  unfold b_place_in_year dV
  walk_at "wp"
  obtain ⟨h1, h2, h3, h4, h5, h6⟩ := hd
  simp only at h1 h2 h3 h4 h5 h6
  refine ⟨by omega, ?_⟩
  refine comp_map (intF fun k => .int (mlen y k)) (fun _ _ => trivial) (by simp only [List.length_map, List.length_range]; unfold big; omega) (fun x S' hx e => ⟨_, rfl, fun Q1 q1 => ?_⟩) fun S' e h => ?_
  · obtain ⟨k, _, rfl⟩ := List.mem_map.mp hx
    walk_at "wp"
    rw [C.month_length]
    exact ⟨y, _, rfl, q1 _ Ext.refl⟩
  · refine ⟨(irange 1 m).map (mlen y), ?_, ?_⟩
    · rw [getL_lst h, List.map_map, List.map_map, ← map_irange]
      rfl
    · exact q S' e
omit C in
theorem at_nat {α : Type} (l : List α) (i : Int) (h0 : 0 ≤ i) (v : α) (h : l[i.toNat]? = some v) : atP l i = some v := by
  obtain ⟨n, rfl⟩ := Int.eq_ofNat_of_zero_le h0
  exact h
theorem p_weekday_of : ∀ vs S Q R, ct_weekday_of vs S Q R → wpB Γ 3 b_weekday_of vs S Q R := by
  rintro vs S Q R ⟨⟨y, m, d⟩, hd, rfl, q⟩
  unfold b_weekday_of dV
  walk_at "wp"
  have hd' := hd
  obtain ⟨h1, h2, h3, h4, h5, h6⟩ := hd
  simp only at h1 h2 h3 h4 h5 h6
  refine ⟨Or.inl (by decide), by decide, by decide, by decide, by decide, by decide, by decide, ?_⟩
  rw [C.place_in_year, C.gl]
  refine ⟨(y, m, d), hd', rfl, fun S' e => ?_⟩
  walk_at "wp"
  refine ⟨_, rfl, ?_⟩
  refine ⟨by decide, ?_⟩
  refine ⟨.str (wdOf (y, m, d)), ?_, q S' e⟩
  have hb : 0 ≤ wdNo (y, m, d) ∧ wdNo (y, m, d) < 7 := by unfold wdNo; omega
  refine at_nat _ _ (by omega) _ ?_
  show (wdNames.map PV.str)[(wdNo (y, m, d)).toNat]? = _
  unfold wdOf
  rw [List.getElem?_map, List.getD_eq_getElem?_getD]
  have : (wdNo (y, m, d)).toNat < wdNames.length := by show _ < 7; omega
  rw [List.getElem?_eq_getElem this]
  rfl
theorem p_weekday : ∀ vs S Q R, ct_weekday_of vs S Q R → wpB Γ 1 b_weekday vs S Q R := by
  rintro vs S Q R ⟨d, hd, rfl, q⟩
  unfold b_weekday
  walk_at "wp"
  rw [C.need_date, C.weekday_of]
  refine ⟨d, hd, rfl, ?_⟩
  walk_at "wp"
  exact ⟨d, hd, rfl, q⟩
theorem p_day_of_year : ∀ vs S Q R, ct_place_in_year vs S Q R → wpB Γ 1 b_day_of_year vs S Q R := by
  rintro vs S Q R ⟨d, hd, rfl, q⟩
  unfold b_day_of_year
  walk_at "wp"
  rw [C.need_date, C.place_in_year]
  refine ⟨d, hd, rfl, ?_⟩
  walk_at "wp"
  exact ⟨d, hd, rfl, q⟩
omit C in
theorem rng_at {f : Nat → PV} {n i : Nat} {x : PV} (h : ((List.range n).map f)[i]? = some x) : i < n ∧ x = f i := by
  rw [List.getElem?_map] at h
  by_cases hi : i < n
  · rw [List.getElem?_range hi] at h
    exact ⟨hi, (Option.some.inj h).symm⟩
  · rw [List.getElem?_eq_none (by rw [List.length_range]; omega)] at h
    cases h
omit C in
theorem irange_snoc (a : Int) (i : Nat) : irange a (a + ((i + 1 : Nat) : Int)) = irange a (a + (i : Int)) ++ [a + (i : Int)] := by
  unfold irange
  rw [show (a + ((i + 1 : Nat) : Int) - a).toNat = i + 1 by omega, show (a + (i : Int) - a).toNat = i by omega, List.range_succ, List.map_append]
  rfl
omit C in
theorem mlen_bd (y m : Int) : 28 ≤ mlen y m ∧ mlen y m ≤ 31 := by
  unfold mlen
  split
  · split <;> decide
  · split <;> decide
omit C in
theorem irange_nil (a : Int) : irange a a = [] := by unfold irange; simp
omit C in
theorem len_flat {α β : Type} (f : α → List β) (k : Nat) : ∀ l : List α, (∀ x, x ∈ l → (f x).length ≤ k) → (l.flatMap f).length ≤ k * l.length
  | [], _ => by simp
  | x :: r, h => by
    have h1 := h x (List.mem_cons_self ..)
    have h2 := len_flat f k r fun y hy => h y (List.mem_cons_of_mem _ hy)
    rw [List.flatMap_cons, List.length_append, List.length_cons, Nat.mul_succ]
    omega
def monthD (y m : Int) : List Date := (irange 1 (mlen y m + 1)).map fun d => (y, m, d)
omit C in
theorem monthD_len (y m : Int) : (monthD y m).length ≤ 31 := by
  unfold monthD
  rw [List.length_map, irange_len]
  have := mlen_bd y m
  omega
omit C in
theorem datesY_eq (y : Int) : datesY y = (irange 1 (1 + ((12 : Nat) : Int))).flatMap (monthD y) := rfl
omit C in
theorem datesY_len (y : Int) : (datesY y).length ≤ 372 := by
  rw [datesY_eq]
  have := len_flat (monthD y) 31 (irange 1 (1 + ((12 : Nat) : Int))) fun x _ => monthD_len y x
  rw [irange_len] at this
  exact this
theorem p_dates_in : ∀ vs S Q R, ct_dates_in vs S Q R → wpB Γ 5 b_dates_in vs S Q R := by
  rintro vs S Q R ⟨a, b, hs, rfl, q⟩
  unfold b_dates_in
  walk_at "wp"
  obtain ⟨h1, h2, h3, h4, h5, h6⟩ := hs
  refine ⟨by omega, ?_⟩
  refine ⟨fun i ρ' S' => Ext S S' ∧ S'[S.length]? = some (.lst (((irange a (a + (i : Int))).flatMap datesY).map dV)) ∧ ∃ x y z, ρ' = [some (.tup [.int a, .int b]), some (.ref S.length), x, y, z],
    ⟨Ext.new, ?_, _, _, _, rfl⟩, fun _ _ _ _ => trivial, ?_, ?_⟩
  · rw [show a + ((0 : Nat) : Int) = a by omega, irange_nil]; exact new_at
  · rintro i x ρ' S' hx ⟨e1, g1, x2, x3, x4, rfl⟩
    obtain ⟨hi, rfl⟩ := rng_at hx
    refine ⟨_, rfl, ?_⟩
    walk_at "wp"
    refine ⟨by decide, ?_⟩
    refine ⟨fun j ρ' S' => Ext S S' ∧ S'[S.length]? = some (.lst (((irange a (a + (i : Int))).flatMap datesY ++ (irange 1 (1 + (j : Int))).flatMap (monthD (a + (i : Int)))).map dV)) ∧ ∃ y z, ρ' = [some (.tup [.int a, .int b]), some (.ref S.length), some (.int (a + (i : Int))), y, z],
      ⟨e1, ?_, _, _, rfl⟩, fun _ _ _ _ => trivial, ?_, ?_⟩
    · rw [show (1 : Int) + ((0 : Nat) : Int) = 1 by omega, irange_nil, List.flatMap_nil, List.append_nil]; exact g1
    · rintro j x ρ' S2 hx ⟨e2, g2, y3, y4, rfl⟩
      obtain ⟨hj, rfl⟩ := rng_at hx
      have hj : j < 12 := hj
      refine ⟨_, rfl, ?_⟩
      walk_at "wp"
      refine ⟨⟨_, _, rfl, getL_lst g2⟩, ?_⟩
      rw [C.month_length]
      refine ⟨_, _, rfl, ?_⟩
      walk_at "wp"
      have hb := mlen_bd (a + (i : Int)) (1 + (j : Int))
      refine ⟨by omega, ?_⟩
      refine comp_map (intF fun k => dV (a + (i : Int), 1 + (j : Int), k)) (fun _ _ => trivial) (by simp only [List.length_map, List.length_range]; unfold big; omega) (fun x S' hx e => ⟨_, rfl, fun Q1 q1 => ?_⟩) fun S3 e3 h => ?_
      · obtain ⟨k, _, rfl⟩ := List.mem_map.mp hx
        walk_at "wp"
        exact q1 _ Ext.refl
      · have l1 := (List.getElem?_eq_some_iff.mp (e3 _ _ g2)).1
        refine ⟨_, _, e3 _ _ g2, h, ?_, (e2.trans e3).set (Nat.le_refl _), ?_, _, _, rfl⟩
        · have t1 := len_flat datesY 372 (irange a (a + (i : Int))) fun x _ => datesY_len x
          have t2 := len_flat (monthD (a + (i : Int))) 31 (irange 1 (1 + (j : Int))) fun x _ => monthD_len _ x
          rw [irange_len] at t1 t2
          simp only [List.length_map, List.length_append, List.length_range]
          unfold big
          omega
        · rw [List.getElem?_set_self l1, irange_snoc, List.flatMap_append, List.flatMap_singleton, ← List.append_assoc, List.map_append (l₂ := monthD _ _)]
          unfold monthD irange
          simp only [List.map_map]
          rfl
    · rintro ρ' S2 ⟨e2, g2, y3, y4, rfl⟩
      refine ⟨e2, ?_, _, _, _, rfl⟩
      rw [irange_snoc, List.flatMap_append, List.flatMap_singleton]
      exact g2
  · rintro ρ' S' ⟨e1, g1, x2, x3, x4, rfl⟩
    refine ⟨_, rfl, q _ _ e1 (Nat.le_refl _) ?_⟩
    rw [g1, List.length_map, List.length_range, show a + ((b + 1 - a).toNat : Int) = b + 1 by omega]
    rfl
theorem p_dates : ∀ vs S Q R, ct_dates_in vs S Q R → wpB Γ 1 b_dates vs S Q R := by
  rintro vs S Q R ⟨a, b, hs, rfl, q⟩
  unfold b_dates
  walk_at "wp"
  rw [C.need_span, C.dates_in]
  refine ⟨a, b, hs, rfl, fun S' e => ?_⟩
  walk_at "wp"
  exact ⟨a, b, hs, rfl, fun S2 n e2 hn h => q S2 n (e.trans e2) (Nat.le_trans e.len hn) h⟩
end
end PyI
set_option autoImplicit false
set_option linter.all false
set_option Elab.async false
set_option maxRecDepth 100000
set_option maxHeartbeats 4000000
namespace PyI
local macro_rules | `(tactic| walk_at "wp") => `(tactic| simp only [e_var, e_glb, e_int, e_str, e_bl, e_non, e_bin, e_cmp, e_chain, e_neg, e_and, e_or, e_not, e_ite, e_tup, e_lst, e_dic0, e_sub, e_slice, wo_nil, wo_int, wo_var, wo_bin, wo_neg, wo_blt, wo_call, wo_sub, e_lrg, e_lng, e_rev, e_call, e_blt, e_meth, e_comp, e_fld, e_newc, e_mcl, e_lenc, e_orv, e_selc, a_nil, a_cons,
  s_pass, s_seq, s_nm, s_tp, s_par, s_aug, s_setsub, s_augsub, s_ex, s_ret, s_retn, s_ite, s_whl, s_for, s_brk, s_cnt, s_rse, s_tri, s_setfld,
  b_add, b_adds, b_addr, b_addt, b_sub, b_mul, b_mulr, b_muls, b_mult, b_div, b_mod, b_pow, c_eq, c_eqs, c_eqr, c_eqt, c_eqn, c_ne, c_nes, c_ner, c_net, c_nen, c_lt, c_le, c_gt, c_ge, c_ltt, c_let, c_gtt, c_get, c_lts, c_les, c_gts, c_ges, c_isbb, c_isnn, c_isbn, c_isin, c_issn, c_istn, c_isrn, c_nsbb, c_nsnn, c_nsbn, c_nsin, c_nssn, c_nstn, c_nsrn,
  c_int, c_ins, c_inr, c_nit, c_nis, c_nir, n_int, i_tup, i_str, i_ref, i_dic, k_str, k_tup, k_ref, v_ref, v_tup, l_minD, l_maxD, l_min, l_max, z_vals, z_keys, z_enmt, z_zip3, l_lens, l_lent, l_lenr, l_str, l_int, l_dictP, l_isSeq_t, l_isSeq_r, l_isTup_r, l_isTup_i, l_tuplet, l_tupler, l_listt, l_listr, l_sum, l_all, l_any, l_isInt_i, l_isBool_i, l_isStr_s, l_isTup_t,
  m_starts, m_ins, m_split, m_part, m_popAt, y_popAt, y_ins, y_starts, y_split, y_part, m_app, m_ext, m_pop, m_join, m_alpha, m_sidx, m_get, m_setd, y_app, y_ext, y_pop, y_get, y_setd, y_str, y_alpha, y_sidx, t_bl, o_int, z_tup, z_ref, z_str, z_rng1, z_rng2, z_rng3, z_enm, z_zipt, z_zipr, w_ri, w_rs,
  at_0, at_1, at_2, at_3, gv_0, gv_s, sa_0, sa_s, st_nm, st_tp, wi_0, wi_s, st_0, st_s, st_n, wpB, List.set_cons_zero, List.set_cons_succ, Option.some.injEq, exists_eq_left', true_and, Bool.not_true, Bool.not_false, if_true, if_false, Bool.false_eq_true, exists_const, PV.ref.injEq, PV.str.injEq, PV.int.injEq, List.length_cons, List.length_nil])
/-! ### patterns, in plain Lean -/
def isFld (p : Txt) : Bool := decide (p ∈ fieldT)
def litB (p : Txt) : Bool := decide (1 ≤ p.length ∧ p.length ≤ 3) && p.all fun c => decide (c ∈ litT)
def partB (p : Txt) : Bool := isFld p || litB p
def patB (ps : List Txt) : Bool := decide (1 ≤ ps.length ∧ ps.length ≤ 7) && (ps.all partB && !((ps.zip (ps.drop 1)).any fun x => !isFld x.1 && !isFld x.2))
def smallT (ps : List Txt) : Prop := ps.length ≤ 1000 ∧ ∀ p ∈ ps, p.length ≤ 1000
def padT (k n : Nat) : Txt := List.replicate (k - (numT n).length) 48 ++ numT n
def valN (p : Txt) (d : Date) : Int :=
  if p = [68] ∨ p = [68, 68] then d.2.2 else if p = [77] ∨ p = [77, 77] then d.2.1 else if p = [74] ∨ p = [74, 74, 74] then piy d else if p = [89, 89, 89, 89] then d.1 else d.1 % 100
def moOf (d : Date) : Txt := moNames.getD (d.2.1 - 1).toNat []
def valV (p : Txt) (d : Date) : PV := if p = [77, 79, 78] then .str (moOf d) else if p = [87, 68] then .str (wdOf d) else .int (valN p d)
def digs (p : Txt) : Nat := if p = [68] ∨ p = [77] ∨ p = [74] then 1 else p.length
def pieceT (p : Txt) (d : Date) : Txt := if isFld p = false then p else if p = [77, 79, 78] then moOf d else if p = [87, 68] then wdOf d else padT (digs p) (valN p d).toNat
def writtenT (ps : List Txt) (d : Date) : Txt := (ps.map fun p => pieceT p d).flatten
def goodPat (ps : List Txt) : Prop := smallT ps ∧ patB ps = true
/-- the texts in the order of their first dates -/
def keysOf : List Txt → List Txt
  | [] => []
  | t :: r => t :: (keysOf r).filter fun u => decide (u ≠ t)
def ct_is_literal : Ct := fun vs S Q _ => ∃ t : Txt, vs = [.str t] ∧ t.length ≤ 1000 ∧ ∀ S', Ext S S' → Q (.bl (litB t)) S'
def ct_is_pattern : Ct := fun vs S Q _ => ∃ ps : List Txt, vs = [strV ps] ∧ smallT ps ∧ ∀ S', Ext S S' → Q (.bl (patB ps)) S'
def ct_need_pattern : Ct := fun vs S Q _ => ∃ ps : List Txt, vs = [strV ps] ∧ goodPat ps ∧ ∀ S', Ext S S' → Q .non S'
def ct_need_text : Ct := fun vs S Q _ => ∃ t : Txt, vs = [.str t] ∧ Q .non S
def ct_padded : Ct := fun vs S Q _ => ∃ n k : Int, vs = [.int n, .int k] ∧ 0 ≤ n ∧ n < 2400 ∧ 1 ≤ k ∧ k ≤ 4 ∧ Q (.str (padT k.toNat n.toNat)) S
def ct_value_of : Ct := fun vs S Q _ => ∃ (p : Txt) (d : Date), vs = [.str p, dV d] ∧ isDate d ∧ isFld p = true ∧ ∀ S', Ext S S' → Q (valV p d) S'
def ct_piece : Ct := fun vs S Q _ => ∃ (p : Txt) (d : Date), vs = [.str p, dV d] ∧ isDate d ∧ p.length ≤ 1000 ∧ ∀ S', Ext S S' → Q (.str (pieceT p d)) S'
def ct_written : Ct := fun vs S Q _ => ∃ (ps : List Txt) (d : Date), vs = [strV ps, dV d] ∧ isDate d ∧ smallT ps ∧ ∀ S', Ext S S' → Q (.str (writtenT ps d)) S'
def ct_write : Ct := fun vs S Q _ => ∃ (ps : List Txt) (d : Date), vs = [strV ps, dV d] ∧ isDate d ∧ goodPat ps ∧ ∀ S', Ext S S' → Q (.str (writtenT ps d)) S'
/-- at n there is the table of the dates ds, itself at or behind b, its lists at or behind c -/
def tabAt (b c : Nat) (S : Store) (n : Nat) (w : Date → Txt) (ds : List Date) : Prop :=
  ∃ rs : List (Txt × Nat), S[n]? = some (.dic (rs.map fun r => (r.1, PV.ref r.2))) ∧ b ≤ n ∧ rs.map (·.1) = keysOf (ds.map w) ∧ (rs.map (·.2)).Nodup ∧ n ∉ rs.map (·.2) ∧
    ∀ r ∈ rs, c ≤ r.2 ∧ S[r.2]? = some (.lst ((ds.filter fun d => decide (w d = r.1)).map dV))
def ct_table : Ct := fun vs S Q _ => ∃ (ps : List Txt) (a b : Int), vs = [strV ps, .tup [.int a, .int b]] ∧ isSpan a b ∧ smallT ps ∧
  ∀ S' n, Ext S S' → tabAt S.length S.length S' n (writtenT ps) (datesIn a b) → Q (.ref n) S'
def ct_readings : Ct := fun vs S Q _ => ∃ (ps : List Txt) (a b : Int) (t : Txt), vs = [strV ps, .tup [.int a, .int b], .str t] ∧ isSpan a b ∧ goodPat ps ∧
  ∀ S' n, Ext S S' → S.length ≤ n → S'[n]? = some (.lst (((datesIn a b).filter fun d => decide (writtenT ps d = t)).map dV)) → Q (.ref n) S'
structure Pat (Γ : Sig) : Prop extends Cal Γ where
  is_literal : Γ.ct 13 = ct_is_literal
  is_pattern : Γ.ct 14 = ct_is_pattern
  need_pattern : Γ.ct 15 = ct_need_pattern
  need_text : Γ.ct 16 = ct_need_text
  padded : Γ.ct 17 = ct_padded
  value_of : Γ.ct 18 = ct_value_of
  piece : Γ.ct 19 = ct_piece
  written : Γ.ct 20 = ct_written
  write : Γ.ct 21 = ct_write
  table : Γ.ct 22 = ct_table
  readings : Γ.ct 23 = ct_readings
theorem flat_strs (l : List Txt) : (l.map PV.str).all flat = true := by
  induction l with
  | nil => rfl
  | cons a r ih => rw [List.map_cons, List.all_cons, ih]; rfl
def strF (f : Txt → PV) : PV → PV
  | .str k => f k
  | _ => .non
def strB (f : Txt → Bool) : PV → Bool
  | .str k => f k
  | _ => false
theorem small_at {ps : List Txt} (h : smallT ps) {p : Txt} (hp : p ∈ ps) : p.length ≤ big := by
  have := h.2 p hp; unfold big; omega
/-! ### numbers as text -/
theorem num_len (n : Nat) (h : n < 2400) : 1 ≤ (numT n).length ∧ (numT n).length ≤ 4 := by
  have : ∀ k : Fin 2400, 1 ≤ (numT k.1).length ∧ (numT k.1).length ≤ 4 := by decide +kernel
  exact this ⟨n, h⟩
theorem piy_bd (d : Date) (h : isDate d) : 1 ≤ piy d ∧ piy d ≤ 366 := by
  obtain ⟨y, m, k⟩ := d
  obtain ⟨h1, h2, h3, h4, h5, h6⟩ := h
  simp only at h1 h2 h3 h4 h5 h6
  have hb := mlen_bd y m
  have key : ∀ b : Bool, ∀ j : Fin 12, 0 ≤ ((irange 1 (1 + (j.1 : Int))).map fun q => if q = 2 then (if b then (29 : Int) else 28) else if q = 4 ∨ q = 6 ∨ q = 9 ∨ q = 11 then 30 else 31).sum ∧
      ((irange 1 (1 + (j.1 : Int))).map fun q => if q = 2 then (if b then (29 : Int) else 28) else if q = 4 ∨ q = 6 ∨ q = 9 ∨ q = 11 then 30 else 31).sum ≤ 335 := by decide +kernel
  have := key (isLong y) ⟨(m - 1).toNat, by omega⟩
  simp only at this
  rw [show (1 : Int) + ((m - 1).toNat : Nat) = m by omega] at this
  unfold piy
  unfold mlen at h6 hb ⊢
  simp only
  omega
theorem valN_bd (p : Txt) (d : Date) (h : isDate d) : 0 ≤ valN p d ∧ valN p d < 2400 := by
  have h1 := piy_bd d h
  obtain ⟨a1, a2, a3, a4, a5, a6⟩ := h
  have := mlen_bd d.1 d.2.1
  unfold valN
  repeat' split
  all_goals omega
theorem pad_len (k n : Nat) (hk : k ≤ 4) (h : n < 2400) : (padT k n).length ≤ 4 := by
  have := num_len n h
  unfold padT
  rw [List.length_append, List.length_replicate]
  omega
theorem wd_len (d : Date) : (wdOf d).length ≤ 4 := by
  have : ∀ l ∈ wdNames, l.length ≤ 4 := by decide
  unfold wdOf
  rw [List.getD_eq_getElem?_getD]
  cases h : wdNames[(wdNo d).toNat]? with
  | none => exact Nat.zero_le _
  | some x => exact this x (List.mem_of_getElem? h)
theorem mo_len (d : Date) : (moOf d).length ≤ 4 := by
  have : ∀ l ∈ moNames, l.length ≤ 4 := by decide
  unfold moOf
  rw [List.getD_eq_getElem?_getD]
  cases h : moNames[(d.2.1 - 1).toNat]? with
  | none => exact Nat.zero_le _
  | some x => exact this x (List.mem_of_getElem? h)
theorem fld_len (p : Txt) (h : isFld p = true) : 1 ≤ p.length ∧ p.length ≤ 4 := by
  have : ∀ l ∈ fieldT, 1 ≤ l.length ∧ l.length ≤ 4 := by decide
  exact this p (of_decide_eq_true h)
theorem digs_bd (p : Txt) (h : isFld p = true) : 1 ≤ digs p ∧ digs p ≤ 4 := by
  have := fld_len p h
  unfold digs
  split <;> omega
theorem piece_len (p : Txt) (d : Date) (hd : isDate d) (h : p.length ≤ 1000) : (pieceT p d).length ≤ 1000 := by
  unfold pieceT
  split
  · exact h
  · rename_i hf
    have hf : isFld p = true := by simpa using hf
    split
    · exact Nat.le_trans (mo_len d) (by decide)
    · split
      · exact Nat.le_trans (wd_len d) (by decide)
      · have := valN_bd p d hd
        exact Nat.le_trans (pad_len _ _ (digs_bd p hf).2 (by omega)) (by decide)
theorem flat_len (l : List Txt) (k : Nat) (h : ∀ x ∈ l, x.length ≤ k) : (l.map (·.length)).sum ≤ k * l.length := by
  induction l with
  | nil => simp
  | cons a r ih =>
    have h1 := h a (List.mem_cons_self ..)
    have h2 := ih fun x hx => h x (List.mem_cons_of_mem _ hx)
    rw [List.map_cons, List.sum_cons, List.length_cons, Nat.mul_succ]
    omega
theorem joinT_nil (l : List Txt) : joinT [] l = l.flatten := by
  match l with
  | [] => rfl
  | [x] => simp [joinT]
  | x :: y :: r =>
    have := joinT_nil (y :: r)
    rw [joinT, this]
    simp
section
variable {Γ : Sig} (C : Pat Γ)
include C
theorem p_is_literal : ∀ vs S Q R, ct_is_literal vs S Q R → wpB Γ 2 b_is_literal vs S Q R := by
  rintro vs S Q R ⟨t, rfl, ht, q⟩
  unfold b_is_literal
  walk_at "wp"
  refine ⟨by unfold big; omega, ?_⟩
  unfold litB at q
  by_cases h1 : (1 : Int) ≤ (t.length : Int)
  · rw [if_pos (decide_eq_true h1)]
    by_cases h2 : (t.length : Int) ≤ 3
    · rw [if_pos (decide_eq_true h2)]
      refine comp_map (strF fun k => .bl (k.all fun c => decide (c ∈ litT))) (fun _ _ => trivial) (by simp only [List.length_map]; unfold big; omega) (fun x S' hx e => ⟨_, rfl, fun Q1 q1 => ?_⟩) fun S' e h => ?_
      · obtain ⟨k, _, rfl⟩ := List.mem_map.mp hx
        walk_at "wp"
        rw [C.gl]
        refine ⟨_, rfl, ?_⟩
        walk_at "wp"
        refine ⟨k, rfl, ?_⟩
        have := q1 _ Ext.refl
        simpa [strF] using this
      · refine ⟨t.map fun c => decide (c ∈ litT), ?_, ?_⟩
        · rw [getL_lst h, List.map_map, List.map_map]
          congr 1
          apply List.map_congr_left
          intro c _
          simp [strF]
        · have := q S' e
          rw [decide_eq_true (by omega), Bool.true_and] at this
          rw [List.all_map]
          exact this
    · rw [if_neg (by simpa using h2)]
      have := q S Ext.refl
      rwa [decide_eq_false (by omega), Bool.false_and] at this
  · rw [if_neg (by simpa using h1)]
    have := q S Ext.refl
    rwa [decide_eq_false (by omega), Bool.false_and] at this
theorem p_need_pattern : ∀ vs S Q R, ct_need_pattern vs S Q R → wpB Γ 1 b_need_pattern vs S Q R := by
  rintro vs S Q R ⟨ps, rfl, hp, q⟩
  unfold b_need_pattern
  walk_at "wp"
  rw [C.is_pattern]
  refine ⟨ps, rfl, hp.1, fun S' e => ?_⟩
  walk_at "wp"
  rw [hp.2]
  exact q S' e
theorem p_need_text : ∀ vs S Q R, ct_need_text vs S Q R → wpB Γ 1 b_need_text vs S Q R := by
  rintro vs S Q R ⟨t, rfl, q⟩
  unfold b_need_text
  walk_at "wp"
  exact q
theorem p_padded : ∀ vs S Q R, ct_padded vs S Q R → wpB Γ 3 b_padded vs S Q R := by
  rintro vs S Q R ⟨n, k, rfl, h1, h2, h3, h4, q⟩
  unfold b_padded
  have hl := num_len n.toNat (by omega)
  walk_at "wp"
  have e : (List.replicate (k - ((numT n.toNat).length : Int)).toNat ([48] : Txt)).flatten = List.replicate (k.toNat - (numT n.toNat).length) 48 := by
    rw [show (k - ((numT n.toNat).length : Int)).toNat = k.toNat - (numT n.toNat).length by omega]
    exact List.flatten_replicate_singleton
  refine ⟨h1, by omega, by unfold big; omega, by decide, by omega, by omega, ?_, ?_⟩
  · rw [e, List.length_replicate]
    unfold big
    omega
  · rw [e]
    exact q
theorem p_value_of : ∀ vs S Q R, ct_value_of vs S Q R → wpB Γ 2 b_value_of vs S Q R := by
  rintro vs S Q R ⟨p, ⟨y, m, d⟩, rfl, hd, hp, q⟩
  have hm : p ∈ fieldT := of_decide_eq_true hp
  have hd' := hd
  obtain ⟨h1, h2, h3, h4, h5, h6⟩ := hd
  simp only at h1 h2 h3 h4 h5 h6
  unfold b_value_of dV
  walk_at "wp"
  rw [C.gl]
  simp only [fieldT, List.mem_cons, List.not_mem_nil, or_false] at hm
  rw [C.weekday_of, C.place_in_year]
  have hmo : atP (moNames.map PV.str) (m - 1) = some (.str (moOf (y, m, d))) := by
    refine at_nat _ _ (by omega) _ ?_
    unfold moOf
    rw [List.getElem?_map, List.getD_eq_getElem?_getD]
    have : (m - 1).toNat < moNames.length := by show _ < 12; omega
    rw [List.getElem?_eq_getElem this]
    rfl
  refine ⟨rfl, rfl, ?_⟩
  rcases hm with rfl | rfl | rfl | rfl | rfl | rfl | rfl | rfl | rfl | rfl
  · exact q _ Ext.refl
  · exact q _ Ext.refl
  · exact ⟨rfl, rfl, q _ Ext.refl⟩
  · exact ⟨rfl, rfl, q _ Ext.refl⟩
  · exact ⟨rfl, rfl, _, rfl, _, hmo, q _ Ext.refl⟩
  · exact ⟨rfl, rfl, rfl, rfl, by decide, q _ Ext.refl⟩
  · exact ⟨rfl, rfl, rfl, rfl, q _ Ext.refl⟩
  · exact ⟨rfl, rfl, rfl, rfl, _, hd', rfl, q⟩
  · exact ⟨rfl, rfl, rfl, rfl, _, hd', rfl, q⟩
  · exact ⟨rfl, rfl, _, hd', rfl, q⟩
theorem p_piece : ∀ vs S Q R, ct_piece vs S Q R → wpB Γ 3 b_piece vs S Q R := by
  rintro vs S Q R ⟨p, d, rfl, hd, hp, q⟩
  unfold b_piece
  walk_at "wp"
  rw [C.gl, C.value_of]
  refine ⟨_, rfl, ?_⟩
  unfold strV
  walk_at "wp"
  refine ⟨rfl, flat_strs _, ?_⟩
  rw [inP_str]
  cases hf : isFld p with
  | false =>
    have : decide (p ∈ fieldT) = false := hf
    rw [if_pos (by rw [this]; rfl)]
    have := q _ Ext.refl
    unfold pieceT at this
    rwa [if_pos hf] at this
  | true =>
    have e : decide (p ∈ fieldT) = true := hf
    rw [if_neg (by rw [e]; decide)]
    have hn : pieceT p d = if p = [77, 79, 78] then moOf d else if p = [87, 68] then wdOf d else padT (digs p) (valN p d).toNat := by unfold pieceT; rw [if_neg (by rw [hf]; decide)]
    refine ⟨p, d, rfl, hd, hf, fun S' e => ?_⟩
    have := q S' e
    rw [hn] at this
    rw [show ([PV.str [77, 79, 78], PV.str [87, 68]] : List PV) = ([[77, 79, 78], [87, 68]] : List Txt).map PV.str from rfl, inP_str]
    rw [show ([PV.str [68], PV.str [77], PV.str [74]] : List PV) = ([[68], [77], [74]] : List Txt).map PV.str from rfl, inP_str]
    refine ⟨rfl, rfl, ?_⟩
    by_cases k1 : p = [77, 79, 78]
    · subst k1; exact this
    · by_cases k2 : p = [87, 68]
      · subst k2; exact this
      · rw [if_neg (by simp [k1, k2])]
        rw [if_neg k1, if_neg k2] at this
        have hv : valV p d = .int (valN p d) := by unfold valV; rw [if_neg k1, if_neg k2]
        rw [hv, C.padded]
        have hb := valN_bd p d hd
        have hg := digs_bd p hf
        refine ⟨rfl, rfl, ?_⟩
        unfold digs at this hg
        by_cases k3 : p = [68] ∨ p = [77] ∨ p = [74]
        · rw [if_pos (by simpa using k3)]
          rw [if_pos k3] at this hg
          exact ⟨_, _, rfl, hb.1, hb.2, by decide, by decide, this⟩
        · rw [if_neg (by simpa using k3)]
          rw [if_neg k3] at this hg
          refine ⟨by unfold big; omega, _, _, rfl, hb.1, hb.2, by omega, by omega, this⟩
theorem p_written : ∀ vs S Q R, ct_written vs S Q R → wpB Γ 3 b_written vs S Q R := by
  rintro vs S Q R ⟨ps, d, rfl, hd, hp, q⟩
  unfold b_written strV
  walk_at "wp"
  refine ⟨⟨_, rfl⟩, ?_⟩
  refine comp_map (strF fun k => .str (pieceT k d)) (fun _ _ => trivial) (by have := hp.1; simp only [List.length_map]; unfold big; omega) (fun x S' hx e => ⟨_, rfl, fun Q1 q1 => ?_⟩) fun S' e h => ?_
  · obtain ⟨k, hk, rfl⟩ := List.mem_map.mp hx
    walk_at "wp"
    rw [C.piece]
    exact ⟨k, d, rfl, hd, hp.2 k hk, fun S2 e2 => q1 _ e2⟩
  · refine ⟨ps.map fun p => pieceT p d, ?_, ?_, ?_⟩
    · rw [getL_lst h, List.map_map, List.map_map]; rfl
    · have := flat_len (ps.map fun p => pieceT p d) 1000 fun x hx => by
        obtain ⟨p, h1, rfl⟩ := List.mem_map.mp hx
        exact piece_len p d hd (hp.2 p h1)
      have h2 := hp.1
      rw [List.length_map] at this
      simp only [List.length_nil, Nat.mul_zero, Nat.add_zero]
      unfold big; omega
    · rw [joinT_nil]; exact q S' e
theorem p_write : ∀ vs S Q R, ct_write vs S Q R → wpB Γ 2 b_write vs S Q R := by
  rintro vs S Q R ⟨ps, d, rfl, hd, hp, q⟩
  unfold b_write
  walk_at "wp"
  rw [C.need_pattern, C.need_date, C.written]
  refine ⟨ps, rfl, hp, fun S' e => ?_⟩
  walk_at "wp"
  refine ⟨d, hd, rfl, ?_⟩
  walk_at "wp"
  exact ⟨ps, d, rfl, hd, hp.1, fun S2 e2 => q _ (e.trans e2)⟩
end
end PyI
set_option autoImplicit false
set_option linter.all false
set_option Elab.async false
set_option maxRecDepth 100000
set_option maxHeartbeats 4000000
namespace PyI
local macro_rules | `(tactic| walk_at "wp") => `(tactic| simp only [e_var, e_glb, e_int, e_str, e_bl, e_non, e_bin, e_cmp, e_chain, e_neg, e_and, e_or, e_not, e_ite, e_tup, e_lst, e_dic0, e_sub, e_slice, wo_nil, wo_int, wo_var, wo_bin, wo_neg, wo_blt, wo_call, wo_sub, e_lrg, e_lng, e_rev, e_call, e_blt, e_meth, e_comp, e_fld, e_newc, e_mcl, e_lenc, e_orv, e_selc, a_nil, a_cons,
  s_pass, s_seq, s_nm, s_tp, s_par, s_aug, s_setsub, s_augsub, s_ex, s_ret, s_retn, s_ite, s_whl, s_for, s_brk, s_cnt, s_rse, s_tri, s_setfld,
  b_add, b_adds, b_addr, b_addt, b_sub, b_mul, b_mulr, b_muls, b_mult, b_div, b_mod, b_pow, c_eq, c_eqs, c_eqr, c_eqt, c_eqn, c_ne, c_nes, c_ner, c_net, c_nen, c_lt, c_le, c_gt, c_ge, c_ltt, c_let, c_gtt, c_get, c_lts, c_les, c_gts, c_ges, c_isbb, c_isnn, c_isbn, c_isin, c_issn, c_istn, c_isrn, c_nsbb, c_nsnn, c_nsbn, c_nsin, c_nssn, c_nstn, c_nsrn,
  c_int, c_ins, c_inr, c_nit, c_nis, c_nir, n_int, i_tup, i_str, i_ref, i_dic, k_str, k_tup, k_ref, v_ref, v_tup, l_minD, l_maxD, l_min, l_max, z_vals, z_keys, z_enmt, z_zip3, l_lens, l_lent, l_lenr, l_str, l_int, l_dictP, l_isSeq_t, l_isSeq_r, l_isTup_r, l_isTup_i, l_tuplet, l_tupler, l_listt, l_listr, l_sum, l_all, l_any, l_isInt_i, l_isBool_i, l_isStr_s, l_isTup_t,
  m_starts, m_ins, m_split, m_part, m_popAt, y_popAt, y_ins, y_starts, y_split, y_part, m_app, m_ext, m_pop, m_join, m_alpha, m_sidx, m_get, m_setd, y_app, y_ext, y_pop, y_get, y_setd, y_str, y_alpha, y_sidx, t_bl, o_int, z_tup, z_ref, z_str, z_rng1, z_rng2, z_rng3, z_enm, z_zipt, z_zipr, w_ri, w_rs,
  at_0, at_1, at_2, at_3, gv_0, gv_s, sa_0, sa_s, st_nm, st_tp, wi_0, wi_s, st_0, st_s, st_n, wpB, List.set_cons_zero, List.set_cons_succ, Option.some.injEq, exists_eq_left', true_and, Bool.not_true, Bool.not_false, if_true, if_false, Bool.false_eq_true, exists_const, PV.ref.injEq, PV.str.injEq, PV.int.injEq, List.length_cons, List.length_nil])
theorem mem_keys (u : Txt) : ∀ ts : List Txt, u ∈ keysOf ts ↔ u ∈ ts
  | [] => Iff.rfl
  | t :: r => by
    have ih := mem_keys u r
    rw [keysOf, List.mem_cons, List.mem_cons, List.mem_filter, ih]
    constructor
    · rintro (h | h)
      · exact Or.inl h
      · exact Or.inr h.1
    · rintro (h | h)
      · exact Or.inl h
      · by_cases e : u = t
        · exact Or.inl e
        · exact Or.inr ⟨h, by simp [e]⟩
theorem keys_nodup : ∀ ts : List Txt, (keysOf ts).Nodup
  | [] => List.nodup_nil
  | t :: r => by
    rw [keysOf, List.nodup_cons]
    exact ⟨fun h => by simpa using (List.mem_filter.mp h).2, (keys_nodup r).filter _⟩
theorem keys_len : ∀ ts : List Txt, (keysOf ts).length ≤ ts.length
  | [] => Nat.le_refl _
  | t :: r => by
    rw [keysOf, List.length_cons, List.length_cons]
    exact Nat.succ_le_succ (Nat.le_trans (List.length_filter_le _ _) (keys_len r))
theorem keys_snoc (t : Txt) : ∀ ts : List Txt, keysOf (ts ++ [t]) = keysOf ts ++ if t ∈ ts then [] else [t]
  | [] => rfl
  | x :: r => by
    have ih := keys_snoc t r
    rw [List.cons_append, keysOf, keysOf, ih, List.filter_append, List.cons_append]
    by_cases h1 : t = x
    · subst h1
      by_cases h2 : t ∈ r
      · simp [h2]
      · simp [h2]
    · by_cases h2 : t ∈ r
      · simp [h2]
      · simp [h1, h2]
theorem lkp_refs (rs : List (Txt × Nat)) (k : Txt) : lkp (rs.map fun r => (r.1, PV.ref r.2)) k = (rs.find? fun r => decide (r.1 = k)).map fun r => PV.ref r.2 := by
  unfold lkp
  rw [List.find?_map]
  cases h : rs.find? fun r => decide (r.1 = k) with
  | none => simp [Function.comp_def, h]
  | some r => simp [Function.comp_def, h]
theorem lkp_has {rs : List (Txt × Nat)} {k : Txt} (h : k ∈ rs.map (·.1)) : ∃ r ∈ rs, r.1 = k ∧ lkp (rs.map fun r => (r.1, PV.ref r.2)) k = some (.ref r.2) := by
  rw [lkp_refs]
  obtain ⟨r, h1, h2⟩ := List.mem_map.mp h
  cases e : rs.find? fun r => decide (r.1 = k) with
  | none =>
    have := List.find?_eq_none.mp e r h1
    exact absurd h2 (by simpa using this)
  | some q => exact ⟨q, List.mem_of_find?_eq_some e, by simpa using List.find?_some e, rfl⟩
theorem lkp_not {rs : List (Txt × Nat)} {k : Txt} (h : k ∉ rs.map (·.1)) : lkp (rs.map fun r => (r.1, PV.ref r.2)) k = none := by
  rw [lkp_refs]
  cases e : rs.find? fun r => decide (r.1 = k) with
  | none => rfl
  | some q => exact absurd (List.mem_map.mpr ⟨q, List.mem_of_find?_eq_some e, by simpa using List.find?_some e⟩) h
theorem nodup_inj {α β : Type} {f : α → β} : ∀ {l : List α}, (l.map f).Nodup → ∀ {x y : α}, x ∈ l → y ∈ l → f x = f y → x = y
  | [], _, _, _, h, _, _ => by cases h
  | a :: r, hn, x, y, hx, hy, e => by
    rw [List.map_cons, List.nodup_cons] at hn
    rcases List.mem_cons.mp hx with h1 | h1
    · rcases List.mem_cons.mp hy with h2 | h2
      · rw [h1, h2]
      · exact absurd (List.mem_map.mpr ⟨y, h2, by rw [← e, h1]⟩) hn.1
    · rcases List.mem_cons.mp hy with h2 | h2
      · exact absurd (List.mem_map.mpr ⟨x, h1, by rw [e, h2]⟩) hn.1
      · exact nodup_inj hn.2 h1 h2 e
theorem filt_snoc (w : Date → Txt) (ds : List Date) (d : Date) (k : Txt) : (ds ++ [d]).filter (fun x => decide (w x = k)) = ds.filter (fun x => decide (w x = k)) ++ if w d = k then [d] else [] := by
  rw [List.filter_append]
  by_cases h : w d = k
  · simp [h]
  · simp [h]
theorem tab_old {b c : Nat} {S : Store} {n : Nat} {w : Date → Txt} {ds : List Date} {d : Date} (h : tabAt b c S n w ds) (ht : w d ∈ ds.map w) :
    ∃ kvs r xs, S[n]? = some (.dic kvs) ∧ lkp kvs (w d) = some (.ref r) ∧ S[r]? = some (.lst xs) ∧ xs.length ≤ ds.length ∧ c ≤ r ∧ tabAt b c (S.set r (.lst (xs ++ [dV d]))) n w (ds ++ [d]) := by
  obtain ⟨rs, h1, h2, h3, h4, h5, h6⟩ := h
  have hk : w d ∈ rs.map (·.1) := by rw [h3]; exact (mem_keys _ _).mpr ht
  obtain ⟨r, hr, e, hl⟩ := lkp_has hk
  obtain ⟨hb, hs⟩ := h6 r hr
  have hrn : r.2 ≠ n := fun e => h5 (e ▸ List.mem_map.mpr ⟨r, hr, rfl⟩)
  refine ⟨_, r.2, _, h1, hl, hs, by rw [List.length_map]; exact List.length_filter_le _ _, hb, rs, ?_, h2, ?_, h4, h5, ?_⟩
  · rw [List.getElem?_set_ne hrn]; exact h1
  · rw [h3, List.map_append, List.map_singleton, keys_snoc, if_pos ht, List.append_nil]
  · intro q hq
    refine ⟨(h6 q hq).1, ?_⟩
    by_cases hqr : q = r
    · subst hqr
      rw [List.getElem?_set_self (List.getElem?_eq_some_iff.mp hs).1, filt_snoc, if_pos e.symm, List.map_append]
      rfl
    · have h22 : r.2 ≠ q.2 := fun z => hqr (nodup_inj h4 hq hr z.symm)
      have h11 : w d ≠ q.1 := fun z => hqr (nodup_inj (by rw [h3]; exact keys_nodup _) hq hr (z.symm.trans e.symm))
      rw [List.getElem?_set_ne h22, (h6 q hq).2, filt_snoc, if_neg h11, List.append_nil]
theorem tab_ext {b c : Nat} {S S' : Store} {n : Nat} {w : Date → Txt} {ds : List Date} (e : Ext S S') (h : tabAt b c S n w ds) : tabAt b c S' n w ds := by
  obtain ⟨rs, h1, h2, h3, h4, h5, h6⟩ := h
  exact ⟨rs, e _ _ h1, h2, h3, h4, h5, fun r hr => ⟨(h6 r hr).1, e _ _ (h6 r hr).2⟩⟩
theorem tab_weak {b c c' : Nat} {S : Store} {n : Nat} {w : Date → Txt} {ds : List Date} (e : c' ≤ c) (h : tabAt b c S n w ds) : tabAt b c' S n w ds := by
  obtain ⟨rs, h1, h2, h3, h4, h5, h6⟩ := h
  exact ⟨rs, h1, h2, h3, h4, h5, fun r hr => ⟨Nat.le_trans e (h6 r hr).1, (h6 r hr).2⟩⟩
theorem putD_new {kvs : List (Txt × PV)} {k : Txt} {v : PV} (h : ∀ kv ∈ kvs, kv.1 ≠ k) : putD kvs k v = kvs ++ [(k, v)] := by
  unfold putD
  rw [if_neg]
  simp only [List.any_eq_true, not_exists, not_and, decide_eq_true_eq]
  exact h
theorem tab_new {b c : Nat} {S : Store} {n : Nat} {w : Date → Txt} {ds : List Date} {d : Date} (h : tabAt b c S n w ds) (ht : w d ∉ ds.map w) (hc : c ≤ S.length) :
    ∃ kvs, S[n]? = some (.dic kvs) ∧ lkp kvs (w d) = none ∧ kvs.length ≤ ds.length ∧ b ≤ n ∧ n < S.length ∧
      lkp (putD kvs (w d) (.ref S.length)) (w d) = some (.ref S.length) ∧
      tabAt b c (((S ++ [PO.lst []]).set n (PO.dic (putD kvs (w d) (.ref S.length)))).set S.length (PO.lst ([] ++ [dV d]))) n w (ds ++ [d]) := by
  obtain ⟨rs, h1, h2, h3, h4, h5, h6⟩ := h
  have hk : w d ∉ rs.map (·.1) := by rw [h3]; exact fun z => ht ((mem_keys _ _).mp z)
  have hn : n < S.length := (List.getElem?_eq_some_iff.mp h1).1
  have hp : putD (rs.map fun r => (r.1, PV.ref r.2)) (w d) (.ref S.length) = (rs ++ [(w d, S.length)]).map fun r => (r.1, PV.ref r.2) := by
    rw [putD_new, List.map_append]
    · rfl
    · rintro kv hkv rfl'
      obtain ⟨r, hr, rfl⟩ := List.mem_map.mp hkv
      exact hk (List.mem_map.mpr ⟨r, hr, rfl'⟩)
  have hlt : ∀ r ∈ rs, r.2 < S.length := fun r hr => (List.getElem?_eq_some_iff.mp (h6 r hr).2).1
  refine ⟨_, h1, lkp_not hk, ?_, h2, hn, ?_, rs ++ [(w d, S.length)], ?_, h2, ?_, ?_, ?_, ?_⟩
  · rw [List.length_map, ← List.length_map (f := (·.1)), h3]
    exact Nat.le_trans (keys_len _) (by rw [List.length_map]; exact Nat.le_refl _)
  · rw [hp, lkp_refs, List.find?_append]
    have : rs.find? (fun r => decide (r.1 = w d)) = none := by
      rw [List.find?_eq_none]
      intro r hr z
      exact hk (List.mem_map.mpr ⟨r, hr, by simpa using z⟩)
    rw [this]
    simp
  · rw [List.getElem?_set_ne (by omega), List.getElem?_set_self (by rw [List.length_append]; omega), hp]
  · rw [List.map_append, h3, List.map_append]
    show _ = keysOf (ds.map w ++ [w d])
    rw [keys_snoc, if_neg ht]
    rfl
  · rw [List.map_append, List.nodup_append]
    refine ⟨h4, by simp, ?_⟩
    intro x hx y hy e
    obtain ⟨r, hr, rfl⟩ := List.mem_map.mp hx
    have : y = S.length := by simpa using hy
    have := hlt r hr
    omega
  · rw [List.map_append, List.mem_append]
    rintro (z | z)
    · exact h5 z
    · have : n = S.length := by simpa using z
      omega
  · intro q hq
    rcases List.mem_append.mp hq with hq | hq
    · refine ⟨(h6 q hq).1, ?_⟩
      have := hlt q hq
      have hqn : n ≠ q.2 := fun e => h5 (e ▸ List.mem_map.mpr ⟨q, hq, rfl⟩)
      have h11 : w d ≠ q.1 := fun z => hk (z ▸ List.mem_map.mpr ⟨q, hq, rfl⟩)
      rw [List.getElem?_set_ne (by omega), List.getElem?_set_ne hqn, List.getElem?_append_left this, (h6 q hq).2, filt_snoc, if_neg h11, List.append_nil]
    · have hq : q = (w d, S.length) := by simpa using hq
      subst hq
      refine ⟨by omega, ?_⟩
      rw [List.getElem?_set_self (by rw [List.length_set, List.length_append]; simp), filt_snoc, if_pos rfl]
      have : ds.filter (fun x => decide (w x = w d)) = [] := by
        rw [List.filter_eq_nil_iff]
        intro x hx z
        exact ht (List.mem_map.mpr ⟨x, hx, by simpa using z⟩)
      rw [this]
      rfl
theorem zipW_strs : ∀ a b : List Txt, zipW (a.map PV.str) (b.map PV.str) = (a.zip b).map fun x => .tup [.str x.1, .str x.2]
  | [], _ => rfl
  | _ :: _, [] => rfl
  | x :: r, y :: s => by rw [List.map_cons, List.map_cons, zipW, zipW_strs r s]; rfl
theorem cut_one {α : Type} (l : List α) : cut l (some 1) none = l.drop 1 := by
  unfold cut
  rw [show sIx l.length 0 (some 1) = min 1 l.length from rfl, show sIx l.length l.length none = l.length from rfl]
  cases l with
  | nil => rfl
  | cons a r =>
    rw [show min 1 (a :: r).length = 1 by rw [List.length_cons]; omega]
    rw [List.take_of_length_le (by rw [List.length_drop]; omega)]
def txtB2 (g : Txt → Txt → Bool) : PV → PV
  | .tup [.str a, .str b] => .bl (g a b)
  | _ => .non
theorem datesIn_len {a b : Int} (h : isSpan a b) : (datesIn a b).length ≤ 4464 := by
  have := len_flat datesY 372 (irange a (b + 1)) fun x _ => datesY_len x
  rw [irange_len] at this
  obtain ⟨h1, h2, h3, h4, h5, h6⟩ := h
  unfold datesIn
  omega
theorem datesIn_date {a b : Int} (h : isSpan a b) {d : Date} (hd : d ∈ datesIn a b) : isDate d ∧ a ≤ d.1 ∧ d.1 ≤ b := by
  obtain ⟨h1, h2, h3, h4, h5, h6⟩ := h
  obtain ⟨y, hy, h7⟩ := List.mem_flatMap.mp hd
  obtain ⟨m, hm, h8⟩ := List.mem_flatMap.mp h7
  obtain ⟨k, hk, rfl⟩ := List.mem_map.mp h8
  have hy := irange_mem.mp hy
  have hm := irange_mem.mp hm
  have hk := irange_mem.mp hk
  exact ⟨⟨by show 1600 ≤ y; omega, by show y ≤ 2399; omega, hm.1, by show m ≤ 12; omega, hk.1, by show k ≤ mlen y m; omega⟩, hy.1, by show y ≤ b; omega⟩
section
variable {Γ : Sig} (C : Pat Γ)
include C
theorem p_is_pattern : ∀ vs S Q R, ct_is_pattern vs S Q R → wpB Γ 4 b_is_pattern vs S Q R := by
  rintro vs S Q R ⟨ps, rfl, hp, q⟩
  unfold b_is_pattern strV
  have hl := hp.1
  walk_at "wp"
  rw [C.gl]
  unfold patB at q
  simp only [List.length_map]
  by_cases h1 : (1 : Int) ≤ (ps.length : Int)
  · rw [if_pos (decide_eq_true h1)]
    refine ⟨_, rfl, ?_⟩
    by_cases h2 : (ps.length : Int) ≤ 7
    · rw [decide_eq_true (show 1 ≤ ps.length ∧ ps.length ≤ 7 by omega), Bool.true_and] at q
      walk_at "wp"
      rw [decide_eq_true h2]
      walk_at "wp"
      refine comp_map (strF fun k => .bl (partB k)) (fun _ _ => trivial) (by simp only [List.length_map]; unfold big; omega) (fun x S' hx e => ⟨_, rfl, fun Q1 q1 => ?_⟩) fun S' e h => ?_
      · obtain ⟨k, hk, rfl⟩ := List.mem_map.mp hx
        walk_at "wp"
        rw [C.gl]
        refine ⟨_, rfl, ?_⟩
        unfold strV
        walk_at "wp"
        refine ⟨rfl, flat_strs _, ?_⟩
        rw [inP_str]
        have hq : ∀ S'', Ext S' S'' → Q1 (.bl (isFld k || litB k)) S'' := q1
        cases hf : isFld k with
        | true =>
          rw [if_pos (show decide (k ∈ fieldT) = true from hf)]
          rw [hf] at hq
          exact hq _ Ext.refl
        | false =>
          rw [if_neg (show ¬ decide (k ∈ fieldT) = true by rw [show decide (k ∈ fieldT) = false from hf]; decide), C.is_literal]
          rw [hf] at hq
          exact ⟨k, rfl, hp.2 k hk, fun S2 e2 => hq S2 e2⟩
      · refine ⟨ps.map partB, ?_, ?_⟩
        · rw [getL_lst h, List.map_map, List.map_map]
          rfl
        · walk_at "wp"
          rw [List.all_map]
          cases ha : ps.all partB with
          | false =>
            rw [ha] at q
            rw [if_pos (by rw [show (ps.all (id ∘ partB)) = false from ha]; rfl)]
            exact q S' e
          | true =>
            rw [ha] at q
            rw [if_neg (by rw [show (ps.all (id ∘ partB)) = true from ha]; decide)]
            rw [cut_one, ← List.map_drop, zipW_strs]
            refine comp_map (txtB2 fun a b => !isFld a && !isFld b) (fun _ _ => trivial) (by simp only [List.length_map, List.length_zip]; unfold big; omega) (fun x S2 hx e2 => ?_) fun S2 e2 h => ?_
            · obtain ⟨k, hk, rfl⟩ := List.mem_map.mp hx
              refine ⟨_, rfl, fun Q1 q1 => ?_⟩
              walk_at "wp"
              rw [C.gl]
              refine ⟨_, rfl, ?_⟩
              unfold strV
              walk_at "wp"
              refine ⟨rfl, flat_strs _, ?_⟩
              rw [inP_str]
              have hq : Q1 (.bl (!isFld k.1 && !isFld k.2)) S2 := q1 _ Ext.refl
              by_cases hf : k.1 ∈ fieldT
              · rw [if_neg (by simp [hf])]
                rw [show isFld k.1 = true from decide_eq_true hf] at hq
                exact hq
              · rw [if_pos (by simp [hf])]
                rw [show isFld k.1 = false from decide_eq_false hf] at hq
                refine ⟨_, rfl, ?_⟩
                unfold strV
                walk_at "wp"
                refine ⟨rfl, flat_strs _, ?_⟩
                rw [inP_str]
                exact hq
            · refine ⟨(ps.zip (ps.drop 1)).map fun x => !isFld x.1 && !isFld x.2, ?_, ?_⟩
              · rw [getL_lst h, List.map_map, List.map_map]
                rfl
              · rw [List.any_map]
                exact q S2 (e.trans e2)
    · walk_at "wp"
      rw [decide_eq_false h2]
      have := q _ Ext.refl
      rwa [decide_eq_false (by omega), Bool.false_and] at this
  · rw [if_neg (by simpa using h1)]
    have := q _ Ext.refl
    rwa [decide_eq_false (by omega), Bool.false_and] at this
theorem p_table : ∀ vs S Q R, ct_table vs S Q R → wpB Γ 5 b_table vs S Q R := by
  rintro vs S Q R ⟨ps, a, b, rfl, hs, hp, q⟩
  unfold b_table
  walk_at "wp"
  rw [C.dates_in]
  refine ⟨a, b, hs, rfl, fun S1 n e1 hn h1 => ?_⟩
  walk_at "wp"
  have hlen := datesIn_len hs
  refine ⟨_, getL_lst h1, ?_⟩
  have hE : Ext S S1 := Ext.new.trans e1
  have hn1 := (List.getElem?_eq_some_iff.mp h1).1
  have hl1 := e1.len
  rw [List.length_append] at hn hl1
  simp only [List.length_cons, List.length_nil] at hn hl1
  refine ⟨fun i ρ' S' => Ext S S' ∧ S1.length ≤ S'.length ∧ S'[n]? = some (.lst ((datesIn a b).map dV)) ∧ tabAt S.length S1.length S' S.length (writtenT ps) ((datesIn a b).take i) ∧
      ∃ x y, ρ' = [some (strV ps), some (.tup [.int a, .int b]), some (.ref S.length), x, y],
    ⟨hE, Nat.le_refl _, h1, ⟨[], e1 _ _ new_at, Nat.le_refl _, rfl, List.nodup_nil, by simp, by simp⟩, _, _, rfl⟩, fun i ρ' S' w => getL_lst w.2.2.1, ?_, ?_⟩
  · rintro i x ρ' S2 hx ⟨e2, k2, g2, t2, x3, x4, rfl⟩
    rw [List.getElem?_map] at hx
    cases hd : (datesIn a b)[i]? with
    | none => rw [hd] at hx; cases hx
    | some d =>
      rw [hd] at hx
      obtain rfl := Option.some.inj hx
      have hi := (List.getElem?_eq_some_iff.mp hd).1
      refine ⟨_, rfl, ?_⟩
      walk_at "wp"
      rw [C.written]
      refine ⟨ps, d, rfl, (datesIn_date hs (List.mem_of_getElem? hd)).1, hp, fun S3 e3 => ?_⟩
      have t3 := tab_ext e3 t2
      have ht : (datesIn a b).take (i + 1) = (datesIn a b).take i ++ [d] := by rw [List.take_add_one, hd]; rfl
      have k3 := e3.len
      walk_at "wp"
      rw [ht]
      by_cases hk : writtenT ps d ∈ ((datesIn a b).take i).map (writtenT ps)
      · obtain ⟨kvs, r, xs, g1, g3, g4, g5, g6, g7⟩ := tab_old t3 hk
        refine Or.inr (Or.inl ⟨_, kvs, rfl, getD_dic g1, ?_⟩)
        rw [g3, if_neg (by simp)]
        refine ⟨_, _, getD_dic g1, g3, ⟨_, _, rfl, getL_lst g4⟩, ?_⟩
        walk_at "wp"
        rw [List.length_take] at g5
        refine ⟨xs, g4, by unfold big; omega, (e2.trans e3).set (by omega), by rw [List.length_set]; omega, ?_, g7, _, _, rfl⟩
        rw [List.getElem?_set_ne (by omega)]
        exact e3 _ _ g2
      · obtain ⟨kvs, g1, g3, g4, g5, g6, g7, g8⟩ := tab_new t3 hk (by omega)
        refine Or.inr (Or.inl ⟨_, kvs, rfl, getD_dic g1, ?_⟩)
        rw [g3, if_pos (by simp)]
        rw [List.length_take] at g4
        have l4 : S.length < (S3 ++ [PO.lst []]).length := by rw [List.length_append]; omega
        have hn3 : S3.length < ((S3 ++ [PO.lst []]).set S.length (.dic (putD kvs (writtenT ps d) (.ref S3.length)))).length := by rw [List.length_set, List.length_append]; simp
        have hat : ((S3 ++ [PO.lst []]).set S.length (.dic (putD kvs (writtenT ps d) (.ref S3.length))))[S3.length]? = some (.lst []) := by
          rw [List.getElem?_set_ne (by omega)]; exact new_at
        refine ⟨kvs, Ext.new _ _ g1, by unfold big; omega, _, _, getD_dic (List.getElem?_set_self l4), g7, ⟨_, _, rfl, getL_lst hat⟩, ?_⟩
        walk_at "wp"
        refine ⟨[], hat, by decide, (((e2.trans e3).trans Ext.new).set (Nat.le_refl _)).set (by omega), ?_, ?_, g8, _, _, rfl⟩
        · rw [List.length_set, List.length_set, List.length_append]; omega
        · rw [List.getElem?_set_ne (by omega), List.getElem?_set_ne (by omega)]
          exact Ext.new _ _ (e3 _ _ g2)
  · rintro ρ' S2 ⟨e2, k2, g2, t2, x3, x4, rfl⟩
    rw [List.length_map, List.take_length] at t2
    exact ⟨_, rfl, q _ _ e2 (tab_weak (by omega) t2)⟩
theorem p_readings : ∀ vs S Q R, ct_readings vs S Q R → wpB Γ 3 b_readings vs S Q R := by
  rintro vs S Q R ⟨ps, a, b, t, rfl, hs, hp, q⟩
  unfold b_readings
  walk_at "wp"
  rw [C.need_pattern, C.need_span, C.need_text, C.table]
  refine ⟨ps, rfl, hp, fun S1 e1 => ?_⟩
  walk_at "wp"
  refine ⟨a, b, hs, rfl, fun S2 e2 => ?_⟩
  walk_at "wp"
  refine ⟨t, rfl, ?_⟩
  walk_at "wp"
  refine ⟨ps, a, b, rfl, hs, hp.1, fun S3 n e3 ht => ?_⟩
  obtain ⟨rs, h1, h2, h3, h4, h5, h6⟩ := ht
  walk_at "wp"
  have hE := (e1.trans e2).trans e3
  refine ⟨⟨_, _, rfl, getD_dic h1⟩, _, getD_dic (Ext.new _ _ h1), ?_⟩
  by_cases hk : t ∈ rs.map (·.1)
  · obtain ⟨r, hr, rfl, hl⟩ := lkp_has hk
    rw [hl]
    have l2 := (e1.trans e2).len
    have := (h6 r hr).1
    exact q _ _ (hE.trans Ext.new) (by omega) (Ext.new _ _ (h6 r hr).2)
  · rw [lkp_not hk]
    refine q _ _ (hE.trans Ext.new) hE.len ?_
    rw [h3, mem_keys] at hk
    have : (datesIn a b).filter (fun d => decide (writtenT ps d = t)) = [] := by
      rw [List.filter_eq_nil_iff]
      intro x hx z
      exact hk (List.mem_map.mpr ⟨x, hx, by simpa using z⟩)
    rw [this]
    exact new_at
end
end PyI
set_option autoImplicit false
set_option linter.all false
set_option Elab.async false
set_option maxRecDepth 100000
set_option maxHeartbeats 4000000
namespace PyI
local macro_rules | `(tactic| walk_at "wp") => `(tactic| simp only [e_var, e_glb, e_int, e_str, e_bl, e_non, e_bin, e_cmp, e_chain, e_neg, e_and, e_or, e_not, e_ite, e_tup, e_lst, e_dic0, e_sub, e_slice, wo_nil, wo_int, wo_var, wo_bin, wo_neg, wo_blt, wo_call, wo_sub, e_lrg, e_lng, e_rev, e_call, e_blt, e_meth, e_comp, e_fld, e_newc, e_mcl, e_lenc, e_orv, e_selc, a_nil, a_cons,
  s_pass, s_seq, s_nm, s_tp, s_par, s_aug, s_setsub, s_augsub, s_ex, s_ret, s_retn, s_ite, s_whl, s_for, s_brk, s_cnt, s_rse, s_tri, s_setfld,
  b_add, b_adds, b_addr, b_addt, b_sub, b_mul, b_mulr, b_muls, b_mult, b_div, b_mod, b_pow, c_eq, c_eqs, c_eqr, c_eqt, c_eqn, c_ne, c_nes, c_ner, c_net, c_nen, c_lt, c_le, c_gt, c_ge, c_ltt, c_let, c_gtt, c_get, c_lts, c_les, c_gts, c_ges, c_isbb, c_isnn, c_isbn, c_isin, c_issn, c_istn, c_isrn, c_nsbb, c_nsnn, c_nsbn, c_nsin, c_nssn, c_nstn, c_nsrn,
  c_int, c_ins, c_inr, c_nit, c_nis, c_nir, n_int, i_tup, i_str, i_ref, i_dic, k_str, k_tup, k_ref, v_ref, v_tup, l_minD, l_maxD, l_min, l_max, z_vals, z_keys, z_enmt, z_zip3, l_lens, l_lent, l_lenr, l_str, l_int, l_dictP, l_isSeq_t, l_isSeq_r, l_isTup_r, l_isTup_i, l_tuplet, l_tupler, l_listt, l_listr, l_sum, l_all, l_any, l_isInt_i, l_isBool_i, l_isStr_s, l_isTup_t,
  m_starts, m_ins, m_split, m_part, m_popAt, y_popAt, y_ins, y_starts, y_split, y_part, m_app, m_ext, m_pop, m_join, m_alpha, m_sidx, m_get, m_setd, y_app, y_ext, y_pop, y_get, y_setd, y_str, y_alpha, y_sidx, t_bl, o_int, z_tup, z_ref, z_str, z_rng1, z_rng2, z_rng3, z_enm, z_zipt, z_zipr, w_ri, w_rs,
  at_0, at_1, at_2, at_3, gv_0, gv_s, sa_0, sa_s, st_nm, st_tp, wi_0, wi_s, st_0, st_s, st_n, wpB, List.set_cons_zero, List.set_cons_succ, Option.some.injEq, exists_eq_left', true_and, Bool.not_true, Bool.not_false, if_true, if_false, Bool.false_eq_true, exists_const, PV.ref.injEq, PV.str.injEq, PV.int.injEq, List.length_cons, List.length_nil])
/-! ### the laws' own helpers -/
/-- all but the town stays -/
def Onl (tw : Nat) (S S' : Store) : Prop := S.length ≤ S'.length ∧ ∀ (n : Nat) (o : PO), n ≠ tw → S[n]? = some o → S'[n]? = some o
theorem Onl.refl {tw : Nat} {S : Store} : Onl tw S S := ⟨Nat.le_refl _, fun _ _ _ h => h⟩
theorem Onl.trans {tw : Nat} {A B C : Store} (a : Onl tw A B) (b : Onl tw B C) : Onl tw A C := ⟨Nat.le_trans a.1 b.1, fun n o hn h => b.2 n o hn (a.2 n o hn h)⟩
theorem Ext.onl {tw : Nat} {S S' : Store} (e : Ext S S') : Onl tw S S' := ⟨e.len, fun n o _ h => e n o h⟩
theorem Onl.set {tw : Nat} {S S' : Store} {o : PO} (e : Onl tw S S') : Onl tw S (S'.set tw o) := ⟨by rw [List.length_set]; exact e.1, fun n x hn h => by
  rw [List.getElem?_set_ne (fun z => hn z.symm)]
  exact e.2 n x hn h⟩
theorem Onl.getL {tw : Nat} {S S' : Store} (e : Onl tw S S') {n : Nat} {xs : List PV} (hn : n ≠ tw) (h : getL S n = some xs) : getL S' n = some xs := by
  unfold PyI.getL at h ⊢
  split at h
  · rename_i ys q; rw [e.2 n _ hn q]; exact h
  · rename_i ys q; rw [e.2 n _ hn q]; exact h
  · cases h
/-- the script at sc, the town at tw -/
def TW (S : Store) (sc tw : Nat) : Prop := sc ≠ tw ∧ (∃ ns : List Int, getL S sc = some (ns.map PV.int) ∧ ns.length ≤ 1000) ∧ ∃ p q : Int, 0 ≤ p ∧ 0 ≤ q ∧ S[tw]? = some (.lst [.int p, .int q])
theorem TW.ext {S S' : Store} {sc tw : Nat} (h : TW S sc tw) (e : Ext S S') : TW S' sc tw := by
  obtain ⟨h1, ⟨ns, h2, h3⟩, p, q, h4, h5, h6⟩ := h
  exact ⟨h1, ⟨ns, e.getL h2, h3⟩, p, q, h4, h5, e _ _ h6⟩
theorem TW.lt {S : Store} {sc tw : Nat} (h : TW S sc tw) : tw < S.length := by
  obtain ⟨_, _, p, q, _, _, h6⟩ := h
  exact (List.getElem?_eq_some_iff.mp h6).1
theorem TW.put {S : Store} {sc tw : Nat} (h : TW S sc tw) {p q : Int} (hp : 0 ≤ p) (hq : 0 ≤ q) : TW (S.set tw (.lst [.int p, .int q])) sc tw := by
  have hl := h.lt
  obtain ⟨h1, ⟨ns, h2, h3⟩, _⟩ := h
  refine ⟨h1, ⟨ns, ?_, h3⟩, p, q, hp, hq, List.getElem?_set_self hl⟩
  have : Onl tw S (S.set tw (.lst [.int p, .int q])) := Onl.refl.set
  exact this.getL h1 h2
def ct_draw : Ct := fun vs S Q _ => ∃ (sc tw : Nat) (many : Int), vs = [.ref sc, .ref tw, .int many] ∧ TW S sc tw ∧ 0 < many ∧ many < 1073741824 ∧
  ∀ S' r, Onl tw S S' → TW S' sc tw → 0 ≤ r → r < many → Q (.int r) S'
abbrev okL (S : Store) (tw : Nat) (l : PV) (xs : List PV) : Prop := match l with
  | .ref n => n ≠ tw ∧ getL S n = some xs
  | .tup ys => ys = xs ∧ True
  | _ => False
def ct_pick : Ct := fun vs S Q _ => ∃ (sc tw : Nat) (l : PV) (xs : List PV), vs = [.ref sc, .ref tw, l] ∧ TW S sc tw ∧ okL S tw l xs ∧ 0 < xs.length ∧ xs.length < 1073741824 ∧
  ∀ S' x, Onl tw S S' → TW S' sc tw → x ∈ xs → Q x S'
def sepT : List Txt := [[45], [47], [46], [44, 32], [32], [58]]
def okPart (p : Txt) : Prop := p ∈ fieldT ∨ p ∈ sepT
def ct_pattern : Ct := fun vs S Q _ => ∃ (sc tw : Nat) (most : Int), vs = [.ref sc, .ref tw, .int most] ∧ TW S sc tw ∧ 1 ≤ most ∧ most ≤ 7 ∧
  ∀ S' ps, Onl tw S S' → TW S' sc tw → goodPat ps → (ps.length : Int) ≤ most → (∀ p ∈ ps, okPart p) → Q (strV ps) S'
def ct_span : Ct := fun vs S Q _ => ∃ (sc tw : Nat), vs = [.ref sc, .ref tw] ∧ TW S sc tw ∧
  ∀ S' a b, Onl tw S S' → TW S' sc tw → isSpan a b → b ≤ a + 1 → Q (.tup [.int a, .int b]) S'
def ct_days : Ct := fun vs S Q _ => ∃ y : Int, vs = [.int y] ∧ ∀ S' n, Ext S S' → S.length ≤ n → S'[n]? = some (.lst ((irange 1 13).map fun m => .int (mlen y m))) → Q (.ref n) S'
def rowV (d : Date) : PV := .tup [dV d, .int (piy d)]
def ct_rows : Ct := fun vs S Q _ => ∃ a b : Int, vs = [.tup [.int a, .int b]] ∧ isSpan a b ∧ ∀ S' n, Ext S S' → S.length ≤ n → S'[n]? = some (.lst ((datesIn a b).map rowV)) → Q (.ref n) S'
def ct_lwd : Ct := fun vs S Q _ => ∃ d : Date, vs = [dV d] ∧ isDate d ∧ ∀ S', Ext S S' → Q (.int (wdNo d)) S'
def ct_lwrite : Ct := fun vs S Q _ => ∃ (ps : List Txt) (d : Date), vs = [strV ps, dV d, .int (piy d)] ∧ isDate d ∧ smallT ps ∧ (∀ p ∈ ps, partB p = true) ∧ ∀ S', Ext S S' → Q (.str (writtenT ps d)) S'
structure Hlp (Γ : Sig) : Prop extends Pat Γ where
  draw : Γ.ct 100 = ct_draw
  pick : Γ.ct 101 = ct_pick
  pattern : Γ.ct 102 = ct_pattern
  span : Γ.ct 103 = ct_span
  days : Γ.ct 104 = ct_days
  rows : Γ.ct 105 = ct_rows
  lwd : Γ.ct 106 = ct_lwd
  lwrite : Γ.ct 107 = ct_lwrite
theorem dn_ints {S : Store} {k : Nat} : ∀ ns : List Int, DnL S k (ns.map PV.int) (ns.map Dt.int)
  | [] => .nil
  | n :: r => .cons (.int n) (dn_ints r)
theorem dn_strs {S : Store} {k : Nat} : ∀ ns : List Txt, (∀ t ∈ ns, txtOk t) → DnL S k (ns.map PV.str) (ns.map Dt.str)
  | [], _ => .nil
  | n :: r, h => .cons (.str n (h n (List.mem_cons_self ..))) (dn_strs r fun t ht => h t (List.mem_cons_of_mem _ ht))
theorem dn_nil {S : Store} {k n : Nat} (h : getL S n = some []) : Dn S (k + 1) (.ref n) (.lst []) := .lst h .nil
theorem eqv_nil (l : List Dt) : (Dt.lst l).eqv (.lst []) = l.isEmpty := by cases l <;> rfl
section
variable {Γ : Sig} (C : Hlp Γ)
include C
theorem p_draw : ∀ vs S Q R, ct_draw vs S Q R → wpB Γ 6 b_law_draw vs S Q R := by
  rintro vs S Q R ⟨sc, tw, many, rfl, hT, hm, hb, q⟩
  have hT0 := hT
  obtain ⟨h1, ⟨ns, h2, h3⟩, p, r, h4, h5, h6⟩ := hT
  have hL := getL_lst h6
  have hl := (List.getElem?_eq_some_iff.mp h6).1
  unfold b_law_draw
  walk_at "wp"
  refine ⟨_, _, hL, rfl, ?_⟩
  walk_at "wp"
  by_cases hr : 0 < r
  · rw [if_pos (decide_eq_true hr)]
    refine ⟨_, _, hL, rfl, ?_⟩
    walk_at "wp"
    refine ⟨hm, _, _, hL, rfl, ?_⟩
    walk_at "wp"
    refine ⟨hm, hb, _, 1, h6, rfl, ?_⟩
    exact q _ _ Onl.refl.set (hT0.put h4 (Int.ediv_nonneg h5 (by omega))) (Int.emod_nonneg _ (by omega)) (Int.emod_lt_of_pos _ hm)
  · rw [if_neg (by simpa using hr)]
    refine ⟨_, _, hL, rfl, tw, 0, _, p, rfl, rfl, h6, rfl, by decide, _, [.int p, .int r], rfl, h6, by show 0 < 2; decide, ?_⟩
    have hT1 : TW (S.set tw (.lst [.int (p + 1), .int r])) sc tw := hT0.put (by omega) h5
    have hO : Onl tw S (S.set tw (.lst [.int (p + 1), .int r])) := Onl.refl.set
    have h2' := hO.getL h1 h2
    rw [show ([PV.int p, PV.int r] : List PV).set 0 (.int (p + 1)) = [.int (p + 1), .int r] from rfl]
    have e2 := Ext.new (o := .lst []) |>.getL h2'
    refine ⟨.lst (ns.map Dt.int), .lst [], .lst e2 (dn_ints ns), dn_nil (getL_lst new_at), ?_⟩
    walk_at "wp"
    rw [eqv_nil]
    have hO2 := hO.trans (Ext.onl (Ext.new (o := .lst [])))
    have hT2 := hT1.ext (Ext.new (o := .lst []))
    cases ns with
    | nil =>
      rw [if_pos (show (List.map Dt.int []).isEmpty = true from rfl)]
      exact ⟨hm, q _ _ hO2 hT2 (Int.emod_nonneg _ (by omega)) (Int.emod_lt_of_pos _ hm)⟩
    | cons n0 nr =>
      have hlen : 0 < (n0 :: nr).length := Nat.succ_pos _
      generalize hns : n0 :: nr = ns at *
      rw [if_neg (by rw [← hns]; exact Bool.false_ne_true)]
      refine Or.inl ⟨_, e2, ?_⟩
      have hx : 0 < ((ns.map PV.int).length : Int) := by rw [List.length_map]; omega
      have hmod := Int.emod_lt_of_pos p hx
      have hmod0 := Int.emod_nonneg p (show ((ns.map PV.int).length : Int) ≠ 0 by omega)
      have hat : ∃ v, ns[(p % ((ns.map PV.int).length : Int)).toNat]? = some v := ⟨_, List.getElem?_eq_getElem (by rw [List.length_map] at *; omega)⟩
      obtain ⟨v, hv⟩ := hat
      have hat2 : atP (ns.map PV.int) (p % ((ns.map PV.int).length : Int)) = some (.int v) := at_nat _ _ hmod0 _ (by rw [List.getElem?_map, hv]; rfl)
      have hO3 : Onl tw S ((S.set tw (.lst [.int (p + 1), .int r])) ++ [PO.lst []]) := hO2
      by_cases hp : p < ((ns.map PV.int).length : Int)
      · rw [if_pos (decide_eq_true hp)]
        have hpl : ∃ v, ns[p.toNat]? = some v := ⟨_, List.getElem?_eq_getElem (by rw [List.length_map] at *; omega)⟩
        obtain ⟨w, hw⟩ := hpl
        have hat3 : atP (ns.map PV.int) p = some (.int w) := at_nat _ _ h4 _ (by rw [List.getElem?_map, hw]; rfl)
        refine ⟨_, _, e2, hat3, ?_⟩
        walk_at "wp"
        refine ⟨by decide, by decide, by decide, ?_⟩
        by_cases hw : (10 : Int) ^ Int.toNat 18 ≤ w
        · rw [if_pos (decide_eq_true hw)]
          refine ⟨_, _, e2, hat3, ?_⟩
          walk_at "wp"
          refine ⟨hm, hb, by decide, by decide, by decide, by decide, by decide, by decide, Or.inr (Or.inr ⟨by decide +kernel, by decide +kernel⟩), by decide +kernel, _, 1, Ext.new _ _ (List.getElem?_set_self hl), rfl, ?_⟩
          rw [show ([PV.int (p + 1), PV.int r] : List PV).set 1 (.int (w / many % (10 ^ Int.toNat 60 * 10 ^ Int.toNat 60))) = [.int (p + 1), .int (w / many % (10 ^ Int.toNat 60 * 10 ^ Int.toNat 60))] from rfl]
          have hn : 0 ≤ w / many % (10 ^ Int.toNat 60 * 10 ^ Int.toNat 60) := Int.emod_nonneg _ (by decide +kernel)
          have hT3 := hT2.put (show 0 ≤ p + 1 by omega) hn
          refine ⟨_, _, (Onl.refl (tw := tw)).set.getL h1 e2, hat3, ?_⟩
          walk_at "wp"
          exact ⟨hm, q _ _ hO2.set hT3 (Int.emod_nonneg _ (by omega)) (Int.emod_lt_of_pos _ hm)⟩
        · rw [if_neg (by simpa using hw)]
          refine Or.inl ⟨_, e2, hx, _, _, e2, hat2, ?_⟩
          walk_at "wp"
          exact ⟨Or.inr (Or.inl ⟨by decide, by decide⟩), Or.inl ⟨by decide, by decide⟩, by decide, by decide, by decide, by omega, by decide, by decide, hm, q _ _ hO2 hT2 (Int.emod_nonneg _ (by omega)) (Int.emod_lt_of_pos _ hm)⟩
      · rw [if_neg (by simpa using hp)]
        refine Or.inl ⟨_, e2, hx, _, _, e2, hat2, ?_⟩
        walk_at "wp"
        exact ⟨Or.inr (Or.inl ⟨by decide, by decide⟩), Or.inl ⟨by decide, by decide⟩, by decide, by decide, by decide, by omega, by decide, by decide, hm, q _ _ hO2 hT2 (Int.emod_nonneg _ (by omega)) (Int.emod_lt_of_pos _ hm)⟩
theorem p_pick : ∀ vs S Q R, ct_pick vs S Q R → wpB Γ 3 b_law_pick vs S Q R := by
  rintro vs S Q R ⟨sc, tw, l, xs, rfl, hT, hl, h0, h1, q⟩
  unfold b_law_pick
  cases l <;> first | exact (show False from hl).elim | skip
  · rename_i ys
    obtain ⟨rfl, _⟩ := hl
    walk_at "wp"
    rw [C.draw]
    refine ⟨sc, tw, _, rfl, hT, by omega, by omega, fun S' r e t r0 r1 => ?_⟩
    walk_at "wp"
    have hr : r.toNat < ys.length := by omega
    exact ⟨_, at_nat _ _ r0 _ (List.getElem?_eq_getElem hr), q S' _ e t (List.getElem_mem hr)⟩
  · rename_i l
    obtain ⟨hl, hx⟩ := hl
    walk_at "wp"
    refine Or.inl ⟨_, hx, ?_⟩
    rw [C.draw]
    refine ⟨sc, tw, _, rfl, hT, by omega, by omega, fun S' r e t r0 r1 => ?_⟩
    walk_at "wp"
    have hr : r.toNat < xs.length := by omega
    refine ⟨_, _, e.getL hl hx, at_nat _ _ r0 _ (List.getElem?_eq_getElem hr), ?_⟩
    exact q S' _ e t (List.getElem_mem hr)
theorem p_span : ∀ vs S Q R, ct_span vs S Q R → wpB Γ 3 b_law_span vs S Q R := by
  rintro vs S Q R ⟨sc, tw, rfl, hT, q⟩
  unfold b_law_span
  walk_at "wp"
  rw [C.pick]
  have htl := hT.lt
  refine ⟨sc, tw, _, _, rfl, hT.ext Ext.new, ⟨by omega, getL_lst new_at⟩, by show 0 < 8; decide, by show 8 < _; decide, fun S1 x e1 t1 hx => ?_⟩
  rw [C.draw]
  have hx : ∃ i : Int, x = .int i ∧ 1600 ≤ i ∧ i ≤ 2398 := by
    simp only [List.mem_cons, List.not_mem_nil, or_false] at hx
    rcases hx with rfl | rfl | rfl | rfl | rfl | rfl | rfl | rfl
    all_goals exact ⟨_, rfl, by decide, by decide⟩
  obtain ⟨i, rfl, hi0, hi1⟩ := hx
  refine ⟨sc, tw, _, rfl, t1, by decide, by decide, fun S2 r e2 t2 r0 r1 => ?_⟩
  walk_at "wp"
  have e := (Ext.onl (tw := tw) Ext.new).trans (e1.trans e2)
  by_cases hr : r = 0
  · rw [if_pos (decide_eq_true hr)]
    exact q _ _ _ e t2 (by unfold isSpan; omega) (by omega)
  · rw [if_neg (by simpa using hr)]
    exact q _ _ _ e t2 (by unfold isSpan; omega) (by omega)
theorem p_days : ∀ vs S Q R, ct_days vs S Q R → wpB Γ 2 b_law_days vs S Q R := by
  rintro vs S Q R ⟨y, rfl, q⟩
  unfold b_law_days
  walk_at "wp"
  refine ⟨by decide, ?_⟩
  have fin : ∀ b : Bool, b = isLong y → (if b = true then Q (.ref S.length) (S ++ [PO.lst [.int 31, .int 29, .int 31, .int 30, .int 31, .int 30, .int 31, .int 31, .int 30, .int 31, .int 30, .int 31]]) else
      Q (.ref S.length) (S ++ [PO.lst [.int 31, .int 28, .int 31, .int 30, .int 31, .int 30, .int 31, .int 31, .int 30, .int 31, .int 30, .int 31]])) := by
    rintro b hb
    have := q _ S.length (Ext.new (o := PO.lst ((irange 1 13).map fun m => .int (mlen y m)))) (Nat.le_refl _) new_at
    unfold mlen at this
    rw [← hb] at this
    cases b with
    | true => exact this
    | false => exact this
  unfold isLong at fin
  by_cases h1 : y % 400 = 0
  · rw [if_pos (decide_eq_true h1)]
    simpa [h1] using fin true (by simp [h1])
  · rw [if_neg (by simp [h1])]
    refine ⟨by decide, ?_⟩
    by_cases h2 : y % 4 = 0
    · rw [if_pos (decide_eq_true h2)]
      refine ⟨by decide, ?_⟩
      by_cases h3 : y % 100 = 0
      · simpa [h3] using fin false (by simp [h1, h2, h3])
      · simpa [h3] using fin true (by simp [h1, h2, h3])
    · rw [if_neg (by simp [h2])]
      simpa using fin false (by simp [h1, h2])
end
end PyI
set_option autoImplicit false
set_option linter.all false
set_option Elab.async false
set_option maxRecDepth 100000
set_option maxHeartbeats 4000000
namespace PyI
local macro_rules | `(tactic| walk_at "wp") => `(tactic| simp only [e_var, e_glb, e_int, e_str, e_bl, e_non, e_bin, e_cmp, e_chain, e_neg, e_and, e_or, e_not, e_ite, e_tup, e_lst, e_dic0, e_sub, e_slice, wo_nil, wo_int, wo_var, wo_bin, wo_neg, wo_blt, wo_call, wo_sub, e_lrg, e_lng, e_rev, e_call, e_blt, e_meth, e_comp, e_fld, e_newc, e_mcl, e_lenc, e_orv, e_selc, a_nil, a_cons,
  s_pass, s_seq, s_nm, s_tp, s_par, s_aug, s_setsub, s_augsub, s_ex, s_ret, s_retn, s_ite, s_whl, s_for, s_brk, s_cnt, s_rse, s_tri, s_setfld,
  b_add, b_adds, b_addr, b_addt, b_sub, b_mul, b_mulr, b_muls, b_mult, b_div, b_mod, b_pow, c_eq, c_eqs, c_eqr, c_eqt, c_eqn, c_ne, c_nes, c_ner, c_net, c_nen, c_lt, c_le, c_gt, c_ge, c_ltt, c_let, c_gtt, c_get, c_lts, c_les, c_gts, c_ges, c_isbb, c_isnn, c_isbn, c_isin, c_issn, c_istn, c_isrn, c_nsbb, c_nsnn, c_nsbn, c_nsin, c_nssn, c_nstn, c_nsrn,
  c_int, c_ins, c_inr, c_nit, c_nis, c_nir, n_int, i_tup, i_str, i_ref, i_dic, k_str, k_tup, k_ref, v_ref, v_tup, l_minD, l_maxD, l_min, l_max, z_vals, z_keys, z_enmt, z_zip3, l_lens, l_lent, l_lenr, l_str, l_int, l_dictP, l_isSeq_t, l_isSeq_r, l_isTup_r, l_isTup_i, l_tuplet, l_tupler, l_listt, l_listr, l_sum, l_all, l_any, l_isInt_i, l_isBool_i, l_isStr_s, l_isTup_t,
  m_starts, m_ins, m_split, m_part, m_popAt, y_popAt, y_ins, y_starts, y_split, y_part, m_app, m_ext, m_pop, m_join, m_alpha, m_sidx, m_get, m_setd, y_app, y_ext, y_pop, y_get, y_setd, y_str, y_alpha, y_sidx, t_bl, o_int, z_tup, z_ref, z_str, z_rng1, z_rng2, z_rng3, z_enm, z_zipt, z_zipr, w_ri, w_rs,
  at_0, at_1, at_2, at_3, gv_0, gv_s, sa_0, sa_s, st_nm, st_tp, wi_0, wi_s, st_0, st_s, st_n, wpB, List.set_cons_zero, List.set_cons_succ, Option.some.injEq, exists_eq_left', true_and, Bool.not_true, Bool.not_false, if_true, if_false, Bool.false_eq_true, exists_const, PV.ref.injEq, PV.str.injEq, PV.int.injEq, List.length_cons, List.length_nil])
theorem Onl.put {tw n : Nat} {S S' : Store} {o : PO} (e : Onl tw S S') (h : S.length ≤ n) : Onl tw S (S'.set n o) := ⟨by rw [List.length_set]; exact e.1, fun k x hn hk => by
  have hl := (List.getElem?_eq_some_iff.mp hk).1
  rw [List.getElem?_set_ne (by omega)]
  exact e.2 k x hn hk⟩
theorem TW.set_ne {S : Store} {sc tw n : Nat} {o : PO} (h : TW S sc tw) (h1 : n ≠ sc) (h2 : n ≠ tw) : TW (S.set n o) sc tw := by
  obtain ⟨g1, ⟨ns, g2, g3⟩, p, q, g4, g5, g6⟩ := h
  refine ⟨g1, ⟨ns, ?_, g3⟩, p, q, g4, g5, by rw [List.getElem?_set_ne h2]; exact g6⟩
  unfold PyI.getL
  rw [List.getElem?_set_ne h1]
  exact g2
theorem TW.sc_lt {S : Store} {sc tw : Nat} (h : TW S sc tw) : sc < S.length := by
  obtain ⟨_, ⟨ns, h2, _⟩, _⟩ := h
  unfold PyI.getL at h2
  cases e : S[sc]? with
  | none => rw [e] at h2; cases h2
  | some o => exact (List.getElem?_eq_some_iff.mp e).1
def adjB (ps : List Txt) : Bool := !((ps.zip (ps.drop 1)).any fun x => !isFld x.1 && !isFld x.2)
theorem adjB_cons (x y : Txt) (r : List Txt) : adjB (x :: y :: r) = ((isFld x || isFld y) && adjB (y :: r)) := by
  unfold adjB
  show (!(((x, y) :: (y :: r).zip r).any fun x => !isFld x.1 && !isFld x.2)) = _
  rw [List.any_cons]
  show _ = ((isFld x || isFld y) && !(((y :: r).zip r).any fun x => !isFld x.1 && !isFld x.2))
  cases isFld x <;> cases isFld y <;> simp
theorem adjB_snoc (p : Txt) : ∀ ps : List Txt, adjB ps = true → (isFld p = true ∨ ∀ x, ps.getLast? = some x → isFld x = true) → adjB (ps ++ [p]) = true
  | [], _, _ => rfl
  | [x], _, h => by
    show adjB [x, p] = true
    rw [adjB_cons]
    rcases h with h | h
    · rw [h]; simp [adjB]
    · rw [h x rfl]; simp [adjB]
  | x :: y :: r, h1, h2 => by
    rw [adjB_cons] at h1
    have h1 := Bool.and_eq_true_iff.mp h1
    show adjB (x :: y :: (r ++ [p])) = true
    rw [adjB_cons, h1.1, Bool.true_and]
    exact adjB_snoc p (y :: r) h1.2 (h2.imp id fun h z hz => h z (by rw [← hz]; rfl))
theorem ok_part {p : Txt} (h : okPart p) : partB p = true ∧ p.length ≤ 4 ∧ 1 ≤ p.length ∧ ascii p ∧ txtOk p ∧ alpha p = isFld p := by
  have : ∀ q ∈ fieldT ++ sepT, partB q = true ∧ q.length ≤ 4 ∧ 1 ≤ q.length ∧ (∀ c ∈ q, c < 128) ∧ (∀ c ∈ q, c < 1114112) ∧ alpha q = isFld q := by decide +kernel
  exact this p (List.mem_append.mpr h)
theorem good_of {ps : List Txt} (h1 : 1 ≤ ps.length) (h2 : ps.length ≤ 7) (h3 : ∀ p ∈ ps, okPart p) (h4 : adjB ps = true) : goodPat ps := by
  refine ⟨⟨by omega, fun p hp => Nat.le_trans (ok_part (h3 p hp)).2.1 (by decide)⟩, ?_⟩
  unfold patB
  rw [decide_eq_true ⟨h1, h2⟩, Bool.true_and, List.all_eq_true.mpr fun p hp => (ok_part (h3 p hp)).1]
  exact h4
theorem at_m1 {α : Type} (l : List α) (v : α) (h : l.getLast? = some v) : atP l (-1) = some v := by
  show (if 0 < l.length then l[l.length - (0 + 1)]? else none) = some v
  rw [List.getLast?_eq_getElem?] at h
  have : l.length - 1 < l.length := (List.getElem?_eq_some_iff.mp h).1
  rw [if_pos (by omega)]
  exact h
section
variable {Γ : Sig} (C : Hlp Γ)
include C
theorem p_pattern : ∀ vs S Q R, ct_pattern vs S Q R → wpB Γ 6 b_law_pattern vs S Q R := by
  rintro vs S Q R ⟨sc, tw, most, rfl, hT, hm1, hm7, q⟩
  unfold b_law_pattern
  have hsc := hT.sc_lt
  have htw := hT.lt
  walk_at "wp"
  rw [C.draw]
  refine ⟨sc, tw, most, rfl, hT.ext Ext.new, by omega, by omega, fun S1 r e1 t1 r0 r1 => ?_⟩
  walk_at "wp"
  refine ⟨by omega, by omega, ?_⟩
  have hL : S1[S.length]? = some (.lst []) := e1.2 _ _ (by omega) new_at
  refine ⟨fun i ρ' S' => Onl tw S S' ∧ TW S' sc tw ∧ (∃ ps : List Txt, S'[S.length]? = some (.lst (ps.map PV.str)) ∧ ps.length = i ∧ adjB ps = true ∧ ∀ p ∈ ps, okPart p) ∧ ∃ x y, ρ' = [some (.ref sc), some (.ref tw), some (.int most), some (.ref S.length), x, y],
    ⟨(Ext.onl Ext.new).trans e1, t1, ⟨[], hL, rfl, rfl, by simp⟩, _, _, rfl⟩, fun _ _ _ _ => trivial, ?_, ?_⟩
  · rintro i x ρ' S2 hx ⟨e2, t2, ⟨ps, g1, g2, g3, g4⟩, x4, x5, rfl⟩
    obtain ⟨hi, rfl⟩ := rng_at hx
    refine ⟨_, rfl, ?_⟩
    walk_at "wp"
    have grow : ∀ (S3 : Store) (p : Txt) (y : Option PV), Onl tw S2 S3 → TW S3 sc tw → okPart p → (isFld p = true ∨ ∀ x, ps.getLast? = some x → isFld x = true) →
        (∃ n xs, PV.ref S.length = .ref n ∧ getL S3 n = some xs) ∧ ∃ xs, S3[S.length]? = some (.lst xs) ∧ xs.length < big ∧ Onl tw S (S3.set S.length (.lst (xs ++ [.str p]))) ∧ TW (S3.set S.length (.lst (xs ++ [.str p]))) sc tw ∧
          (∃ ps : List Txt, (S3.set S.length (.lst (xs ++ [.str p])))[S.length]? = some (.lst (ps.map PV.str)) ∧ ps.length = i + 1 ∧ adjB ps = true ∧ ∀ p ∈ ps, okPart p) := by
      intro S3 p y e3 t3 hp hl
      have h3 := e3.2 _ _ (by omega) g1
      refine ⟨⟨_, _, rfl, getL_lst h3⟩, _, h3, by rw [List.length_map]; unfold big; omega, (e2.trans e3).put (Nat.le_refl _), t3.set_ne (by omega) (by omega), ps ++ [p], ?_, by simp [g2], adjB_snoc p ps g3 hl, ?_⟩
      · rw [List.getElem?_set_self (List.getElem?_eq_some_iff.mp h3).1, List.map_append]; rfl
      · intro x hx
        rcases List.mem_append.mp hx with hx | hx
        · exact g4 x hx
        · rw [List.mem_singleton.mp hx]; exact hp
    have fldx : ∀ x : PV, x ∈ [PV.str [68], .str [68, 68], .str [77], .str [77, 77], .str [77, 79, 78], .str [89, 89], .str [89, 89, 89, 89], .str [74], .str [74, 74, 74], .str [87, 68], .str [68], .str [77]] → ∃ p, x = .str p ∧ p ∈ fieldT := by
      intro x hx
      simp only [List.mem_cons, List.not_mem_nil, or_false] at hx
      rcases hx with rfl | rfl | rfl | rfl | rfl | rfl | rfl | rfl | rfl | rfl | rfl | rfl
      all_goals exact ⟨_, rfl, by decide⟩
    have e20 : Onl tw S2 (S2 ++ [PO.lst []]) := Ext.onl Ext.new
    have t20 : TW (S2 ++ [PO.lst []]) sc tw := t2.ext Ext.new
    refine ⟨.lst (ps.map Dt.str), .lst [], .lst (getL_lst (Ext.new _ _ g1)) (dn_strs ps fun t ht => (ok_part (g4 t ht)).2.2.2.2.1), dn_nil (getL_lst new_at), ?_⟩
    rw [eqv_nil, C.draw, C.pick]
    cases hlast : ps.getLast? with
    | none =>
      have hps : ps = [] := List.getLast?_eq_none_iff.mp hlast
      rw [if_neg (by rw [hps]; exact Bool.false_ne_true)]
      refine ⟨⟨_, _, rfl, getL_lst (Ext.new _ _ ((e20).2 _ _ (by omega) g1))⟩, ?_⟩
      refine ⟨sc, tw, _, _, rfl, (t20).ext Ext.new, ⟨by have := (t20).lt; omega, getL_lst new_at⟩, by show 0 < 12; decide, by show 12 < _; decide, fun S4 x e4 t4 hx => ?_⟩
      obtain ⟨p, rfl, hp⟩ := fldx x hx
      obtain ⟨_, xs, a1, a2, a3, a4, a5⟩ := grow S4 p none ((e20).trans ((Ext.onl Ext.new).trans e4)) t4 (Or.inl hp) (Or.inl (decide_eq_true hp))
      exact ⟨xs, a1, a2, a3, a4, a5, _, _, rfl⟩
    | some l =>
      have hl : l ∈ ps := List.mem_of_getLast? hlast
      have hne : (ps.map Dt.str).isEmpty = false := by
        cases ps with
        | nil => cases hl
        | cons a r => rfl
      rw [hne, if_pos (by decide)]
      refine ⟨_, _, getL_lst (Ext.new _ _ g1), at_m1 _ (.str l) (by rw [List.getLast?_map, hlast]; rfl), ⟨_, rfl⟩, ?_⟩
      walk_at "wp"
      obtain ⟨_, _, _, hasc, _, hal⟩ := ok_part (g4 l hl)
      refine ⟨hasc, ?_⟩
      rw [hal]
      cases hf : isFld l with
      | false =>
        rw [if_neg (by decide)]
        refine ⟨⟨_, _, rfl, getL_lst (Ext.new _ _ ((e20).2 _ _ (by omega) g1))⟩, ?_⟩
        refine ⟨sc, tw, _, _, rfl, (t20).ext Ext.new, ⟨by have := (t20).lt; omega, getL_lst new_at⟩, by show 0 < 12; decide, by show 12 < _; decide, fun S4 x e4 t4 hx => ?_⟩
        obtain ⟨p, rfl, hp⟩ := fldx x hx
        obtain ⟨_, xs, a1, a2, a3, a4, a5⟩ := grow S4 p none ((e20).trans ((Ext.onl Ext.new).trans e4)) t4 (Or.inl hp) (Or.inl (decide_eq_true hp))
        exact ⟨xs, a1, a2, a3, a4, a5, _, _, rfl⟩
      | true =>
        rw [if_pos rfl]
        refine ⟨sc, tw, _, rfl, t20, by decide, by decide, fun S3 v e3 t3 v0 v1 => ?_⟩
        have e30 := e20.trans e3
        walk_at "wp"
        by_cases hv : v = 0
        · rw [if_pos (decide_eq_true hv)]
          refine ⟨⟨_, _, rfl, getL_lst (e30.2 _ _ (by omega) g1)⟩, ?_⟩
          refine ⟨sc, tw, _, _, rfl, t3.ext Ext.new, ⟨by have := t3.lt; omega, getL_lst new_at⟩, by show 0 < 6; decide, by show 6 < _; decide, fun S4 x e4 t4 hx => ?_⟩
          have hx : ∃ p, x = .str p ∧ p ∈ sepT := by
            simp only [List.mem_cons, List.not_mem_nil, or_false] at hx
            rcases hx with rfl | rfl | rfl | rfl | rfl | rfl
            all_goals exact ⟨_, rfl, by decide⟩
          obtain ⟨p, rfl, hp⟩ := hx
          obtain ⟨_, xs, a1, a2, a3, a4, a5⟩ := grow S4 p none (e30.trans ((Ext.onl Ext.new).trans e4)) t4 (Or.inr hp) (Or.inr fun x hx => by rw [hlast] at hx; cases hx; exact hf)
          exact ⟨xs, a1, a2, a3, a4, a5, _, _, rfl⟩
        · rw [if_neg (by simpa using hv)]
          refine ⟨⟨_, _, rfl, getL_lst (Ext.new _ _ ((e30).2 _ _ (by omega) g1))⟩, ?_⟩
          refine ⟨sc, tw, _, _, rfl, (t3).ext Ext.new, ⟨by have := (t3).lt; omega, getL_lst new_at⟩, by show 0 < 12; decide, by show 12 < _; decide, fun S4 x e4 t4 hx => ?_⟩
          obtain ⟨p, rfl, hp⟩ := fldx x hx
          obtain ⟨_, xs, a1, a2, a3, a4, a5⟩ := grow S4 p none ((e30).trans ((Ext.onl Ext.new).trans e4)) t4 (Or.inl hp) (Or.inl (decide_eq_true hp))
          exact ⟨xs, a1, a2, a3, a4, a5, _, _, rfl⟩
  · rintro ρ' S2 ⟨e2, t2, ⟨ps, g1, g2, g3, g4⟩, x4, x5, rfl⟩
    rw [List.length_map, List.length_range] at g2
    refine ⟨_, rfl, ?_⟩
    walk_at "wp"
    exact ⟨_, getL_lst g1, q _ ps e2 t2 (good_of (by omega) (by omega) g4 g3) (by omega) g4⟩
end
end PyI
set_option autoImplicit false
set_option linter.all false
set_option Elab.async false
set_option maxRecDepth 100000
set_option maxHeartbeats 4000000
namespace PyI
local macro_rules | `(tactic| walk_at "wp") => `(tactic| simp only [e_var, e_glb, e_int, e_str, e_bl, e_non, e_bin, e_cmp, e_chain, e_neg, e_and, e_or, e_not, e_ite, e_tup, e_lst, e_dic0, e_sub, e_slice, wo_nil, wo_int, wo_var, wo_bin, wo_neg, wo_blt, wo_call, wo_sub, e_lrg, e_lng, e_rev, e_call, e_blt, e_meth, e_comp, e_fld, e_newc, e_mcl, e_lenc, e_orv, e_selc, a_nil, a_cons,
  s_pass, s_seq, s_nm, s_tp, s_par, s_aug, s_setsub, s_augsub, s_ex, s_ret, s_retn, s_ite, s_whl, s_for, s_brk, s_cnt, s_rse, s_tri, s_setfld,
  b_add, b_adds, b_addr, b_addt, b_sub, b_mul, b_mulr, b_muls, b_mult, b_div, b_mod, b_pow, c_eq, c_eqs, c_eqr, c_eqt, c_eqn, c_ne, c_nes, c_ner, c_net, c_nen, c_lt, c_le, c_gt, c_ge, c_ltt, c_let, c_gtt, c_get, c_lts, c_les, c_gts, c_ges, c_isbb, c_isnn, c_isbn, c_isin, c_issn, c_istn, c_isrn, c_nsbb, c_nsnn, c_nsbn, c_nsin, c_nssn, c_nstn, c_nsrn,
  c_int, c_ins, c_inr, c_nit, c_nis, c_nir, n_int, i_tup, i_str, i_ref, i_dic, k_str, k_tup, k_ref, v_ref, v_tup, l_minD, l_maxD, l_min, l_max, z_vals, z_keys, z_enmt, z_zip3, l_lens, l_lent, l_lenr, l_str, l_int, l_dictP, l_isSeq_t, l_isSeq_r, l_isTup_r, l_isTup_i, l_tuplet, l_tupler, l_listt, l_listr, l_sum, l_all, l_any, l_isInt_i, l_isBool_i, l_isStr_s, l_isTup_t,
  m_starts, m_ins, m_split, m_part, m_popAt, y_popAt, y_ins, y_starts, y_split, y_part, m_app, m_ext, m_pop, m_join, m_alpha, m_sidx, m_get, m_setd, y_app, y_ext, y_pop, y_get, y_setd, y_str, y_alpha, y_sidx, t_bl, o_int, z_tup, z_ref, z_str, z_rng1, z_rng2, z_rng3, z_enm, z_zipt, z_zipr, w_ri, w_rs,
  at_0, at_1, at_2, at_3, gv_0, gv_s, sa_0, sa_s, st_nm, st_tp, wi_0, wi_s, st_0, st_s, st_n, wpB, List.set_cons_zero, List.set_cons_succ, Option.some.injEq, exists_eq_left', true_and, Bool.not_true, Bool.not_false, if_true, if_false, Bool.false_eq_true, exists_const, PV.ref.injEq, PV.str.injEq, PV.int.injEq, List.length_cons, List.length_nil])
theorem enumW_at : ∀ (xs : List PV) (k i : Nat), (enumW k xs)[i]? = xs[i]?.map fun x => .tup [.int ((k + i : Nat) : Int), x]
  | [], _, _ => rfl
  | x :: r, k, 0 => rfl
  | x :: r, k, i + 1 => by
    rw [enumW, List.getElem?_cons_succ, List.getElem?_cons_succ, enumW_at r (k + 1) i]
    congr 1
    funext z
    rw [show k + 1 + i = k + (i + 1) by omega]
theorem enumW_len : ∀ (xs : List PV) (k : Nat), (enumW k xs).length = xs.length
  | [], _ => rfl
  | x :: r, k => by rw [enumW, List.length_cons, List.length_cons, enumW_len r]
theorem irange_at (a b : Int) (i : Nat) (h : i < (b - a).toNat) : (irange a b)[i]? = some (a + (i : Int)) := by
  unfold irange
  rw [List.getElem?_map, List.getElem?_range h]
  rfl
theorem cut_to {α : Type} (l : List α) (v : Int) (h0 : 0 ≤ v) : cut l none (some v) = l.take v.toNat := by
  unfold cut
  rw [show sIx l.length 0 none = 0 from rfl, List.drop_zero]
  unfold sIx
  show List.take ((if v < 0 then (v + (l.length : Int)).toNat else min v.toNat l.length) - 0) l = _
  rw [if_neg (by omega), Nat.sub_zero]
  by_cases h : v.toNat ≤ l.length
  · rw [Nat.min_eq_left h]
  · rw [Nat.min_eq_right (by omega), List.take_length, List.take_of_length_le (by omega)]
theorem irange_take (a b c : Int) (h : b ≤ c) : (irange a c).take (b - a).toNat = irange a b := by
  unfold irange
  rw [← List.map_take, List.take_range, Nat.min_eq_left (by omega)]
theorem wd_law (d : Date) (h : isDate d) :
    (5 + 365 * (d.1 - 1600) + (d.1 - 1600 + 3) / 4 - (d.1 - 1600 + 99) / 100 + (d.1 - 1600 + 399) / 400 + ((irange 1 d.2.1).map (mlen d.1)).sum + d.2.2 - 1) % 7 = wdNo d := by
  obtain ⟨h1, h2, h3, h4, h5, h6⟩ := h
  unfold wdNo piy
  omega
section
variable {Γ : Sig} (C : Hlp Γ)
include C
theorem p_rows : ∀ vs S Q R, ct_rows vs S Q R → wpB Γ 7 b_law_dates vs S Q R := by
  rintro vs S Q R ⟨a, b, rfl, hs, q⟩
  unfold b_law_dates
  walk_at "wp"
  obtain ⟨h1, h2, h3, h4, h5, h6⟩ := hs
  refine ⟨by omega, ?_⟩
  refine ⟨fun i ρ' S' => Ext S S' ∧ S'[S.length]? = some (.lst (((irange a (a + (i : Int))).flatMap datesY).map rowV)) ∧ ∃ x2 x3 x4 x5 x6, ρ' = [some (.tup [.int a, .int b]), some (.ref S.length), x2, x3, x4, x5, x6],
    ⟨Ext.new, ?_, _, _, _, _, _, rfl⟩, fun _ _ _ _ => trivial, ?_, ?_⟩
  · rw [show a + ((0 : Nat) : Int) = a by omega, irange_nil]; exact new_at
  · rintro i x ρ' S1 hx ⟨e1, g1, x2, x3, x4, x5, x6, rfl⟩
    obtain ⟨hi, rfl⟩ := rng_at hx
    refine ⟨_, rfl, ?_⟩
    walk_at "wp"
    rw [C.days]
    refine ⟨_, rfl, fun S2 nd e2 hnd g2 => ?_⟩
    walk_at "wp"
    have hl1 := (List.getElem?_eq_some_iff.mp g1).1
    refine ⟨_, getL_lst g2, ?_⟩
    refine ⟨fun j ρ' S' => Ext S S' ∧ S'[nd]? = some (.lst ((irange 1 13).map fun m => .int (mlen (a + (i : Int)) m))) ∧
        S'[S.length]? = some (.lst (((irange a (a + (i : Int))).flatMap datesY ++ (irange 1 (1 + (j : Int))).flatMap (monthD (a + (i : Int)))).map rowV)) ∧
        ∃ x4 x5 x6, ρ' = [some (.tup [.int a, .int b]), some (.ref S.length), some (.int (a + (i : Int))), some (.int ((irange 1 (1 + (j : Int))).map (mlen (a + (i : Int)))).sum), x4, x5, x6],
      ⟨e1.trans e2, g2, ?_, _, _, _, rfl⟩, fun i ρ' S' w => getL_lst w.2.1, ?_, ?_⟩
    · rw [show (1 : Int) + ((0 : Nat) : Int) = 1 by omega, irange_nil, List.flatMap_nil, List.append_nil]; exact e2 _ _ g1
    · rintro j x ρ' S3 hx ⟨e3, g3, k3, y4, y5, y6, rfl⟩
      rw [enumW_at, List.getElem?_map] at hx
      have hj : j < 12 := by
        rcases Nat.lt_or_ge j 12 with h | h
        · exact h
        · rw [List.getElem?_eq_none (by rw [irange_len]; omega)] at hx; cases hx
      rw [irange_at 1 13 j (by omega)] at hx
      obtain rfl := Option.some.inj hx
      refine ⟨_, rfl, ?_⟩
      walk_at "wp"
      have hb := mlen_bd (a + (i : Int)) (1 + (j : Int))
      refine ⟨by omega, by omega, ?_⟩
      rw [show ((0 + j : Nat) : Int) = (j : Int) by omega]
      refine ⟨fun k ρ' S' => Ext S S' ∧ S'[nd]? = some (.lst ((irange 1 13).map fun m => .int (mlen (a + (i : Int)) m))) ∧
          S'[S.length]? = some (.lst ((((irange a (a + (i : Int))).flatMap datesY ++ (irange 1 (1 + (j : Int))).flatMap (monthD (a + (i : Int)))) ++ (irange 1 (1 + (k : Int))).map fun d => (a + (i : Int), 1 + (j : Int), d)).map rowV)) ∧
          ∃ x6, ρ' = [some (.tup [.int a, .int b]), some (.ref S.length), some (.int (a + (i : Int))), some (.int (((irange 1 (1 + (j : Int))).map (mlen (a + (i : Int)))).sum + (k : Int))), some (.int (j : Int)), some (.int (mlen (a + (i : Int)) (1 + (j : Int)))), x6],
        ⟨e3, g3, ?_, _, by rw [show ((0 : Nat) : Int) = 0 from rfl, Int.add_zero]⟩, fun _ _ _ _ => trivial, ?_, ?_⟩
      · rw [show (1 : Int) + ((0 : Nat) : Int) = 1 by omega, irange_nil 1, List.map_nil, List.append_nil]; exact k3
      · rintro k x ρ' S4 hx ⟨e4, g4, k4, y6, rfl⟩
        obtain ⟨hk, rfl⟩ := rng_at hx
        refine ⟨_, rfl, ?_⟩
        walk_at "wp"
        have l4 := (List.getElem?_eq_some_iff.mp k4).1
        refine ⟨⟨_, _, rfl, getL_lst k4⟩, _, k4, ?_, e4.set (Nat.le_refl _), ?_, ?_, _, by rw [show (((k + 1 : Nat) : Int)) = (k : Int) + 1 by omega, Int.add_assoc]⟩
        · have t1 := len_flat datesY 372 (irange a (a + (i : Int))) fun x _ => datesY_len x
          have t2 := len_flat (monthD (a + (i : Int))) 31 (irange 1 (1 + (j : Int))) fun x _ => monthD_len _ x
          rw [irange_len] at t1 t2
          simp only [List.length_map, List.length_append, irange_len]
          unfold big
          omega
        · rw [List.getElem?_set_ne (by omega)]; exact g4
        · rw [List.getElem?_set_self l4, irange_snoc, List.map_append (l₂ := [1 + (k : Int)]), ← List.append_assoc, List.map_append (l₂ := List.map _ [1 + (k : Int)])]
          congr 3
          unfold rowV dV piy
          simp only [List.map_cons, List.map_nil]
          rw [Int.add_comm (j : Int) 1, Int.add_comm (k : Int) 1, Int.add_assoc, Int.add_comm (k : Int) 1]
      · rintro ρ' S4 ⟨e4, g4, k4, y6, rfl⟩
        refine ⟨e4, g4, ?_, some (.int (j : Int)), some (.int (mlen (a + (i : Int)) (1 + (j : Int)))), y6, ?_⟩
        · rw [k4, List.length_map, List.length_range, irange_snoc, List.flatMap_append, List.flatMap_singleton, ← List.append_assoc]
          unfold monthD
          rw [show (1 : Int) + ((mlen (a + (i : Int)) (1 + (j : Int))).toNat : Int) = mlen (a + (i : Int)) (1 + (j : Int)) + 1 by omega]
        · rw [List.length_map, List.length_range, irange_snoc, List.map_append, List.sum_append]
          rw [show ((mlen (a + (i : Int)) (1 + (j : Int))).toNat : Int) = mlen (a + (i : Int)) (1 + (j : Int)) by omega]
          simp
    · rintro ρ' S3 ⟨e3, g3, k3, y4, y5, y6, rfl⟩
      refine ⟨e3, ?_, _, _, _, _, _, rfl⟩
      rw [enumW_len, List.length_map, irange_len] at k3
      rw [k3, irange_snoc, List.flatMap_append, List.flatMap_singleton]
      rfl
  · rintro ρ' S' ⟨e1, g1, x2, x3, x4, x5, x6, rfl⟩
    refine ⟨_, rfl, q _ _ e1 (Nat.le_refl _) ?_⟩
    rw [g1, List.length_map, List.length_range, show a + ((b + 1 - a).toNat : Int) = b + 1 by omega]
    rfl
theorem p_lwd : ∀ vs S Q R, ct_lwd vs S Q R → wpB Γ 3 b_law_weekday vs S Q R := by
  rintro vs S Q R ⟨⟨y, m, d⟩, rfl, hd, q⟩
  have hw := wd_law _ hd
  obtain ⟨h1, h2, h3, h4, h5, h6⟩ := hd
  simp only at h1 h2 h3 h4 h5 h6 hw
  unfold b_law_weekday dV
  walk_at "wp"
  refine ⟨Or.inl (by decide), by decide, by decide, by decide, by decide, by decide, by decide, ?_⟩
  rw [C.days]
  refine ⟨y, rfl, fun S1 n e1 hn g1 => ?_⟩
  walk_at "wp"
  refine ⟨_, getL_lst g1, (irange 1 m).map (mlen y), ?_, by decide, ?_⟩
  · rw [getL_lst new_at, cut_to _ _ (by omega), ← List.map_take, irange_take 1 m 13 (by omega), List.map_map]
    rfl
  · rw [hw]
    exact q _ (e1.trans Ext.new)
end
end PyI
set_option autoImplicit false
set_option linter.all false
set_option Elab.async false
set_option maxRecDepth 100000
set_option maxHeartbeats 4000000
namespace PyI
local macro_rules | `(tactic| walk_at "wp") => `(tactic| simp only [e_var, e_glb, e_int, e_str, e_bl, e_non, e_bin, e_cmp, e_chain, e_neg, e_and, e_or, e_not, e_ite, e_tup, e_lst, e_dic0, e_sub, e_slice, wo_nil, wo_int, wo_var, wo_bin, wo_neg, wo_blt, wo_call, wo_sub, e_lrg, e_lng, e_rev, e_call, e_blt, e_meth, e_comp, e_fld, e_newc, e_mcl, e_lenc, e_orv, e_selc, a_nil, a_cons,
  s_pass, s_seq, s_nm, s_tp, s_par, s_aug, s_setsub, s_augsub, s_ex, s_ret, s_retn, s_ite, s_whl, s_for, s_brk, s_cnt, s_rse, s_tri, s_setfld,
  b_add, b_adds, b_addr, b_addt, b_sub, b_mul, b_mulr, b_muls, b_mult, b_div, b_mod, b_pow, c_eq, c_eqs, c_eqr, c_eqt, c_eqn, c_ne, c_nes, c_ner, c_net, c_nen, c_lt, c_le, c_gt, c_ge, c_ltt, c_let, c_gtt, c_get, c_lts, c_les, c_gts, c_ges, c_isbb, c_isnn, c_isbn, c_isin, c_issn, c_istn, c_isrn, c_nsbb, c_nsnn, c_nsbn, c_nsin, c_nssn, c_nstn, c_nsrn,
  c_int, c_ins, c_inr, c_nit, c_nis, c_nir, n_int, i_tup, i_str, i_ref, i_dic, k_str, k_tup, k_ref, v_ref, v_tup, l_minD, l_maxD, l_min, l_max, z_vals, z_keys, z_enmt, z_zip3, l_lens, l_lent, l_lenr, l_str, l_int, l_dictP, l_isSeq_t, l_isSeq_r, l_isTup_r, l_isTup_i, l_tuplet, l_tupler, l_listt, l_listr, l_sum, l_all, l_any, l_isInt_i, l_isBool_i, l_isStr_s, l_isTup_t,
  m_starts, m_ins, m_split, m_part, m_popAt, y_popAt, y_ins, y_starts, y_split, y_part, m_app, m_ext, m_pop, m_join, m_alpha, m_sidx, m_get, m_setd, y_app, y_ext, y_pop, y_get, y_setd, y_str, y_alpha, y_sidx, t_bl, o_int, z_tup, z_ref, z_str, z_rng1, z_rng2, z_rng3, z_enm, z_zipt, z_zipr, w_ri, w_rs,
  at_0, at_1, at_2, at_3, gv_0, gv_s, sa_0, sa_s, st_nm, st_tp, wi_0, wi_s, st_0, st_s, st_n, wpB, List.set_cons_zero, List.set_cons_succ, Option.some.injEq, exists_eq_left', true_and, Bool.not_true, Bool.not_false, if_true, if_false, Bool.false_eq_true, exists_const, PV.ref.injEq, PV.str.injEq, PV.int.injEq, List.length_cons, List.length_nil])
theorem wr_snoc (ps : List Txt) (p : Txt) (d : Date) : writtenT (ps ++ [p]) d = writtenT ps d ++ pieceT p d := by
  unfold writtenT
  rw [List.map_append, List.flatten_append]
  simp
theorem wr_len (d : Date) (hd : isDate d) : ∀ ps : List Txt, (∀ p ∈ ps, p.length ≤ 1000) → (writtenT ps d).length ≤ 1000 * ps.length := by
  intro ps h
  unfold writtenT
  rw [List.length_flatten]
  have := flat_len (ps.map fun p => pieceT p d) 1000 fun x hx => by
    obtain ⟨p, h1, rfl⟩ := List.mem_map.mp hx
    exact piece_len p d hd (h p h1)
  rw [List.length_map] at this
  exact this
def moAll : Txt := [106, 97, 110, 102, 101, 98, 109, 97, 114, 97, 112, 114, 109, 97, 121, 106, 117, 110, 106, 117, 108, 97, 117, 103, 115, 101, 112, 111, 99, 116, 110, 111, 118, 100, 101, 99]
def wdAll : Txt := [109, 111, 110, 116, 117, 101, 119, 101, 100, 116, 104, 117, 102, 114, 105, 115, 97, 116, 115, 117, 110]
theorem mo_cut (d : Date) (h : isDate d) : cut moAll (some (3 * d.2.1 - 3)) (some (3 * d.2.1)) = moOf d := by
  have : ∀ k : Fin 12, cut moAll (some (3 * ((k.1 : Int) + 1) - 3)) (some (3 * ((k.1 : Int) + 1))) = moNames.getD (((k.1 : Int) + 1) - 1).toNat [] := by decide +kernel
  obtain ⟨h1, h2, h3, h4, h5, h6⟩ := h
  have := this ⟨(d.2.1 - 1).toNat, by omega⟩
  simp only at this
  rw [show (((d.2.1 - 1).toNat : Nat) : Int) + 1 = d.2.1 by omega] at this
  exact this
theorem wdNo_bd (d : Date) : 0 ≤ wdNo d ∧ wdNo d < 7 := by unfold wdNo; omega
theorem wd_cut (d : Date) : cut wdAll (some (3 * wdNo d)) (some (3 * wdNo d + 3)) = wdOf d := by
  have : ∀ k : Fin 7, cut wdAll (some (3 * (k.1 : Int))) (some (3 * (k.1 : Int) + 3)) = wdNames.getD (k.1 : Int).toNat [] := by decide +kernel
  have hb := wdNo_bd d
  have := this ⟨(wdNo d).toNat, by omega⟩
  simp only at this
  rw [show (((wdNo d).toNat : Nat) : Int) = wdNo d by omega] at this
  exact this
theorem num_end {S : Store} {t : Txt} {N k : Int} {kd : Nat} {K : PQ} (hN : 0 ≤ N ∧ N < 2400) (ht : t.length ≤ 1000 * 1000) (hk : (k = 0 ∧ kd = 1) ∨ (k = (kd : Int) ∧ 1 ≤ kd ∧ kd ≤ 4)) (q : K (.str (t ++ padT kd N.toNat)) S) :
    bltop .len [.str (numT N.toNat)] S fun y S2 => binop .sub (.int k) y S2 fun y2 S2 => binop .mul (.str [48]) y2 S2 fun y3 S2 => binop .add (.str t) y3 S2 fun x S1 => binop .add x (.str (numT N.toNat)) S1 K := by
  have hl := num_len N.toNat (by omega)
  have e : (List.replicate (k - ((numT N.toNat).length : Int)).toNat ([48] : Txt)).flatten = List.replicate (kd - (numT N.toNat).length) 48 := by
    rw [show (k - ((numT N.toNat).length : Int)).toNat = kd - (numT N.toNat).length by omega]
    exact List.flatten_replicate_singleton
  walk_at "wp"
  rw [e]
  refine ⟨by unfold big; omega, by decide, by omega, by omega, ?_, ?_, ?_⟩
  · rw [List.length_replicate]; unfold big; omega
  · rw [List.length_append, List.length_replicate]; unfold big; omega
  · rw [List.append_assoc]; exact q
section
variable {Γ : Sig} (C : Hlp Γ)
include C
theorem p_lwrite : ∀ vs S Q R, ct_lwrite vs S Q R → wpB Γ 8 b_law_write vs S Q R := by
  rintro vs S Q R ⟨ps, ⟨y, m, d⟩, rfl, hd, hp, hgood, q⟩
  unfold b_law_write strV dV
  walk_at "wp"
  refine ⟨fun i ρ' S' => Ext S S' ∧ ∃ x4 x5 x6 x7, ρ' = [some (strV ps), some (dV (y, m, d)), some (.int (piy (y, m, d))), some (.str (writtenT (ps.take i) (y, m, d))), x4, x5, x6, x7],
    ⟨Ext.refl, _, _, _, _, rfl⟩, fun _ _ _ _ => trivial, ?_, ?_⟩
  · rintro i x ρ' S1 hx ⟨e1, x4, x5, x6, x7, rfl⟩
    rw [List.getElem?_map] at hx
    cases hd' : ps[i]? with
    | none => rw [hd'] at hx; cases hx
    | some p =>
      rw [hd'] at hx
      obtain rfl := Option.some.inj hx
      have hpm := List.mem_of_getElem? hd'
      have hi := (List.getElem?_eq_some_iff.mp hd').1
      have ht : ps.take (i + 1) = ps.take i ++ [p] := by rw [List.take_add_one, hd']; rfl
      have hT : (writtenT (ps.take i) (y, m, d)).length ≤ 1000 * 1000 := by
        have := wr_len (y, m, d) hd (ps.take i) fun p h => hp.2 p (List.mem_of_mem_take h)
        have h2 : (ps.take i).length ≤ 1000 := Nat.le_trans (by rw [List.length_take]; omega) hp.1
        omega
      have hpl := hp.2 p hpm
      have hg := hgood p hpm
      have hpc := piece_len p (y, m, d) hd hpl
      refine ⟨_, rfl, ?_⟩
      unfold dV
      walk_at "wp"
      rw [ht, wr_snoc]
      generalize writtenT (ps.take i) (y, m, d) = t at hT ⊢
      have hn := hd
      obtain ⟨h1, h2, h3, h4, h5, h6⟩ := hn
      simp only at h1 h2 h3 h4 h5 h6
      have fin : ∀ (S2 : Store) (u : Txt) (z5 z6 z7 : Option PV), Ext S1 S2 → u = pieceT p (y, m, d) → Ext S S2 ∧ ∃ x4 x5 x6 x7, [some (strV ps), some (PV.tup [.int y, .int m, .int d]), some (.int (piy (y, m, d))), some (.str (t ++ u)), some (PV.str p), z5, z6, z7] = [some (strV ps), some (PV.tup [.int y, .int m, .int d]), some (.int (piy (y, m, d))), some (.str (t ++ pieceT p (y, m, d))), x4, x5, x6, x7] :=
        fun S2 u z5 z6 z7 e h => ⟨e1.trans e, some (.str p), z5, z6, z7, by rw [h]⟩
      by_cases k1 : p = [77, 79, 78]
      · rw [if_pos (decide_eq_true k1)]
        have hc := mo_cut (y, m, d) hd
        have hc : cut moAll (some (3 * m - 3)) (some (3 * m)) = pieceT p (y, m, d) := by rw [k1]; exact hc
        refine ⟨Or.inl ⟨by decide, by decide⟩, Or.inl ⟨by decide, by decide⟩, by decide, ?_, fin _ _ _ _ _ Ext.refl hc⟩
        show t.length + (cut moAll (some (3 * m - 3)) (some (3 * m))).length ≤ big
        rw [hc]; unfold big; omega
      · rw [if_neg (by simpa using k1)]
        by_cases k2 : p = [87, 68]
        · rw [if_pos (decide_eq_true k2), C.lwd]
          refine ⟨(y, m, d), rfl, hd, fun S2 e2 => ?_⟩
          walk_at "wp"
          have hc : cut wdAll (some (3 * wdNo (y, m, d))) (some (3 * wdNo (y, m, d) + 3)) = pieceT p (y, m, d) := by rw [k2]; exact wd_cut (y, m, d)
          refine ⟨Or.inl ⟨by decide, by decide⟩, by decide, ?_, fin _ _ _ _ _ e2 hc⟩
          show t.length + (cut wdAll (some (3 * wdNo (y, m, d))) (some (3 * wdNo (y, m, d) + 3))).length ≤ big
          rw [hc]; unfold big; omega
        · rw [if_neg (by simpa using k2)]
          cases hf : isFld p with
          | false =>
            have hlit : litB p = true := by
              unfold partB at hg
              rwa [hf, Bool.false_or] at hg
            unfold litB at hlit
            obtain ⟨g1, g2⟩ := Bool.and_eq_true_iff.mp hlit
            have g1 := of_decide_eq_true g1
            cases p with
            | nil => exact absurd g1.1 (by decide)
            | cons c r =>
              refine ⟨by unfold big; omega, c, rfl, c, rfl, ?_⟩
              have hc : c ∈ litT := of_decide_eq_true (List.all_eq_true.mp g2 c (List.mem_cons_self ..))
              have hc2 : c ∉ [68, 77, 89, 74] := by
                have : ∀ z ∈ litT, z ∉ [68, 77, 89, 74] := by decide
                exact this c hc
              rw [if_neg (by simpa using hc2)]
              refine ⟨by unfold big; omega, fin _ _ _ _ _ Ext.refl ?_⟩
              unfold pieceT
              rw [if_pos hf]
          | true =>
            have hm : p ∈ fieldT := of_decide_eq_true hf
            simp only [fieldT, List.mem_cons, List.not_mem_nil, or_false] at hm
            rcases hm with rfl | rfl | rfl | rfl | rfl | rfl | rfl | rfl | rfl | rfl
            · have hv : 0 ≤ d ∧ d < 2400 := valN_bd [68] (y, m, d) hd
              refine ⟨by decide, _, rfl, _, rfl, ?_⟩
              rw [if_pos (by decide)]
              refine ⟨⟨_, rfl⟩, by decide, _, rfl, 0, _, rfl, rfl, _, _, getL_lst new_at, rfl, ?_⟩
              rw [if_neg (by decide)]
              refine ⟨hv.1, by omega, by decide, ?_⟩
              rw [if_pos (by decide)]
              exact num_end (kd := 1) hv hT (Or.inl ⟨rfl, rfl⟩) (fin _ _ _ _ _ Ext.new rfl)
            · have hv : 0 ≤ d ∧ d < 2400 := valN_bd [68, 68] (y, m, d) hd
              refine ⟨by decide, _, rfl, _, rfl, ?_⟩
              rw [if_pos (by decide)]
              refine ⟨⟨_, rfl⟩, by decide, _, rfl, 0, _, rfl, rfl, _, _, getL_lst new_at, rfl, ?_⟩
              rw [if_neg (by decide)]
              refine ⟨hv.1, by omega, by decide, ?_⟩
              rw [if_neg (by decide)]
              exact ⟨by decide, num_end (kd := 2) hv hT (Or.inr ⟨rfl, by decide, by decide⟩) (fin _ _ _ _ _ Ext.new rfl)⟩
            · have hv : 0 ≤ m ∧ m < 2400 := valN_bd [77] (y, m, d) hd
              refine ⟨by decide, _, rfl, _, rfl, ?_⟩
              rw [if_pos (by decide)]
              refine ⟨⟨_, rfl⟩, by decide, _, rfl, 1, _, rfl, rfl, _, _, getL_lst new_at, rfl, ?_⟩
              rw [if_neg (by decide)]
              refine ⟨hv.1, by omega, by decide, ?_⟩
              rw [if_pos (by decide)]
              exact num_end (kd := 1) hv hT (Or.inl ⟨rfl, rfl⟩) (fin _ _ _ _ _ Ext.new rfl)
            · have hv : 0 ≤ m ∧ m < 2400 := valN_bd [77, 77] (y, m, d) hd
              refine ⟨by decide, _, rfl, _, rfl, ?_⟩
              rw [if_pos (by decide)]
              refine ⟨⟨_, rfl⟩, by decide, _, rfl, 1, _, rfl, rfl, _, _, getL_lst new_at, rfl, ?_⟩
              rw [if_neg (by decide)]
              refine ⟨hv.1, by omega, by decide, ?_⟩
              rw [if_neg (by decide)]
              exact ⟨by decide, num_end (kd := 2) hv hT (Or.inr ⟨rfl, by decide, by decide⟩) (fin _ _ _ _ _ Ext.new rfl)⟩
            · exact absurd rfl k1
            · have hv : 0 ≤ y % 100 ∧ y % 100 < 2400 := valN_bd [89, 89] (y, m, d) hd
              refine ⟨by decide, _, rfl, _, rfl, ?_⟩
              rw [if_pos (by decide)]
              refine ⟨⟨_, rfl⟩, by decide, _, rfl, 2, _, rfl, rfl, _, _, getL_lst new_at, rfl, ?_⟩
              rw [if_pos (by decide)]
              refine ⟨by decide, hv.1, by omega, by decide, ?_⟩
              rw [if_neg (by decide)]
              exact ⟨by decide, num_end (kd := 2) hv hT (Or.inr ⟨rfl, by decide, by decide⟩) (fin _ _ _ _ _ Ext.new rfl)⟩
            · have hv : 0 ≤ y ∧ y < 2400 := valN_bd [89, 89, 89, 89] (y, m, d) hd
              refine ⟨by decide, _, rfl, _, rfl, ?_⟩
              rw [if_pos (by decide)]
              refine ⟨⟨_, rfl⟩, by decide, _, rfl, 2, _, rfl, rfl, _, _, getL_lst new_at, rfl, ?_⟩
              rw [if_neg (by decide)]
              refine ⟨hv.1, by omega, by decide, ?_⟩
              rw [if_neg (by decide)]
              exact ⟨by decide, num_end (kd := 4) hv hT (Or.inr ⟨rfl, by decide, by decide⟩) (fin _ _ _ _ _ Ext.new rfl)⟩
            · have hv : 0 ≤ piy (y, m, d) ∧ piy (y, m, d) < 2400 := valN_bd [74] (y, m, d) hd
              refine ⟨by decide, _, rfl, _, rfl, ?_⟩
              rw [if_pos (by decide)]
              refine ⟨⟨_, rfl⟩, by decide, _, rfl, 3, _, rfl, rfl, _, _, getL_lst new_at, rfl, ?_⟩
              rw [if_neg (by decide)]
              refine ⟨hv.1, by omega, by decide, ?_⟩
              rw [if_pos (by decide)]
              exact num_end (kd := 1) hv hT (Or.inl ⟨rfl, rfl⟩) (fin _ _ _ _ _ Ext.new rfl)
            · have hv : 0 ≤ piy (y, m, d) ∧ piy (y, m, d) < 2400 := valN_bd [74, 74, 74] (y, m, d) hd
              refine ⟨by decide, _, rfl, _, rfl, ?_⟩
              rw [if_pos (by decide)]
              refine ⟨⟨_, rfl⟩, by decide, _, rfl, 3, _, rfl, rfl, _, _, getL_lst new_at, rfl, ?_⟩
              rw [if_neg (by decide)]
              refine ⟨hv.1, by omega, by decide, ?_⟩
              rw [if_neg (by decide)]
              exact ⟨by decide, num_end (kd := 3) hv hT (Or.inr ⟨rfl, by decide, by decide⟩) (fin _ _ _ _ _ Ext.new rfl)⟩
            · exact absurd rfl k2
  · rintro ρ' S' ⟨e1, x4, x5, x6, x7, rfl⟩
    rw [List.length_map, List.take_length]
    exact ⟨_, rfl, q _ e1⟩
end
end PyI
set_option autoImplicit false
set_option linter.all false
set_option Elab.async false
set_option maxRecDepth 100000
set_option maxHeartbeats 4000000
namespace PyI
local macro_rules | `(tactic| walk_at "wp") => `(tactic| simp only [e_var, e_glb, e_int, e_str, e_bl, e_non, e_bin, e_cmp, e_chain, e_neg, e_and, e_or, e_not, e_ite, e_tup, e_lst, e_dic0, e_sub, e_slice, wo_nil, wo_int, wo_var, wo_bin, wo_neg, wo_blt, wo_call, wo_sub, e_lrg, e_lng, e_rev, e_call, e_blt, e_meth, e_comp, e_fld, e_newc, e_mcl, e_lenc, e_orv, e_selc, a_nil, a_cons,
  s_pass, s_seq, s_nm, s_tp, s_par, s_aug, s_setsub, s_augsub, s_ex, s_ret, s_retn, s_ite, s_whl, s_for, s_brk, s_cnt, s_rse, s_tri, s_setfld,
  b_add, b_adds, b_addr, b_addt, b_sub, b_mul, b_mulr, b_muls, b_mult, b_div, b_mod, b_pow, c_eq, c_eqs, c_eqr, c_eqt, c_eqn, c_ne, c_nes, c_ner, c_net, c_nen, c_lt, c_le, c_gt, c_ge, c_ltt, c_let, c_gtt, c_get, c_lts, c_les, c_gts, c_ges, c_isbb, c_isnn, c_isbn, c_isin, c_issn, c_istn, c_isrn, c_nsbb, c_nsnn, c_nsbn, c_nsin, c_nssn, c_nstn, c_nsrn,
  c_int, c_ins, c_inr, c_nit, c_nis, c_nir, n_int, i_tup, i_str, i_ref, i_dic, k_str, k_tup, k_ref, v_ref, v_tup, l_minD, l_maxD, l_min, l_max, z_vals, z_keys, z_enmt, z_zip3, l_lens, l_lent, l_lenr, l_str, l_int, l_dictP, l_isSeq_t, l_isSeq_r, l_isTup_r, l_isTup_i, l_tuplet, l_tupler, l_listt, l_listr, l_sum, l_all, l_any, l_isInt_i, l_isBool_i, l_isStr_s, l_isTup_t,
  m_starts, m_ins, m_split, m_part, m_popAt, y_popAt, y_ins, y_starts, y_split, y_part, m_app, m_ext, m_pop, m_join, m_alpha, m_sidx, m_get, m_setd, y_app, y_ext, y_pop, y_get, y_setd, y_str, y_alpha, y_sidx, t_bl, o_int, z_tup, z_ref, z_str, z_rng1, z_rng2, z_rng3, z_enm, z_zipt, z_zipr, w_ri, w_rs,
  at_0, at_1, at_2, at_3, gv_0, gv_s, sa_0, sa_s, st_nm, st_tp, wi_0, wi_s, st_0, st_s, st_n, wpB, List.set_cons_zero, List.set_cons_succ, Option.some.injEq, exists_eq_left', true_and, Bool.not_true, Bool.not_false, if_true, if_false, Bool.false_eq_true, exists_const, PV.ref.injEq, PV.str.injEq, PV.int.injEq, List.length_cons, List.length_nil])
/-! ### what the laws compare -/
mutual
theorem eqv_refl : ∀ d : Dt, d.eqv d = true
  | .non => rfl
  | .bl b => by cases b <;> rfl
  | .int i => by show (i == i) = true; exact beq_self_eq_true i
  | .str s => by show (s == s) = true; exact beq_self_eq_true s
  | .tup l => eqvAll_refl l
  | .lst l => eqvAll_refl l
theorem eqvAll_refl : ∀ d : List Dt, Dt.eqvAll d d = true
  | [] => rfl
  | x :: r => by
    show (x.eqv x && Dt.eqvAll r r) = true
    rw [eqv_refl x, eqvAll_refl r]
    rfl
end
def dD (d : Date) : Dt := .tup [.int d.1, .int d.2.1, .int d.2.2]
theorem dn_date {S : Store} {k : Nat} (d : Date) : Dn S (k + 1) (dV d) (dD d) := .tup (.cons (.int _) (.cons (.int _) (.cons (.int _) .nil)))
theorem dn_dates {S : Store} {k : Nat} : ∀ ds : List Date, DnL S (k + 1) (ds.map dV) (ds.map dD)
  | [] => .nil
  | d :: r => .cons (dn_date d) (dn_dates r)
theorem dn_datesR {S : Store} {k n : Nat} {ds : List Date} (h : getL S n = some (ds.map dV)) : Dn S (k + 2) (.ref n) (.lst (ds.map dD)) := .lst h (dn_dates ds)
def fstP : PV → PV
  | .tup [x, _] => x
  | _ => .non
def dateOf : PV → Date
  | .tup [.int a, .int b, .int c] => (a, b, c)
  | _ => (0, 0, 0)
theorem dateOf_dV (d : Date) : dateOf (dV d) = d := rfl
theorem rows_filter (q : Date → Bool) (ds : List Date) : ((ds.map rowV).filter fun x => q (dateOf (fstP x))).map fstP = (ds.filter q).map dV := by
  rw [List.filter_map, List.map_map]
  rfl
theorem rows_fst (ds : List Date) : (ds.map rowV).map fstP = ds.map dV := by
  rw [List.map_map]; rfl
theorem num_ch (n : Nat) (h : n < 2400) : ∀ c ∈ numT n, c ≠ 120 := by
  have : ∀ k : Fin 2400, (numT k.1).all (fun c => c != 120) = true := by decide +kernel
  intro c hc
  have := List.all_eq_true.mp (this ⟨n, h⟩) c hc
  simpa using this
theorem mo_mem (d : Date) (h : isDate d) : moOf d ∈ moNames := by
  obtain ⟨h1, h2, h3, h4, h5, h6⟩ := h
  unfold moOf
  have : (d.2.1 - 1).toNat < moNames.length := by show _ < 12; omega
  rw [List.getD_eq_getElem?_getD, List.getElem?_eq_getElem this]
  exact List.getElem_mem this
theorem wd_mem (d : Date) : wdOf d ∈ wdNames := by
  have hb := wdNo_bd d
  unfold wdOf
  have : (wdNo d).toNat < wdNames.length := by show _ < 7; omega
  rw [List.getD_eq_getElem?_getD, List.getElem?_eq_getElem this]
  exact List.getElem_mem this
theorem piece_ch (p : Txt) (d : Date) (hd : isDate d) (hp : okPart p) : pieceT p d ≠ [] ∧ ∀ c ∈ pieceT p d, c ≠ 120 := by
  have hl : ∀ q ∈ sepT ++ moNames ++ wdNames, q ≠ [] ∧ ∀ c ∈ q, c ≠ 120 := by decide +kernel
  unfold pieceT
  split
  · rename_i hf
    rcases hp with hp | hp
    · rw [show isFld p = true from decide_eq_true hp] at hf; cases hf
    · exact hl p (by simp [hp])
  · split
    · exact hl _ (List.mem_append_left _ (List.mem_append_right _ (mo_mem d hd)))
    · split
      · exact hl _ (List.mem_append_right _ (wd_mem d))
      · have hv := valN_bd p d hd
        have hn := num_len (valN p d).toNat (by omega)
        have hc := num_ch (valN p d).toNat (by omega)
        unfold padT
        refine ⟨fun z => ?_, fun c hc' => ?_⟩
        · have := congrArg List.length z
          rw [List.length_append] at this
          simp only [List.length_nil] at this
          omega
        · rcases List.mem_append.mp hc' with h | h
          · rw [(List.mem_replicate.mp h).2]; decide
          · exact hc c h
theorem wr_ch (ps : List Txt) (d : Date) (hd : isDate d) (hp : ∀ p ∈ ps, okPart p) : ∀ c ∈ writtenT ps d, c ≠ 120 := by
  intro c hc
  obtain ⟨l, h1, h2⟩ := List.mem_flatten.mp hc
  obtain ⟨p, h3, rfl⟩ := List.mem_map.mp h1
  exact (piece_ch p d hd (hp p h3)).2 c h2
theorem wr_ne (ps : List Txt) (d : Date) (hd : isDate d) (hp : ∀ p ∈ ps, okPart p) (h1 : 1 ≤ ps.length) : writtenT ps d ≠ [] := by
  cases ps with
  | nil => exact absurd h1 (by decide)
  | cons p r =>
    unfold writtenT
    rw [List.map_cons, List.flatten_cons]
    intro z
    exact (piece_ch p d hd (hp p (List.mem_cons_self ..))).1 (List.append_eq_nil_iff.mp z).1
theorem good_len {ps : List Txt} (h : goodPat ps) : 1 ≤ ps.length ∧ ps.length ≤ 7 := by
  have := h.2
  unfold patB at this
  exact of_decide_eq_true (Bool.and_eq_true_iff.mp this).1
theorem good_parts {ps : List Txt} (h : goodPat ps) : ∀ p ∈ ps, partB p = true := by
  have := h.2
  unfold patB at this
  exact List.all_eq_true.mp (Bool.and_eq_true_iff.mp (Bool.and_eq_true_iff.mp this).2).1
theorem tw_start (ns : List Int) (h : ns.length ≤ 63) : TW ([.scr (ns.map PV.int)] ++ [PO.lst [.int 0, .int 0]]) 0 1 :=
  ⟨by decide, ⟨ns, getL_scr rfl, by omega⟩, 0, 0, by decide, by decide, rfl⟩
theorem filt_nil {w : Date → Txt} {ds : List Date} {t : Txt} (h : ∀ d ∈ ds, w d ≠ t) : ds.filter (fun d => decide (w d = t)) = [] := by
  rw [List.filter_eq_nil_iff]
  intro x hx z
  exact h x hx (by simpa using z)
end PyI
set_option autoImplicit false
set_option linter.all false
set_option Elab.async false
set_option maxRecDepth 100000
set_option maxHeartbeats 4000000
namespace PyI
local macro_rules | `(tactic| walk_at "wp") => `(tactic| simp only [e_var, e_glb, e_int, e_str, e_bl, e_non, e_bin, e_cmp, e_chain, e_neg, e_and, e_or, e_not, e_ite, e_tup, e_lst, e_dic0, e_sub, e_slice, wo_nil, wo_int, wo_var, wo_bin, wo_neg, wo_blt, wo_call, wo_sub, e_lrg, e_lng, e_rev, e_call, e_blt, e_meth, e_comp, e_fld, e_newc, e_mcl, e_lenc, e_orv, e_selc, a_nil, a_cons,
  s_pass, s_seq, s_nm, s_tp, s_par, s_aug, s_setsub, s_augsub, s_ex, s_ret, s_retn, s_ite, s_whl, s_for, s_brk, s_cnt, s_rse, s_tri, s_setfld,
  b_add, b_adds, b_addr, b_addt, b_sub, b_mul, b_mulr, b_muls, b_mult, b_div, b_mod, b_pow, c_eq, c_eqs, c_eqr, c_eqt, c_eqn, c_ne, c_nes, c_ner, c_net, c_nen, c_lt, c_le, c_gt, c_ge, c_ltt, c_let, c_gtt, c_get, c_lts, c_les, c_gts, c_ges, c_isbb, c_isnn, c_isbn, c_isin, c_issn, c_istn, c_isrn, c_nsbb, c_nsnn, c_nsbn, c_nsin, c_nssn, c_nstn, c_nsrn,
  c_int, c_ins, c_inr, c_nit, c_nis, c_nir, n_int, i_tup, i_str, i_ref, i_dic, k_str, k_tup, k_ref, v_ref, v_tup, l_minD, l_maxD, l_min, l_max, z_vals, z_keys, z_enmt, z_zip3, l_lens, l_lent, l_lenr, l_str, l_int, l_dictP, l_isSeq_t, l_isSeq_r, l_isTup_r, l_isTup_i, l_tuplet, l_tupler, l_listt, l_listr, l_sum, l_all, l_any, l_isInt_i, l_isBool_i, l_isStr_s, l_isTup_t,
  m_starts, m_ins, m_split, m_part, m_popAt, y_popAt, y_ins, y_starts, y_split, y_part, m_app, m_ext, m_pop, m_join, m_alpha, m_sidx, m_get, m_setd, y_app, y_ext, y_pop, y_get, y_setd, y_str, y_alpha, y_sidx, t_bl, o_int, z_tup, z_ref, z_str, z_rng1, z_rng2, z_rng3, z_enm, z_zipt, z_zipr, w_ri, w_rs,
  at_0, at_1, at_2, at_3, gv_0, gv_s, sa_0, sa_s, st_nm, st_tp, wi_0, wi_s, st_0, st_s, st_n, wpB, List.set_cons_zero, List.set_cons_succ, Option.some.injEq, exists_eq_left', true_and, Bool.not_true, Bool.not_false, if_true, if_false, Bool.false_eq_true, exists_const, PV.ref.injEq, PV.str.injEq, PV.int.injEq, List.length_cons, List.length_nil])
theorem eqv_dD (x y : Date) : (dD x).eqv (dD y) = decide (x = y) := by
  obtain ⟨a, b, c⟩ := x
  obtain ⟨p, q, r⟩ := y
  show ((a == p) && ((b == q) && ((c == r) && true))) = _
  by_cases h1 : a = p
  · by_cases h2 : b = q
    · by_cases h3 : c = r
      · subst h1 h2 h3; simp
      · simp [h3]
    · simp [h2]
  · simp [h1]
theorem tab_get {b c : Nat} {S : Store} {n : Nat} {w : Date → Txt} {ds : List Date} (h : tabAt b c S n w ds) (t : Txt) :
    ∃ kvs, S[n]? = some (.dic kvs) ∧ ((∃ r, lkp kvs t = some (.ref r) ∧ c ≤ r ∧ S[r]? = some (.lst ((ds.filter fun d => decide (w d = t)).map dV))) ∨ (lkp kvs t = none ∧ (ds.filter fun d => decide (w d = t)) = [])) := by
  obtain ⟨rs, h1, h2, h3, h4, h5, h6⟩ := h
  refine ⟨_, h1, ?_⟩
  by_cases hk : t ∈ rs.map (·.1)
  · obtain ⟨r, hr, rfl, hl⟩ := lkp_has hk
    exact Or.inl ⟨_, hl, h6 r hr⟩
  · refine Or.inr ⟨lkp_not hk, filt_nil fun d hd e => hk ?_⟩
    rw [h3, mem_keys]
    exact List.mem_map.mpr ⟨d, hd, e⟩
/-- what .get gives with a new empty list as the other value -/
theorem tab_getD {b c : Nat} {S : Store} {n : Nat} {w : Date → Txt} {ds : List Date} (h : tabAt b c S n w ds) (t : Txt) :
    ∃ kvs r, S[n]? = some (.dic kvs) ∧ (lkp kvs t).getD (.ref S.length) = .ref r ∧ (S ++ [PO.lst []])[r]? = some (.lst ((ds.filter fun d => decide (w d = t)).map dV)) := by
  obtain ⟨kvs, h1, h2⟩ := tab_get h t
  rcases h2 with ⟨r, h3, h4, h5⟩ | ⟨h3, h4⟩
  · exact ⟨kvs, r, h1, by rw [h3]; rfl, Ext.new _ _ h5⟩
  · exact ⟨kvs, S.length, h1, by rw [h3]; rfl, by rw [h4]; exact new_at⟩
theorem findSome_at {α β : Type} {f : α → Option β} {r : β} : ∀ {l : List α} {i : Nat} {d : α}, (∀ x ∈ l.take i, f x = none) → l[i]? = some d → f d = some r → l.findSome? f = some r
  | [], i, d, _, h, _ => by simp at h
  | x :: l, 0, d, _, h, e => by
    have : x = d := by simpa using h
    subst this
    rw [List.findSome?_cons, e]
  | x :: l, i + 1, d, h0, h, e => by
    have hx : f x = none := h0 x (by simp)
    rw [List.findSome?_cons, hx]
    exact findSome_at (l := l) (i := i) (fun y hy => h0 y (by simp [hy])) (by simpa using h) e
theorem findSome_no {α β : Type} {f : α → Option β} {l : List α} (h : ∀ x ∈ l, f x = none) : l.findSome? f = none := by
  rw [List.findSome?_eq_none_iff]; exact h
/-- dates that stand for a text other than d itself -/
def othT (qs : List Txt) (t : Txt) (d : Date) (ds : List Date) : List Date := (ds.filter fun x => decide (writtenT qs x = t)).filter fun x => !decide (x = d)
def confT (ps qs : List Txt) (ds : List Date) : Option (Date × Date) := ds.findSome? fun d => (othT qs (writtenT ps d) d ds).head?.map fun e => (d, e)
def pairV : Option (Date × Date) → PV
  | none => .non
  | some x => .tup [dV x.1, dV x.2]
def pairD : Option (Date × Date) → Dt
  | none => .non
  | some x => .tup [dD x.1, dD x.2]
theorem dn_pair {S : Store} : ∀ o : Option (Date × Date), Dn S 60 (pairV o) (pairD o)
  | none => .non
  | some x => .tup (.cons (dn_date x.1) (.cons (dn_date x.2) .nil))
def ct_confused : Ct := fun vs S Q _ => ∃ (ps qs : List Txt) (a b : Int), vs = [strV ps, strV qs, .tup [.int a, .int b]] ∧ isSpan a b ∧ goodPat ps ∧ goodPat qs ∧ ∀ S', Ext S S' → Q (pairV (confT ps qs (datesIn a b))) S'
/-- [one for one in found if one != date] over dates -/
theorem comp_oth {Γ : Sig} {ρ : Env} {S2 : Store} {i : Nat} {c : IE} {own : List Nat} {keep : Store → Prop} {Q : PQ} (ds : List Date) (d : Date) (hc : isNil c = false) (hk : ∀ S', Ext S2 S' → keep S') (hl : ds.length < big)
    (h : ∀ (x : Date) (S' : Store) (Q1 : PQ), Q1 (.bl (!decide (x = d))) S' → wpE Γ c ((wipeP ρ own).set i (some (dV x))) S' Q1 (fun _ _ => False)) (hv : ∀ (x : Date) (S' : Store) (Q1 : PQ), Q1 (dV x) S' → wpE Γ (.var i) ((wipeP ρ own).set i (some (dV x))) S' Q1 (fun _ _ => False))
    (q : ∀ S', Ext S2 S' → S'[S2.length]? = some (.lst ((ds.filter fun x => !decide (x = d)).map dV)) → Q (.ref S2.length) S') :
    compP Γ ρ S2 Q (.nm i) own c (.var i) (ds.map dV) keep := by
  refine comp_if (fun x => !decide (dateOf x = d)) id hc hk (by rw [List.length_map]; exact hl) (fun x S' hx e => ?_) fun S' e h1 => q S' e ?_
  · obtain ⟨z, hz, rfl⟩ := List.mem_map.mp hx
    exact ⟨_, rfl, fun Q1 q1 => h z S' Q1 (q1 _ Ext.refl), fun S3 e3 _ Q1 q1 => hv z S3 Q1 (q1 _ Ext.refl)⟩
  · rw [h1, List.filter_map, List.map_id]
    rfl
section
variable {Γ : Sig} (C : Hlp Γ)
include C
theorem p_confused : ∀ vs S Q R, ct_confused vs S Q R → wpB Γ 7 b_confused vs S Q R := by
  rintro vs S Q R ⟨ps, qs, a, b, rfl, hs, hp, hq, q⟩
  unfold b_confused
  walk_at "wp"
  rw [C.need_pattern, C.need_span, C.table, C.dates_in]
  refine ⟨ps, rfl, hp, fun S1 e1 => ?_⟩
  walk_at "wp"
  refine ⟨qs, rfl, hq, fun S2 e2 => ?_⟩
  walk_at "wp"
  refine ⟨a, b, hs, rfl, fun S3 e3 => ?_⟩
  walk_at "wp"
  refine ⟨qs, a, b, rfl, hs, hq.1, fun S4 n e4 ht => ?_⟩
  walk_at "wp"
  refine ⟨a, b, hs, rfl, fun S5 nd e5 hnd g5 => ?_⟩
  walk_at "wp"
  have ht5 := tab_ext e5 ht
  have hlen := datesIn_len hs
  refine ⟨_, getL_lst g5, ?_⟩
  refine ⟨fun i ρ' S' => Ext S5 S' ∧ (∀ x ∈ (datesIn a b).take i, (othT qs (writtenT ps x) x (datesIn a b)).head?.map (fun e => (x, e)) = none) ∧ ∃ x4 x5 x6, ρ' = [some (strV ps), some (strV qs), some (.tup [.int a, .int b]), some (.ref n), x4, x5, x6],
    ⟨Ext.refl, by simp, _, _, _, rfl⟩, fun i ρ' S' w => w.1.getL (getL_lst g5), ?_, ?_⟩
  · rintro i x ρ' S6 hx ⟨e6, h6, x4, x5, x6, rfl⟩
    rw [List.getElem?_map] at hx
    cases hd : (datesIn a b)[i]? with
    | none => rw [hd] at hx; cases hx
    | some d =>
      rw [hd] at hx
      obtain rfl := Option.some.inj hx
      have hdd := (datesIn_date hs (List.mem_of_getElem? hd)).1
      refine ⟨_, rfl, ?_⟩
      walk_at "wp"
      rw [C.written]
      have t6 := tab_ext e6 ht5
      obtain ⟨kv0, hk0, _⟩ := tab_get t6 []
      refine ⟨⟨_, _, rfl, getD_dic hk0⟩, ps, d, rfl, hdd, hp.1, fun S7 e7 => ?_⟩
      have t7 := tab_ext e7 t6
      obtain ⟨kvs, r, hk, hr, gr⟩ := tab_getD t7 (writtenT ps d)
      walk_at "wp"
      refine ⟨kvs, getD_dic (Ext.new _ _ hk), ?_⟩
      rw [hr]
      walk_at "wp"
      refine ⟨_, getL_lst gr, ?_⟩
      have hfl : ((datesIn a b).filter fun x => decide (writtenT qs x = writtenT ps d)).length ≤ 4464 := Nat.le_trans (List.length_filter_le _ _) hlen
      refine comp_oth _ d rfl (fun _ e => e.getL (getL_lst gr)) (by unfold big; omega) (fun x S' Q1 q1 => ?_) (fun x S' Q1 q1 => ?_) fun S8 e8 g8 => ?_
      · walk_at "wp"
        unfold dV
        walk_at "wp"
        refine ⟨_, _, dn_date x, dn_date d, ?_⟩
        rw [eqv_dD]
        exact q1
      · walk_at "wp"
        exact q1
      · have g8 : S8[(S7 ++ [PO.lst []]).length]? = some (.lst ((othT qs (writtenT ps d) d (datesIn a b)).map dV)) := g8
        have e68 : Ext S6 S8 := (e7.trans Ext.new).trans e8
        walk_at "wp"
        refine ⟨_, _, dn_datesR (getL_lst (Ext.new _ _ g8)), dn_nil (getL_lst new_at), ?_⟩
        rw [eqv_nil]
        cases ho : othT qs (writtenT ps d) d (datesIn a b) with
        | nil =>
          rw [if_neg (by decide)]
          refine ⟨(e6.trans e68).trans Ext.new, ?_, _, _, _, rfl⟩
          rw [List.take_add_one, hd]
          intro x hx
          rcases List.mem_append.mp hx with hx | hx
          · exact h6 x hx
          · have : x = d := by simpa using hx
            subst this
            rw [ho]; rfl
        | cons z zs =>
          rw [if_pos (by simp)]
          rw [ho] at g8
          refine ⟨_, _, getL_lst (Ext.new _ _ g8), rfl, ?_⟩
          have := q (S8 ++ [PO.lst []]) ((((((e1.trans e2).trans e3).trans e4).trans (e5.trans e6)).trans e68).trans Ext.new)
          unfold confT at this
          rw [findSome_at (r := (d, z)) h6 hd (by rw [ho]; rfl)] at this
          exact this
  · rintro ρ' S6 ⟨e6, h6, x4, x5, x6, rfl⟩
    rw [List.length_map, List.take_length] at h6
    have := q S6 ((((e1.trans e2).trans e3).trans e4).trans (e5.trans e6))
    unfold confT at this
    rw [findSome_no h6] at this
    exact this
end
end PyI
set_option autoImplicit false
set_option linter.all false
set_option Elab.async false
set_option maxRecDepth 100000
set_option maxHeartbeats 4000000
namespace PyI
local macro_rules | `(tactic| walk_at "wp") => `(tactic| simp only [e_var, e_glb, e_int, e_str, e_bl, e_non, e_bin, e_cmp, e_chain, e_neg, e_and, e_or, e_not, e_ite, e_tup, e_lst, e_dic0, e_sub, e_slice, wo_nil, wo_int, wo_var, wo_bin, wo_neg, wo_blt, wo_call, wo_sub, e_lrg, e_lng, e_rev, e_call, e_blt, e_meth, e_comp, e_fld, e_newc, e_mcl, e_lenc, e_orv, e_selc, a_nil, a_cons,
  s_pass, s_seq, s_nm, s_tp, s_par, s_aug, s_setsub, s_augsub, s_ex, s_ret, s_retn, s_ite, s_whl, s_for, s_brk, s_cnt, s_rse, s_tri, s_setfld,
  b_add, b_adds, b_addr, b_addt, b_sub, b_mul, b_mulr, b_muls, b_mult, b_div, b_mod, b_pow, c_eq, c_eqs, c_eqr, c_eqt, c_eqn, c_ne, c_nes, c_ner, c_net, c_nen, c_lt, c_le, c_gt, c_ge, c_ltt, c_let, c_gtt, c_get, c_lts, c_les, c_gts, c_ges, c_isbb, c_isnn, c_isbn, c_isin, c_issn, c_istn, c_isrn, c_nsbb, c_nsnn, c_nsbn, c_nsin, c_nssn, c_nstn, c_nsrn,
  c_int, c_ins, c_inr, c_nit, c_nis, c_nir, n_int, i_tup, i_str, i_ref, i_dic, k_str, k_tup, k_ref, v_ref, v_tup, l_minD, l_maxD, l_min, l_max, z_vals, z_keys, z_enmt, z_zip3, l_lens, l_lent, l_lenr, l_str, l_int, l_dictP, l_isSeq_t, l_isSeq_r, l_isTup_r, l_isTup_i, l_tuplet, l_tupler, l_listt, l_listr, l_sum, l_all, l_any, l_isInt_i, l_isBool_i, l_isStr_s, l_isTup_t,
  m_starts, m_ins, m_split, m_part, m_popAt, y_popAt, y_ins, y_starts, y_split, y_part, m_app, m_ext, m_pop, m_join, m_alpha, m_sidx, m_get, m_setd, y_app, y_ext, y_pop, y_get, y_setd, y_str, y_alpha, y_sidx, t_bl, o_int, z_tup, z_ref, z_str, z_rng1, z_rng2, z_rng3, z_enm, z_zipt, z_zipr, w_ri, w_rs,
  at_0, at_1, at_2, at_3, gv_0, gv_s, sa_0, sa_s, st_nm, st_tp, wi_0, wi_s, st_0, st_s, st_n, wpB, List.set_cons_zero, List.set_cons_succ, Option.some.injEq, exists_eq_left', true_and, Bool.not_true, Bool.not_false, if_true, if_false, Bool.false_eq_true, exists_const, PV.ref.injEq, PV.str.injEq, PV.int.injEq, List.length_cons, List.length_nil])
/-! ### the order of dates -/
def dcode (d : Date) : Int := d.1 * 10000 + d.2.1 * 100 + d.2.2
theorem dcode_bd {d : Date} (h : isDate d) : 0 ≤ dcode d ∧ dcode d < 100000000 := by
  have hb := mlen_bd d.1 d.2.1
  obtain ⟨h1, h2, h3, h4, h5, h6⟩ := h
  unfold dcode
  omega
theorem dcode_inj {x y : Date} (hx : isDate x) (hy : isDate y) (h : dcode x = dcode y) : x = y := by
  obtain ⟨a, b, c⟩ := x
  obtain ⟨p, q, r⟩ := y
  have hb := mlen_bd a b
  have hc := mlen_bd p q
  obtain ⟨h1, h2, h3, h4, h5, h6⟩ := hx
  obtain ⟨k1, k2, k3, k4, k5, k6⟩ := hy
  unfold dcode at h
  simp only at *
  have e1 : a = p := by omega
  subst e1
  have e2 : b = q := by omega
  subst e2
  have e3 : c = r := by omega
  rw [e3]
theorem toD_dD (x : Date) : toD (dD x) = .tuple [.int x.1, .int x.2.1, .int x.2.2] := by simp only [dD, toD, toDs]
theorem alike_dD (x y : Date) : PySem.W.alike (toD (dD x)) (toD (dD y)) = true := by
  rw [toD_dD, toD_dD]
  simp [PySem.W.alike, PySem.W.alikeAll]
theorem eqv_dDt (x y : Date) : PySem.PyData.eqv (toD (dD x)) (toD (dD y)) = decide (x = y) := by
  rw [toD_dD, toD_dD]
  obtain ⟨a, b, c⟩ := x
  obtain ⟨p, q, r⟩ := y
  simp only [PySem.PyData.eqv, PySem.PyData.eqvAll, Bool.and_true]
  by_cases h1 : a = p
  · by_cases h2 : b = q
    · by_cases h3 : c = r
      · subst h1 h2 h3; simp
      · simp [h3]
    · simp [h2]
  · simp [h1]
theorem lt_dD {x y : Date} (hx : isDate x) (hy : isDate y) : ltDt (dD x) (dD y) = decide (dcode x < dcode y) := by
  unfold ltDt
  rw [toD_dD, toD_dD]
  obtain ⟨a, b, c⟩ := x
  obtain ⟨p, q, r⟩ := y
  have hb := mlen_bd a b
  have hc := mlen_bd p q
  obtain ⟨h1, h2, h3, h4, h5, h6⟩ := hx
  obtain ⟨k1, k2, k3, k4, k5, k6⟩ := hy
  simp only at *
  have al : ∀ i j : Int, PySem.W.alike (.int i) (.int j) = true := fun i j => by simp [PySem.W.alike]
  have eq : ∀ i j : Int, PySem.PyData.eqv (.int i) (.int j) = decide (i = j) := fun i j => by
    simp only [PySem.PyData.eqv]
    by_cases h : i = j
    · subst h; simp
    · simp [h]
  have nil : PyProof.Rows.lexLt PyProof.Rows.itemOrd (PySem.W.keyToksAll []) (PySem.W.keyToksAll []) = false := PySem.W.dataLt_self (.tuple [])
  rw [PySem.W.dataLt_tuple, PySem.W.dataLt_cons (al _ _), PySem.W.dataLt_cons (al _ _), PySem.W.dataLt_cons (al _ _), eq, eq, eq, PySem.W.dataLt_int, PySem.W.dataLt_int, PySem.W.dataLt_int, nil]
  unfold dcode
  simp only
  by_cases e1 : a = p
  · subst e1
    by_cases e2 : b = q
    · subst e2
      by_cases e3 : c = r
      · subst e3; simp
      · simp only [decide_true, if_true, decide_eq_true_eq, e3, if_false]
        by_cases h : c < r
        · rw [decide_eq_true h, decide_eq_true (by omega)]
        · rw [decide_eq_false h, decide_eq_false (by omega)]
    · simp only [decide_true, if_true, decide_eq_true_eq, e2, if_false]
      by_cases h : b < q
      · rw [decide_eq_true h, decide_eq_true (by omega)]
      · rw [decide_eq_false h, decide_eq_false (by omega)]
  · simp only [decide_eq_true_eq, e1, if_false]
    by_cases h : a < p
    · rw [decide_eq_true h, decide_eq_true (by omega)]
    · rw [decide_eq_false h, decide_eq_false (by omega)]
/-! ### pairs of dates, the second first -/
abbrev Pr2 := Date × Date
def isPr (p : Pr2) : Prop := isDate p.1 ∧ isDate p.2
def prV (p : Pr2) : PV := .tup [dV p.1, dV p.2]
def prD (p : Pr2) : Dt := .tup [dD p.1, dD p.2]
def pcode (p : Pr2) : Int := dcode p.1 * 100000000 + dcode p.2
theorem toD_prD (p : Pr2) : toD (prD p) = .tuple [toD (dD p.1), toD (dD p.2)] := by
  unfold prD
  simp only [toD, toDs]
theorem lt_prD {p q : Pr2} (hp : isPr p) (hq : isPr q) : ltDt (prD p) (prD q) = decide (pcode p < pcode q) := by
  unfold ltDt
  rw [toD_prD, toD_prD, PySem.W.dataLt_pair (alike_dD _ _) (alike_dD _ _), eqv_dDt, eqv_dDt]
  show (if decide (p.1 = q.1) = true then (if decide (p.2 = q.2) = true then false else ltDt (dD p.2) (dD q.2)) else ltDt (dD p.1) (dD q.1)) = _
  rw [lt_dD hp.1 hq.1, lt_dD hp.2 hq.2]
  have b1 := dcode_bd hp.1
  have b2 := dcode_bd hp.2
  have b3 := dcode_bd hq.1
  have b4 := dcode_bd hq.2
  unfold pcode
  by_cases e1 : p.1 = q.1
  · rw [if_pos (decide_eq_true e1), e1]
    by_cases e2 : p.2 = q.2
    · rw [if_pos (decide_eq_true e2), e2]; simp
    · rw [if_neg (by simpa using e2)]
      by_cases h : dcode p.2 < dcode q.2
      · rw [decide_eq_true h, decide_eq_true (by omega)]
      · rw [decide_eq_false h, decide_eq_false (by omega)]
  · rw [if_neg (by simpa using e1)]
    have hne : dcode p.1 ≠ dcode q.1 := fun z => e1 (dcode_inj hp.1 hq.1 z)
    by_cases h : dcode p.1 < dcode q.1
    · rw [decide_eq_true h, decide_eq_true (by omega)]
    · rw [decide_eq_false h, decide_eq_false (by omega)]
def minP (p : Pr2) (r : List Pr2) : Pr2 := r.foldl (fun a y => if pcode y < pcode a then y else a) p
theorem minP_spec : ∀ (r : List Pr2) (p : Pr2), minP p r ∈ p :: r ∧ ∀ q ∈ p :: r, pcode (minP p r) ≤ pcode q
  | [], p => ⟨List.mem_cons_self .., fun q hq => by rw [List.mem_singleton.mp hq]; exact Int.le_refl _⟩
  | y :: r, p => by
    have e : minP p (y :: r) = minP (if pcode y < pcode p then y else p) r := rfl
    rw [e]
    obtain ⟨h1, h2⟩ := minP_spec r (if pcode y < pcode p then y else p)
    constructor
    · rcases List.mem_cons.mp h1 with h | h
      · rw [h]
        split
        · simp
        · simp
      · simp [h]
    · intro q hq
      have hh := h2 _ (List.mem_cons_self ..)
      rcases List.mem_cons.mp hq with rfl | hq
      · refine Int.le_trans hh ?_
        split <;> omega
      · rcases List.mem_cons.mp hq with rfl | hq
        · refine Int.le_trans hh ?_
          split <;> omega
        · exact h2 q (List.mem_cons_of_mem _ hq)
theorem minDt_pr : ∀ (r : List Pr2) (p : Pr2), (∀ q ∈ p :: r, isPr q) → minDt (prD p) (r.map prD) = prD (minP p r)
  | [], _, _ => rfl
  | y :: r, p, h => by
    have hp := h p (List.mem_cons_self ..)
    have hy := h y (List.mem_cons_of_mem _ (List.mem_cons_self ..))
    have e1 : minDt (prD p) ((y :: r).map prD) = minDt (if ltDt (prD y) (prD p) then prD y else prD p) (r.map prD) := rfl
    have e2 : minP p (y :: r) = minP (if pcode y < pcode p then y else p) r := rfl
    rw [e1, e2, lt_prD hy hp]
    by_cases hc : pcode y < pcode p
    · rw [if_pos (decide_eq_true hc), if_pos hc]
      exact minDt_pr r y fun q hq => h q (by rcases List.mem_cons.mp hq with rfl | hq <;> simp [*])
    · rw [if_neg (by simpa using hc), if_neg hc]
      exact minDt_pr r p fun q hq => h q (by rcases List.mem_cons.mp hq with rfl | hq <;> simp [*])
theorem dD_inj {x y : Date} (h : dD x = dD y) : x = y := by
  obtain ⟨a, b, c⟩ := x
  obtain ⟨p, q, r⟩ := y
  unfold dD at h
  simp only [Dt.tup.injEq, List.cons.injEq, Dt.int.injEq, and_true] at h
  rw [h.1, h.2.1, h.2.2]
theorem prD_inj {p q : Pr2} (h : prD p = prD q) : p = q := by
  obtain ⟨a, b⟩ := p
  obtain ⟨c, d⟩ := q
  unfold prD at h
  simp only [Dt.tup.injEq, List.cons.injEq, and_true] at h
  rw [dD_inj h.1, dD_inj h.2]
/-! ### the first clash -/
def clashG (w : Date → Txt) : List Date → List Date → Option (Date × Date)
  | _, [] => none
  | pre, d :: r => match pre.find? fun x => decide (w x = w d) with
    | some x => some (x, d)
    | none => clashG w (pre ++ [d]) r
def clashT (w : Date → Txt) (ds : List Date) : Option (Date × Date) := clashG w [] ds
theorem clashG_snoc (w : Date → Txt) (d : Date) : ∀ (l pre : List Date), clashG w pre (l ++ [d]) = (clashG w pre l).or (((pre ++ l).find? fun x => decide (w x = w d)).map fun x => (x, d))
  | [], pre => by
    rw [List.append_nil]
    show (match pre.find? fun x => decide (w x = w d) with
      | some x => some (x, d)
      | none => clashG w (pre ++ [d]) []) = _
    cases pre.find? fun x => decide (w x = w d) <;> rfl
  | y :: l, pre => by
    show (match pre.find? fun x => decide (w x = w y) with
      | some x => some (x, y)
      | none => clashG w (pre ++ [y]) (l ++ [d])) = (match pre.find? fun x => decide (w x = w y) with
      | some x => some (x, y)
      | none => clashG w (pre ++ [y]) l).or _
    cases pre.find? fun x => decide (w x = w y) with
    | some x => rfl
    | none =>
      simp only
      rw [clashG_snoc w d l (pre ++ [y]), List.append_assoc]
      rfl
theorem clashT_snoc (w : Date → Txt) (l : List Date) (d : Date) : clashT w (l ++ [d]) = (clashT w l).or ((l.find? fun x => decide (w x = w d)).map fun x => (x, d)) := clashG_snoc w d l []
theorem find_none {w : Date → Txt} {l : List Date} {t : Txt} (h : l.find? (fun x => decide (w x = t)) = none) : t ∉ l.map w := by
  intro hm
  obtain ⟨x, hx, rfl⟩ := List.mem_map.mp hm
  have := List.find?_eq_none.mp h x hx
  simp at this
theorem nodup_snoc {w : Date → Txt} {l : List Date} {d : Date} (h : (l.map w).Nodup) (hn : w d ∉ l.map w) : ((l ++ [d]).map w).Nodup := by
  rw [List.map_append, List.nodup_append]
  refine ⟨h, by simp, ?_⟩
  intro x hx y hy e
  have : y = w d := by simpa using hy
  subst this
  exact hn (e ▸ hx)
theorem clashG_some {w : Date → Txt} {x y : Date} : ∀ (l pre : List Date), (pre.map w).Nodup → clashG w pre l = some (x, y) → ∃ l1 l2, l = l1 ++ y :: l2 ∧ ((pre ++ l1).map w).Nodup ∧ (pre ++ l1).find? (fun z => decide (w z = w y)) = some x
  | [], _, _, h => by cases h
  | d :: r, pre, hn, h => by
    unfold clashG at h
    cases e : pre.find? fun z => decide (w z = w d) with
    | some z =>
      rw [e] at h
      cases h
      exact ⟨[], r, rfl, by rwa [List.append_nil], by rwa [List.append_nil]⟩
    | none =>
      rw [e] at h
      obtain ⟨l1, l2, h1, h2, h3⟩ := clashG_some r (pre ++ [d]) (nodup_snoc hn (find_none e)) h
      exact ⟨d :: l1, l2, by rw [h1]; rfl, by rw [List.append_assoc] at h2; exact h2, by rw [List.append_assoc] at h3; exact h3⟩
theorem clashG_none {w : Date → Txt} : ∀ (l pre : List Date), (pre.map w).Nodup → clashG w pre l = none → ((pre ++ l).map w).Nodup
  | [], pre, hn, _ => by rwa [List.append_nil]
  | d :: r, pre, hn, h => by
    unfold clashG at h
    cases e : pre.find? fun z => decide (w z = w d) with
    | some z => rw [e] at h; cases h
    | none =>
      rw [e] at h
      have := clashG_none r (pre ++ [d]) (nodup_snoc hn (find_none e)) h
      rwa [List.append_assoc] at this
/-- the second and the first of a group -/
def sec : List Date → Option Pr2
  | x :: y :: _ => some (y, x)
  | _ => none
def pairsT (w : Date → Txt) (ds : List Date) : List Pr2 := (keysOf (ds.map w)).filterMap fun k => sec (ds.filter fun d => decide (w d = k))
theorem filt_nodup {w : Date → Txt} {k : Txt} : ∀ {l : List Date}, (l.map w).Nodup → (l.filter fun d => decide (w d = k)).length ≤ 1
  | [], _ => Nat.zero_le _
  | d :: r, h => by
    rw [List.map_cons, List.nodup_cons] at h
    by_cases e : w d = k
    · have : r.filter (fun d => decide (w d = k)) = [] := filt_nil fun x hx z => h.1 (List.mem_map.mpr ⟨x, hx, by rw [z, e]⟩)
      rw [List.filter_cons_of_pos (by simpa using e), this]
      exact Nat.le_refl _
    · rw [List.filter_cons_of_neg (by simpa using e)]
      exact filt_nodup h.2
theorem filt_find {w : Date → Txt} {k : Txt} {x : Date} : ∀ {l : List Date}, (l.map w).Nodup → l.find? (fun d => decide (w d = k)) = some x → l.filter (fun d => decide (w d = k)) = [x]
  | [], _, h => by cases h
  | d :: r, hn, h => by
    rw [List.map_cons, List.nodup_cons] at hn
    by_cases e : w d = k
    · rw [List.find?_cons_of_pos (by simpa using e)] at h
      cases h
      have : r.filter (fun d => decide (w d = k)) = [] := filt_nil fun z hz q => hn.1 (List.mem_map.mpr ⟨z, hz, by rw [q, e]⟩)
      rw [List.filter_cons_of_pos (by simpa using e), this]
    · rw [List.find?_cons_of_neg (by simpa using e)] at h
      rw [List.filter_cons_of_neg (by simpa using e)]
      exact filt_find hn.2 h
theorem pairs_none {w : Date → Txt} {ds : List Date} (h : clashT w ds = none) : pairsT w ds = [] := by
  have hn := clashG_none ds [] List.nodup_nil h
  unfold pairsT
  rw [List.filterMap_eq_nil_iff]
  intro k hk
  have := filt_nodup (w := w) (k := k) hn
  rw [List.nil_append] at this
  unfold sec
  split
  · rename_i x y r e
    rw [e] at this
    simp at this
  · rfl
theorem sec_mem {l : List Date} {y x : Date} (h : sec l = some (y, x)) : ∃ r, l = x :: y :: r := by
  unfold sec at h
  split at h
  · cases h; exact ⟨_, rfl⟩
  · cases h
theorem pairs_some {w : Date → Txt} {ds : List Date} {x y : Date} (hs : ds.Pairwise fun a b => dcode a < dcode b) (h : clashT w ds = some (x, y)) : (y, x) ∈ pairsT w ds ∧ ∀ p ∈ pairsT w ds, dcode y ≤ dcode p.1 ∧ (p.1 = y → p.2 = x) := by
  obtain ⟨l1, l2, h1, h2, h3⟩ := clashG_some ds [] List.nodup_nil h
  rw [List.nil_append] at h2 h3
  have e1 := filt_find h2 h3
  have e2 : ds.filter (fun d => decide (w d = w y)) = x :: y :: l2.filter (fun d => decide (w d = w y)) := by
    rw [h1, List.filter_append, e1, List.filter_cons_of_pos (by simp)]
    rfl
  refine ⟨?_, ?_⟩
  · unfold pairsT
    rw [List.mem_filterMap]
    refine ⟨w y, (mem_keys _ _).mpr (List.mem_map.mpr ⟨y, by rw [h1]; simp, rfl⟩), ?_⟩
    rw [e2]
    rfl
  · rintro ⟨y', x'⟩ hp
    unfold pairsT at hp
    obtain ⟨k, hk, hsec⟩ := List.mem_filterMap.mp hp
    obtain ⟨r, hr⟩ := sec_mem hsec
    have hy' : y' ∈ ds.filter (fun d => decide (w d = k)) := by rw [hr]; simp
    have hyk : w y' = k := by simpa using (List.mem_filter.mp hy').2
    constructor
    · have hl := filt_nodup (w := w) (k := k) h2
      rw [h1, List.filter_append] at hr
      have hin : y' ∈ (y :: l2).filter (fun d => decide (w d = k)) := by
        cases hc : l1.filter (fun d => decide (w d = k)) with
        | nil => rw [hc, List.nil_append] at hr; rw [hr]; simp
        | cons z zs =>
          rw [hc] at hl hr
          have : zs = [] := by
            cases zs with
            | nil => rfl
            | cons _ _ => simp at hl
          rw [this] at hr
          have := List.cons.inj hr
          have h5 : (y :: l2).filter (fun d => decide (w d = k)) = y' :: r := this.2
          rw [h5]; simp
      have hm := (List.mem_filter.mp hin).1
      rw [h1, List.pairwise_append] at hs
      rcases List.mem_cons.mp hm with e | hm
      · rw [e]; exact Int.le_refl _
      · exact Int.le_of_lt ((List.pairwise_cons.mp hs.2.1).1 y' hm)
    · intro e
      simp only at e
      subst e
      rw [← hyk, e2] at hr
      exact (List.cons.inj hr).1.symm
theorem pairs_min {w : Date → Txt} {ds : List Date} {p : Pr2} {r : List Pr2} (hd : ∀ d ∈ ds, isDate d) (hs : ds.Pairwise fun a b => dcode a < dcode b) (h : pairsT w ds = p :: r) : clashT w ds = some ((minP p r).2, (minP p r).1) := by
  cases hc : clashT w ds with
  | none => rw [pairs_none hc] at h; cases h
  | some xy =>
    obtain ⟨x, y⟩ := xy
    obtain ⟨h1, h2⟩ := pairs_some hs hc
    rw [h] at h1 h2
    obtain ⟨m1, m2⟩ := minP_spec r p
    obtain ⟨k1, k2⟩ := h2 _ m1
    have k3 := m2 _ h1
    have hin : ∀ q ∈ pairsT w ds, isPr q := by
      intro q hq
      unfold pairsT at hq
      obtain ⟨k, hk, hsec⟩ := List.mem_filterMap.mp hq
      obtain ⟨rr, hr⟩ := sec_mem (y := q.1) (x := q.2) hsec
      have f1 : q.1 ∈ ds.filter (fun d => decide (w d = k)) := by rw [hr]; simp
      have f2 : q.2 ∈ ds.filter (fun d => decide (w d = k)) := by rw [hr]; simp
      exact ⟨hd _ (List.mem_filter.mp f1).1, hd _ (List.mem_filter.mp f2).1⟩
    rw [h] at hin
    have b1 := hin _ m1
    have b2 := hin _ h1
    have c1 := dcode_bd b1.2
    have c2 : 0 ≤ dcode x ∧ dcode x < 100000000 := dcode_bd b2.2
    unfold pcode at k3
    simp only at k3
    have : dcode (minP p r).1 = dcode y := by omega
    have e := dcode_inj b1.1 b2.1 this
    rw [k2 e, e]
end PyI
set_option autoImplicit false
set_option linter.all false
set_option Elab.async false
set_option maxRecDepth 100000
set_option maxHeartbeats 4000000
namespace PyI
local macro_rules | `(tactic| walk_at "wp") => `(tactic| simp only [e_var, e_glb, e_int, e_str, e_bl, e_non, e_bin, e_cmp, e_chain, e_neg, e_and, e_or, e_not, e_ite, e_tup, e_lst, e_dic0, e_sub, e_slice, wo_nil, wo_int, wo_var, wo_bin, wo_neg, wo_blt, wo_call, wo_sub, e_lrg, e_lng, e_rev, e_call, e_blt, e_meth, e_comp, e_fld, e_newc, e_mcl, e_lenc, e_orv, e_selc, a_nil, a_cons,
  s_pass, s_seq, s_nm, s_tp, s_par, s_aug, s_setsub, s_augsub, s_ex, s_ret, s_retn, s_ite, s_whl, s_for, s_brk, s_cnt, s_rse, s_tri, s_setfld,
  b_add, b_adds, b_addr, b_addt, b_sub, b_mul, b_mulr, b_muls, b_mult, b_div, b_mod, b_pow, c_eq, c_eqs, c_eqr, c_eqt, c_eqn, c_ne, c_nes, c_ner, c_net, c_nen, c_lt, c_le, c_gt, c_ge, c_ltt, c_let, c_gtt, c_get, c_lts, c_les, c_gts, c_ges, c_isbb, c_isnn, c_isbn, c_isin, c_issn, c_istn, c_isrn, c_nsbb, c_nsnn, c_nsbn, c_nsin, c_nssn, c_nstn, c_nsrn,
  c_int, c_ins, c_inr, c_nit, c_nis, c_nir, n_int, i_tup, i_str, i_ref, i_dic, k_str, k_tup, k_ref, v_ref, v_tup, l_minD, l_maxD, l_min, l_max, z_vals, z_keys, z_enmt, z_zip3, l_lens, l_lent, l_lenr, l_str, l_int, l_dictP, l_isSeq_t, l_isSeq_r, l_isTup_r, l_isTup_i, l_tuplet, l_tupler, l_listt, l_listr, l_sum, l_all, l_any, l_isInt_i, l_isBool_i, l_isStr_s, l_isTup_t,
  m_starts, m_ins, m_split, m_part, m_popAt, y_popAt, y_ins, y_starts, y_split, y_part, m_app, m_ext, m_pop, m_join, m_alpha, m_sidx, m_get, m_setd, y_app, y_ext, y_pop, y_get, y_setd, y_str, y_alpha, y_sidx, t_bl, o_int, z_tup, z_ref, z_str, z_rng1, z_rng2, z_rng3, z_enm, z_zipt, z_zipr, w_ri, w_rs,
  at_0, at_1, at_2, at_3, gv_0, gv_s, sa_0, sa_s, st_nm, st_tp, wi_0, wi_s, st_0, st_s, st_n, wpB, List.set_cons_zero, List.set_cons_succ, Option.some.injEq, exists_eq_left', true_and, Bool.not_true, Bool.not_false, if_true, if_false, Bool.false_eq_true, exists_const, PV.ref.injEq, PV.str.injEq, PV.int.injEq, List.length_cons, List.length_nil])
theorem irange_sorted (a b : Int) : (irange a b).Pairwise (· < ·) := by
  unfold irange
  rw [List.pairwise_map]
  refine List.Pairwise.imp (R := (· < ·)) ?_ List.pairwise_lt_range
  intro x y h
  omega
theorem datesIn_sorted {a b : Int} (h : isSpan a b) : (datesIn a b).Pairwise fun x y => dcode x < dcode y := by
  unfold datesIn datesY
  rw [List.pairwise_flatMap]
  refine ⟨fun y _ => ?_, ?_⟩
  · rw [List.pairwise_flatMap]
    refine ⟨fun m _ => ?_, ?_⟩
    · rw [List.pairwise_map]
      refine (irange_sorted _ _).imp ?_
      intro c d h
      unfold dcode
      simp only
      omega
    · refine (irange_sorted _ _).imp ?_
      intro m k hmk x hx z hz
      obtain ⟨c, hc, rfl⟩ := List.mem_map.mp hx
      obtain ⟨d, hd, rfl⟩ := List.mem_map.mp hz
      have hc := irange_mem.mp hc
      have hd := irange_mem.mp hd
      have := mlen_bd y m
      unfold dcode
      simp only
      omega
  · refine (irange_sorted _ _).imp ?_
    intro y z hyz u hu v hv
    obtain ⟨m, hm, hu⟩ := List.mem_flatMap.mp hu
    obtain ⟨k, hk, hv⟩ := List.mem_flatMap.mp hv
    obtain ⟨c, hc, rfl⟩ := List.mem_map.mp hu
    obtain ⟨d, hd, rfl⟩ := List.mem_map.mp hv
    have hm := irange_mem.mp hm
    have hk := irange_mem.mp hk
    have hc := irange_mem.mp hc
    have hd := irange_mem.mp hd
    have := mlen_bd y m
    have := mlen_bd z k
    unfold dcode
    simp only
    omega
def ct_clash_of : Ct := fun vs S Q _ => ∃ (ps : List Txt) (a b : Int), vs = [strV ps, .tup [.int a, .int b]] ∧ isSpan a b ∧ smallT ps ∧ ∀ S', Ext S S' → Q (pairV (clashT (writtenT ps) (datesIn a b))) S'
def ct_clash : Ct := fun vs S Q _ => ∃ (ps : List Txt) (a b : Int), vs = [strV ps, .tup [.int a, .int b]] ∧ isSpan a b ∧ goodPat ps ∧ ∀ S', Ext S S' → Q (pairV (clashT (writtenT ps) (datesIn a b))) S'
/-- a list of dates at r, as the store has it -/
def grpOf (S : Store) (v : PV) : List PV := match v with
  | .ref r => (getL S r).getD []
  | _ => []
/-- at least two -/
def two (l : List PV) : Bool := decide (1 < l.length)
def grpF (S : Store) (v : PV) : PV := match grpOf S v with
  | x :: y :: _ => .tup [y, x]
  | _ => .non
theorem pairs_vals {w : Date → Txt} {S : Store} {ds : List Date} : ∀ {rs : List (Txt × Nat)}, (∀ r ∈ rs, S[r.2]? = some (.lst ((ds.filter fun d => decide (w d = r.1)).map dV))) →
    ((rs.map fun r => PV.ref r.2).filter fun v => two (grpOf S v)).map (grpF S) = ((rs.map (·.1)).filterMap fun k => sec (ds.filter fun d => decide (w d = k))).map prV
  | [], _ => rfl
  | r :: rs, h => by
    have ih := pairs_vals (rs := rs) fun q hq => h q (List.mem_cons_of_mem _ hq)
    have h0 := h r (List.mem_cons_self ..)
    have hg : grpOf S (.ref r.2) = (ds.filter fun d => decide (w d = r.1)).map dV := by
      unfold grpOf
      simp only
      rw [getL_lst h0]
      rfl
    rw [List.map_cons, List.map_cons, List.filterMap_cons, List.filter_cons]
    cases hc : ds.filter fun d => decide (w d = r.1) with
    | nil =>
      rw [hc] at hg
      rw [hg]
      rw [if_neg (show ¬ two (List.map dV []) = true from Bool.false_ne_true)]
      exact ih
    | cons x t =>
      cases t with
      | nil =>
        rw [hc] at hg
        rw [hg]
        rw [if_neg (show ¬ two (List.map dV [x]) = true from Bool.false_ne_true)]
        exact ih
      | cons y t =>
        rw [hc] at hg
        have hl : two (grpOf S (.ref r.2)) = true := by rw [hg]; simp [two]
        rw [if_pos hl, List.map_cons]
        have e : grpF S (.ref r.2) = prV (y, x) := by
          unfold grpF
          rw [hg]
          rfl
        rw [e, ih]
        rfl
theorem dn_prs {S : Store} {k : Nat} : ∀ l : List Pr2, DnL S (k + 2) (l.map prV) (l.map prD)
  | [] => .nil
  | p :: r => .cons (.tup (.cons (dn_date p.1) (.cons (dn_date p.2) .nil))) (dn_prs r)
theorem alike_prs (l : List Pr2) : alikeDt (l.map prD) := by
  intro x hx
  obtain ⟨p, hp, rfl⟩ := List.mem_map.mp hx
  refine ⟨fun y hy => ?_, fun e => by cases e⟩
  obtain ⟨q, hq, rfl⟩ := List.mem_map.mp hy
  rw [toD_prD, toD_prD]
  simp only [PySem.W.alike, PySem.W.alikeAll, alike_dD, Bool.and_self]
theorem pairs_valid {w : Date → Txt} {ds : List Date} (hd : ∀ d ∈ ds, isDate d) : ∀ q ∈ pairsT w ds, isPr q := by
  intro q hq
  unfold pairsT at hq
  obtain ⟨k, hk, hsec⟩ := List.mem_filterMap.mp hq
  obtain ⟨rr, hr⟩ := sec_mem (y := q.1) (x := q.2) hsec
  have f1 : q.1 ∈ ds.filter (fun d => decide (w d = k)) := by rw [hr]; simp
  have f2 : q.2 ∈ ds.filter (fun d => decide (w d = k)) := by rw [hr]; simp
  exact ⟨hd _ (List.mem_filter.mp f1).1, hd _ (List.mem_filter.mp f2).1⟩
section
variable {Γ : Sig} (C : Hlp Γ)
include C
theorem p_clash (h24 : Γ.ct 24 = ct_clash_of) : ∀ vs S Q R, ct_clash vs S Q R → wpB Γ 2 b_clash vs S Q R := by
  rintro vs S Q R ⟨ps, a, b, rfl, hs, hp, q⟩
  unfold b_clash
  walk_at "wp"
  rw [C.need_pattern, C.need_span, h24]
  refine ⟨ps, rfl, hp, fun S1 e1 => ?_⟩
  walk_at "wp"
  refine ⟨a, b, hs, rfl, fun S2 e2 => ?_⟩
  walk_at "wp"
  exact ⟨ps, a, b, rfl, hs, hp.1, fun S3 e3 => q S3 ((e1.trans e2).trans e3)⟩
theorem p_clash_of : ∀ vs S Q R, ct_clash_of vs S Q R → wpB Γ 4 b_clash_of vs S Q R := by
  rintro vs S Q R ⟨ps, a, b, rfl, hs, hp, q⟩
  unfold b_clash_of
  walk_at "wp"
  rw [C.table]
  refine ⟨ps, a, b, rfl, hs, hp, fun S1 n e1 ht => ?_⟩
  obtain ⟨rs, h1, h2, h3, h4, h5, h6⟩ := ht
  walk_at "wp"
  refine ⟨_, h1, ?_⟩
  have hlen := datesIn_len hs
  have hds := fun d hd => (datesIn_date hs (d := d) hd).1
  have hn := (List.getElem?_eq_some_iff.mp h1).1
  have e2 : Ext S (S1.set n (.ldc (rs.map fun r => (r.1, PV.ref r.2)))) := e1.set h2
  generalize hS2 : S1.set n (.ldc (rs.map fun r => (r.1, PV.ref r.2))) = S2 at e2 ⊢
  have h6' : ∀ r ∈ rs, S2[r.2]? = some (.lst (((datesIn a b).filter fun d => decide (writtenT ps d = r.1)).map dV)) := by
    intro r hr
    have hne : n ≠ r.2 := fun e => h5 (e ▸ List.mem_map.mpr ⟨r, hr, rfl⟩)
    rw [← hS2, List.getElem?_set_ne hne]
    exact (h6 r hr).2
  have hrl : rs.length ≤ 4464 := by
    have := congrArg List.length h3
    rw [List.length_map] at this
    have h7 := keys_len ((datesIn a b).map (writtenT ps))
    rw [List.length_map] at h7
    omega
  have ei : ((rs.map fun r => (r.1, PV.ref r.2)).map (·.2)) = rs.map fun r => PV.ref r.2 := by rw [List.map_map]; rfl
  rw [ei]
  refine comp_if (fun v => two (grpOf S2 v)) (grpF S2) rfl (fun _ _ => trivial) (by rw [List.length_map]; unfold big; omega) (fun x S' hx e => ?_) fun S3 e3 g3 => ?_
  · obtain ⟨r, hr, rfl⟩ := List.mem_map.mp hx
    have g0 := h6' r hr
    have hg : grpOf S2 (.ref r.2) = ((datesIn a b).filter fun d => decide (writtenT ps d = r.1)).map dV := by
      unfold grpOf
      simp only
      rw [getL_lst g0]
      rfl
    refine ⟨_, rfl, fun Q1 q1 => ?_, fun S4 e4 hgt Q1 q1 => ?_⟩
    · walk_at "wp"
      refine Or.inl ⟨_, getL_lst (e _ _ g0), ?_⟩
      have := q1 S' Ext.refl
      rw [hg] at this
      have e5 : decide ((1 : Int) < ((((datesIn a b).filter fun d => decide (writtenT ps d = r.1)).map dV).length : Int)) = two (((datesIn a b).filter fun d => decide (writtenT ps d = r.1)).map dV) := by
        unfold two
        by_cases h : 1 < (((datesIn a b).filter fun d => decide (writtenT ps d = r.1)).map dV).length
        · rw [decide_eq_true h, decide_eq_true (by omega)]
        · rw [decide_eq_false h, decide_eq_false (by omega)]
      rw [e5]
      exact this
    · unfold grpF at q1
      rw [hg] at hgt q1
      cases hc : (datesIn a b).filter fun d => decide (writtenT ps d = r.1) with
      | nil => rw [hc] at hgt; exact absurd hgt Bool.false_ne_true
      | cons x t =>
        cases t with
        | nil => rw [hc] at hgt; exact absurd hgt Bool.false_ne_true
        | cons y t =>
          rw [hc] at q1 g0
          walk_at "wp"
          refine ⟨_, _, getL_lst ((e.trans e4) _ _ g0), rfl, ?_⟩
          refine ⟨_, _, getL_lst ((e.trans e4) _ _ g0), rfl, ?_⟩
          exact q1 _ Ext.refl
  · have hpv := pairs_vals h6'
    rw [h3] at hpv
    have hpv : ((rs.map fun r => PV.ref r.2).filter fun v => two (grpOf S2 v)).map (grpF S2) = (pairsT (writtenT ps) (datesIn a b)).map prV := hpv
    have g3 : S3[S2.length]? = some (.lst ((pairsT (writtenT ps) (datesIn a b)).map prV)) := by rw [← hpv]; exact g3
    have eF := e2.trans e3
    walk_at "wp"
    refine ⟨_, _, .lst (getL_lst (Ext.new _ _ g3)) (dn_prs (k := 57) _), dn_nil (getL_lst new_at), ?_⟩
    rw [eqv_nil]
    cases hp2 : pairsT (writtenT ps) (datesIn a b) with
    | nil =>
      rw [if_neg (by decide)]
      have hq := q (S3 ++ [PO.lst []]) (eF.trans Ext.new)
      cases hc : clashT (writtenT ps) (datesIn a b) with
      | none => rw [hc] at hq; exact hq
      | some xy =>
        have := (pairs_some (datesIn_sorted hs) (x := xy.1) (y := xy.2) hc).1
        rw [hp2] at this
        cases this
    | cons p r =>
      rw [if_pos (by simp)]
      have hq := q (S3 ++ [PO.lst []]) (eF.trans Ext.new)
      rw [pairs_min hds (datesIn_sorted hs) hp2] at hq
      have hv := pairs_valid (w := writtenT ps) hds
      rw [hp2] at g3 hv
      refine ⟨_, prD p, r.map prD, getL_lst (Ext.new _ _ g3), dn_prs (k := 48) (p :: r), alike_prs (p :: r), fun i v hv1 hv2 => ?_⟩
      rw [minDt_pr r p hv] at hv2
      rw [List.getElem?_map] at hv1
      obtain ⟨z, hz, rfl⟩ := Option.map_eq_some_iff.mp hv1
      have hz2 : ((p :: r).map prD)[i]? = some (prD z) := by rw [List.getElem?_map, hz]; rfl
      have : (prD p :: r.map prD)[i]? = some (prD z) := hz2
      rw [this] at hv2
      have e := prD_inj (Option.some.inj hv2)
      rw [e]
      unfold prV
      walk_at "wp"
      exact hq
end
end PyI
set_option autoImplicit false
set_option linter.all false
set_option Elab.async false
set_option maxRecDepth 100000
set_option maxHeartbeats 4000000
namespace PyI
local macro_rules | `(tactic| walk_at "wp") => `(tactic| simp only [e_var, e_glb, e_int, e_str, e_bl, e_non, e_bin, e_cmp, e_chain, e_neg, e_and, e_or, e_not, e_ite, e_tup, e_lst, e_dic0, e_sub, e_slice, wo_nil, wo_int, wo_var, wo_bin, wo_neg, wo_blt, wo_call, wo_sub, e_lrg, e_lng, e_rev, e_call, e_blt, e_meth, e_comp, e_fld, e_newc, e_mcl, e_lenc, e_orv, e_selc, a_nil, a_cons,
  s_pass, s_seq, s_nm, s_tp, s_par, s_aug, s_setsub, s_augsub, s_ex, s_ret, s_retn, s_ite, s_whl, s_for, s_brk, s_cnt, s_rse, s_tri, s_setfld,
  b_add, b_adds, b_addr, b_addt, b_sub, b_mul, b_mulr, b_muls, b_mult, b_div, b_mod, b_pow, c_eq, c_eqs, c_eqr, c_eqt, c_eqn, c_ne, c_nes, c_ner, c_net, c_nen, c_lt, c_le, c_gt, c_ge, c_ltt, c_let, c_gtt, c_get, c_lts, c_les, c_gts, c_ges, c_isbb, c_isnn, c_isbn, c_isin, c_issn, c_istn, c_isrn, c_nsbb, c_nsnn, c_nsbn, c_nsin, c_nssn, c_nstn, c_nsrn,
  c_int, c_ins, c_inr, c_nit, c_nis, c_nir, n_int, i_tup, i_str, i_ref, i_dic, k_str, k_tup, k_ref, v_ref, v_tup, l_minD, l_maxD, l_min, l_max, z_vals, z_keys, z_enmt, z_zip3, l_lens, l_lent, l_lenr, l_str, l_int, l_dictP, l_isSeq_t, l_isSeq_r, l_isTup_r, l_isTup_i, l_tuplet, l_tupler, l_listt, l_listr, l_sum, l_all, l_any, l_isInt_i, l_isBool_i, l_isStr_s, l_isTup_t,
  m_starts, m_ins, m_split, m_part, m_popAt, y_popAt, y_ins, y_starts, y_split, y_part, m_app, m_ext, m_pop, m_join, m_alpha, m_sidx, m_get, m_setd, y_app, y_ext, y_pop, y_get, y_setd, y_str, y_alpha, y_sidx, t_bl, o_int, z_tup, z_ref, z_str, z_rng1, z_rng2, z_rng3, z_enm, z_zipt, z_zipr, w_ri, w_rs,
  at_0, at_1, at_2, at_3, gv_0, gv_s, sa_0, sa_s, st_nm, st_tp, wi_0, wi_s, st_0, st_s, st_n, wpB, List.set_cons_zero, List.set_cons_succ, Option.some.injEq, exists_eq_left', true_and, Bool.not_true, Bool.not_false, if_true, if_false, Bool.false_eq_true, exists_const, PV.ref.injEq, PV.str.injEq, PV.int.injEq, List.length_cons, List.length_nil])
theorem adjB_map : ∀ {ps qs : List Txt}, ps.map isFld = qs.map isFld → adjB ps = adjB qs
  | [], [], _ => rfl
  | [x], [y], _ => rfl
  | [], _ :: _, h => by simp at h
  | _ :: _, [], h => by simp at h
  | [_], _ :: _ :: _, h => by simp at h
  | _ :: _ :: _, [_], h => by simp at h
  | x :: x2 :: r, y :: y2 :: s, h => by
    simp only [List.map_cons, List.cons.injEq] at h
    rw [adjB_cons, adjB_cons, h.1, h.2.1, adjB_map (ps := x2 :: r) (qs := y2 :: s) (by simp [h.2.1, h.2.2])]
theorem okFld {p : Txt} (h : isFld p = true) : okPart p := Or.inl (of_decide_eq_true h)
theorem good_adj {ps : List Txt} (h : goodPat ps) : adjB ps = true := by
  have := h.2
  unfold patB at this
  exact (Bool.and_eq_true_iff.mp (Bool.and_eq_true_iff.mp this).2).2
/-- [part if not part.isalpha() else fields.pop() for part in pattern] -/
theorem comp_pop {Γ : Sig} {ρ : Env} {S4 : Store} {Q : PQ} {i j n tw sc : Nat} {S : Store} {ps fl : List Txt} (hp : goodPat ps) (hok : ∀ p ∈ ps, okPart p)
    (h1 : ∀ v, getv ((wipeP ρ [i]).set i (some v)) i = some v) (h2 : ∀ v, getv ((wipeP ρ [i]).set i (some v)) j = some (.ref n)) (e0 : Onl tw S S4) (t0 : TW S4 sc tw) (htw : n ≠ tw) (hsc : n ≠ sc) (hS : S.length ≤ n)
    (g4 : S4[n]? = some (.lst (fl.map PV.str))) (hl : fl.length = (ps.filter isFld).length) (hf : ∀ p ∈ fl, isFld p = true)
    (q : ∀ S' qs, Onl tw S S' → TW S' sc tw → S'[S4.length]? = some (.lst (qs.map PV.str)) → goodPat qs → (∀ p ∈ qs, okPart p) → Q (.ref S4.length) S') :
    compP Γ ρ S4 Q (.nm i) [i] .nil (.ite (.not (.meth .isalpha (.var i) .nil)) (.var i) (.meth .pop (.var j) .nil)) (ps.map PV.str) (fun _ => True) := by
  have hp7 := good_len hp
  have hn4 := (List.getElem?_eq_some_iff.mp g4).1
  have hs1 := t0.sc_lt
  have hs2 := t0.lt
  have hS4 := e0.1
  refine ⟨fun i acc S' => Onl tw S S' ∧ TW S' sc tw ∧ S4.length < S'.length ∧ S'[S4.length]? = some (.lst acc) ∧ (∃ fl : List Txt, S'[n]? = some (.lst (fl.map PV.str)) ∧ fl.length = ((ps.drop i).filter isFld).length ∧ ∀ p ∈ fl, isFld p = true) ∧
      ∃ qs : List Txt, acc = qs.map PV.str ∧ qs.map isFld = (ps.take i).map isFld ∧ ∀ p ∈ qs, okPart p, ?_, ?_, ?_, ?_⟩
  · refine ⟨e0.trans (Ext.onl Ext.new), t0.ext Ext.new, by rw [List.length_append]; simp, new_at, ⟨fl, Ext.new _ _ g4, by rw [List.drop_zero]; exact hl, hf⟩, [], rfl, rfl, by simp⟩
  · rintro k acc S' ⟨_, _, _, w, _⟩
    exact ⟨w, trivial⟩
  · rintro k x acc S' hx ⟨a1, a2, a3, a4, ⟨fl', b1, b2, b3⟩, qs, rfl, c1, c2⟩
    rw [List.getElem?_map] at hx
    cases hd : ps[k]? with
    | none => rw [hd] at hx; cases hx
    | some p =>
      rw [hd] at hx
      obtain rfl := Option.some.inj hx
      have hi := (List.getElem?_eq_some_iff.mp hd).1
      have hpi : ps[k] = p := (List.getElem?_eq_some_iff.mp hd).2
      have hpk := hok p (List.mem_of_getElem? hd)
      obtain ⟨_, _, _, hasc, _, hal⟩ := ok_part hpk
      have hdr : ps.drop k = p :: ps.drop (k + 1) := by rw [List.drop_eq_getElem_cons hi, hpi]
      have htk : ps.take (k + 1) = ps.take k ++ [p] := by rw [List.take_add_one, hd]; rfl
      have hqsl : qs.length ≤ 7 := by
        have := congrArg List.length c1
        rw [List.length_map, List.length_map, List.length_take] at this
        omega
      refine ⟨_, rfl, ?_⟩
      rw [nil_t, if_pos rfl]
      simp only [if_true, e_ite, e_not, e_meth, e_var, h1, h2, a_nil, Option.some.injEq, exists_eq_left', y_alpha, y_pop, m_alpha, m_pop, t_bl]
      refine ⟨⟨_, rfl⟩, hasc, ?_⟩
      rw [hal]
      rw [hdr] at b2
      cases hfp : isFld p with
      | false =>
        rw [if_pos (by decide)]
        rw [List.filter_cons_of_neg (by rw [hfp]; decide)] at b2
        refine ⟨a4, by rw [List.length_map]; unfold big; omega, a1.put (by omega), a2.set_ne (by omega) (by omega), by rw [List.length_set]; exact a3, ?_, ⟨fl', ?_, b2, b3⟩, qs ++ [p], by rw [List.map_append]; rfl, ?_, ?_⟩
        · rw [List.getElem?_set_self a3]
        · rw [List.getElem?_set_ne (by omega)]; exact b1
        · rw [List.map_append, c1, htk, List.map_append]
        · intro z hz
          rcases List.mem_append.mp hz with hz | hz
          · exact c2 z hz
          · rw [List.mem_singleton.mp hz]; exact hpk
      | true =>
        rw [if_neg (by decide)]
        rw [List.filter_cons_of_pos hfp, List.length_cons] at b2
        obtain ⟨fl2, z, rfl⟩ : ∃ fl2 z, fl' = fl2 ++ [z] := by
          rcases List.eq_nil_or_concat fl' with h | ⟨l, b, h⟩
          · rw [h] at b2; cases b2
          · exact ⟨l, b, by rw [h, List.concat_eq_append]⟩
        rw [List.length_append] at b2
        have hzf := b3 z (by simp)
        refine ⟨⟨_, _, rfl, getL_lst b1⟩, _, .str z, b1, ?_, ?_⟩
        · rw [List.length_map, List.length_append, List.getElem?_map]
          simp
        have hdl : ((fl2 ++ [z]).map PV.str).dropLast = fl2.map PV.str := by rw [List.map_append]; simp
        rw [hdl]
        have hn1 := (List.getElem?_eq_some_iff.mp b1).1
        refine ⟨by rw [List.getElem?_set_ne (by omega)]; exact a4, by rw [List.length_map]; unfold big; omega, (a1.put (by omega)).put (by omega), (a2.set_ne (by omega) (by omega)).set_ne (by omega) (by omega), by rw [List.length_set, List.length_set]; exact a3, ?_, ⟨fl2, ?_, by simpa using b2, fun p hp => b3 p (by simp [hp])⟩, qs ++ [z], by rw [List.map_append]; rfl, ?_, ?_⟩
        · rw [List.getElem?_set_self (by rw [List.length_set]; exact a3)]
        · rw [List.getElem?_set_ne (by omega), List.getElem?_set_self hn1]
        · rw [List.map_append, c1, htk, List.map_append]
          simp [hzf, hfp]
        · intro y hy
          rcases List.mem_append.mp hy with hy | hy
          · exact c2 y hy
          · rw [List.mem_singleton.mp hy]; exact okFld hzf
  · rintro acc S' ⟨a1, a2, a3, a4, _, qs, rfl, c1, c2⟩
    rw [List.length_map, List.take_length] at c1
    have hql : qs.length = ps.length := by simpa using congrArg List.length c1
    exact q S' qs a1 a2 a4 (good_of (by omega) (by omega) c2 (by rw [adjB_map c1]; exact good_adj hp)) c2
/-! ### dates compared -/
theorem d_ne (x y : Date) {S : Store} {Q : PQ} (q : Q (.bl (!decide (x = y))) S) : cmpop .ne (dV x) (dV y) S Q := ⟨dD x, dD y, dn_date x, dn_date y, by rw [eqv_dD]; exact q⟩
theorem d_eq (x y : Date) {S : Store} {Q : PQ} (q : Q (.bl (decide (x = y))) S) : cmpop .eq (dV x) (dV y) S Q := ⟨dD x, dD y, dn_date x, dn_date y, by rw [eqv_dD]; exact q⟩
theorem d_gt {x y : Date} {S : Store} {Q : PQ} (hx : isDate x) (hy : isDate y) (q : Q (.bl (decide (dcode y < dcode x))) S) : cmpop .gt (dV x) (dV y) S Q :=
  ⟨dD x, dD y, dn_date x, dn_date y, alike_dD x y, (fun e => by cases e), by show Q (.bl (ltDt (dD y) (dD x))) S; rw [lt_dD hy hx]; exact q⟩
theorem d_le {x y : Date} {S : Store} {Q : PQ} (hx : isDate x) (hy : isDate y) (q : Q (.bl (!decide (dcode y < dcode x))) S) : cmpop .le (dV x) (dV y) S Q :=
  ⟨dD x, dD y, dn_date x, dn_date y, alike_dD x y, (fun e => by cases e), by show Q (.bl (!ltDt (dD y) (dD x))) S; rw [lt_dD hy hx]; exact q⟩
/-! ### what the first confusion is -/
theorem oth_mem {qs : List Txt} {t : Txt} {d e : Date} {ds : List Date} : e ∈ othT qs t d ds ↔ e ∈ ds ∧ writtenT qs e = t ∧ e ≠ d := by
  unfold othT
  simp only [List.mem_filter, decide_eq_true_eq, Bool.not_eq_true', decide_eq_false_iff_not, and_assoc]
theorem conf_some {ps qs : List Txt} {ds : List Date} {d e : Date} (hs : ds.Pairwise fun a b => dcode a < dcode b) (h : confT ps qs ds = some (d, e)) :
    d ∈ ds ∧ (othT qs (writtenT ps d) d ds).head? = some e ∧ ∀ x ∈ ds, ∀ z ∈ ds, z ≠ x → writtenT qs z = writtenT ps x → dcode d ≤ dcode x := by
  unfold confT at h
  obtain ⟨l1, a, l2, h1, h2, h3⟩ := List.findSome?_eq_some_iff.mp h
  obtain ⟨z, hz, hz2⟩ := Option.map_eq_some_iff.mp h2
  cases hz2
  refine ⟨by rw [h1]; simp, hz, fun x hx y hy hne hw => ?_⟩
  have hxn : x ∉ l1 := fun hx1 => by
    have := h3 x hx1
    rw [Option.map_eq_none_iff, List.head?_eq_none_iff] at this
    have hm : y ∈ othT qs (writtenT ps x) x ds := oth_mem.mpr ⟨hy, hw, hne⟩
    rw [this] at hm
    cases hm
  rw [h1] at hx
  rcases List.mem_append.mp hx with hx | hx
  · exact absurd hx hxn
  · rw [h1, List.pairwise_append] at hs
    rcases List.mem_cons.mp hx with rfl | hx
    · exact Int.le_refl _
    · exact Int.le_of_lt ((List.pairwise_cons.mp hs.2.1).1 x hx)
theorem conf_none {ps qs : List Txt} {ds : List Date} (h : confT ps qs ds = none) : ∀ x ∈ ds, ∀ z ∈ ds, z ≠ x → writtenT qs z ≠ writtenT ps x := by
  intro x hx z hz hne hw
  unfold confT at h
  rw [List.findSome?_eq_none_iff] at h
  have := h x hx
  rw [Option.map_eq_none_iff, List.head?_eq_none_iff] at this
  have hm : z ∈ othT qs (writtenT ps x) x ds := oth_mem.mpr ⟨hz, hw, hne⟩
  rw [this] at hm
  cases hm
theorem conf_ex {ps qs : List Txt} {ds : List Date} {d e : Date} (h : confT ps qs ds = some (d, e)) : d ∈ ds ∧ e ∈ ds ∧ e ≠ d ∧ writtenT qs e = writtenT ps d := by
  unfold confT at h
  obtain ⟨l1, a, l2, h1, h2, h3⟩ := List.findSome?_eq_some_iff.mp h
  obtain ⟨z, hz, hz2⟩ := Option.map_eq_some_iff.mp h2
  cases hz2
  obtain ⟨k1, k2, k3⟩ := oth_mem.mp (List.mem_of_mem_head? hz)
  exact ⟨by rw [h1]; simp, k1, k3, k2⟩
theorem conf_isNone (ps qs : List Txt) (ds : List Date) : (confT ps qs ds).isNone = (confT qs ps ds).isNone := by
  cases h1 : confT ps qs ds with
  | none =>
    cases h2 : confT qs ps ds with
    | none => rfl
    | some p =>
      obtain ⟨d, e⟩ := p
      obtain ⟨k1, k2, k3, k4⟩ := conf_ex h2
      exact absurd k4.symm (conf_none h1 e k2 d k1 (fun z => k3 z.symm))
  | some p =>
    obtain ⟨d, e⟩ := p
    obtain ⟨k1, k2, k3, k4⟩ := conf_ex h1
    cases h2 : confT qs ps ds with
    | none => exact absurd k4.symm (conf_none h2 e k2 d k1 (fun z => k3 z.symm))
    | some p => rfl
theorem nodup_of_sorted {ds : List Date} (hs : ds.Pairwise fun a b => dcode a < dcode b) : ds.Nodup := hs.imp fun h e => by rw [e] at h; exact Int.lt_irrefl _ h
theorem map_nodup {w : Date → Txt} : ∀ {ds : List Date}, ds.Nodup → (∀ x ∈ ds, ∀ z ∈ ds, z ≠ x → w z ≠ w x) → (ds.map w).Nodup
  | [], _, _ => List.nodup_nil
  | d :: r, hn, h => by
    rw [List.nodup_cons] at hn
    rw [List.map_cons, List.nodup_cons]
    refine ⟨fun hm => ?_, map_nodup hn.2 fun x hx z hz => h x (List.mem_cons_of_mem _ hx) z (List.mem_cons_of_mem _ hz)⟩
    obtain ⟨x, hx, e⟩ := List.mem_map.mp hm
    exact h d (List.mem_cons_self ..) x (List.mem_cons_of_mem _ hx) (fun z => hn.1 (z ▸ hx)) e
theorem clash_isNone {ps : List Txt} {ds : List Date} (hs : ds.Pairwise fun a b => dcode a < dcode b) : (confT ps ps ds).isNone = (clashT (writtenT ps) ds).isNone := by
  cases h1 : confT ps ps ds with
  | none =>
    have hn := map_nodup (nodup_of_sorted hs) (conf_none h1)
    cases h2 : clashT (writtenT ps) ds with
    | none => rfl
    | some p =>
      obtain ⟨x, y⟩ := p
      have := (pairs_some hs h2).1
      unfold pairsT at this
      obtain ⟨k, hk, hsec⟩ := List.mem_filterMap.mp this
      obtain ⟨r, hr⟩ := sec_mem hsec
      have hl := filt_nodup (w := writtenT ps) (k := k) hn
      rw [hr] at hl
      simp at hl
  | some p =>
    obtain ⟨d, e⟩ := p
    obtain ⟨k1, k2, k3, k4⟩ := conf_ex h1
    cases h2 : clashT (writtenT ps) ds with
    | none =>
      have hn := clashG_none ds [] List.nodup_nil h2
      rw [List.nil_append] at hn
      exact absurd (nodup_inj hn k2 k1 k4) k3
    | some p => rfl
end PyI
set_option autoImplicit false
set_option linter.all false
set_option Elab.async false
set_option maxRecDepth 100000
set_option maxHeartbeats 4000000
namespace PyI
local macro_rules | `(tactic| walk_at "wp") => `(tactic| simp only [e_var, e_glb, e_int, e_str, e_bl, e_non, e_bin, e_cmp, e_chain, e_neg, e_and, e_or, e_not, e_ite, e_tup, e_lst, e_dic0, e_sub, e_slice, wo_nil, wo_int, wo_var, wo_bin, wo_neg, wo_blt, wo_call, wo_sub, e_lrg, e_lng, e_rev, e_call, e_blt, e_meth, e_comp, e_fld, e_newc, e_mcl, e_lenc, e_orv, e_selc, a_nil, a_cons,
  s_pass, s_seq, s_nm, s_tp, s_par, s_aug, s_setsub, s_augsub, s_ex, s_ret, s_retn, s_ite, s_whl, s_for, s_brk, s_cnt, s_rse, s_tri, s_setfld,
  b_add, b_adds, b_addr, b_addt, b_sub, b_mul, b_mulr, b_muls, b_mult, b_div, b_mod, b_pow, c_eq, c_eqs, c_eqr, c_eqt, c_eqn, c_ne, c_nes, c_ner, c_net, c_nen, c_lt, c_le, c_gt, c_ge, c_ltt, c_let, c_gtt, c_get, c_lts, c_les, c_gts, c_ges, c_isbb, c_isnn, c_isbn, c_isin, c_issn, c_istn, c_isrn, c_nsbb, c_nsnn, c_nsbn, c_nsin, c_nssn, c_nstn, c_nsrn,
  c_int, c_ins, c_inr, c_nit, c_nis, c_nir, n_int, i_tup, i_str, i_ref, i_dic, k_str, k_tup, k_ref, v_ref, v_tup, l_minD, l_maxD, l_min, l_max, z_vals, z_keys, z_enmt, z_zip3, l_lens, l_lent, l_lenr, l_str, l_int, l_dictP, l_isSeq_t, l_isSeq_r, l_isTup_r, l_isTup_i, l_tuplet, l_tupler, l_listt, l_listr, l_sum, l_all, l_any, l_isInt_i, l_isBool_i, l_isStr_s, l_isTup_t,
  m_starts, m_ins, m_split, m_part, m_popAt, y_popAt, y_ins, y_starts, y_split, y_part, m_app, m_ext, m_pop, m_join, m_alpha, m_sidx, m_get, m_setd, y_app, y_ext, y_pop, y_get, y_setd, y_str, y_alpha, y_sidx, t_bl, o_int, z_tup, z_ref, z_str, z_rng1, z_rng2, z_rng3, z_enm, z_zipt, z_zipr, w_ri, w_rs,
  at_0, at_1, at_2, at_3, gv_0, gv_s, sa_0, sa_s, st_nm, st_tp, wi_0, wi_s, st_0, st_s, st_n, wpB, List.set_cons_zero, List.set_cons_succ, Option.some.injEq, exists_eq_left', true_and, Bool.not_true, Bool.not_false, if_true, if_false, Bool.false_eq_true, exists_const, PV.ref.injEq, PV.str.injEq, PV.int.injEq, List.length_cons, List.length_nil])
/-! ### unsorted, widths -/
def unsT (w : Date → Txt) : List Date → Option Date
  | d :: e :: r => if w d < w e then unsT w (e :: r) else some d
  | _ => none
theorem unsT_at {w : Date → Txt} : ∀ {l : List Date} {i : Nat} {d e : Date}, (∀ j x y, j < i → l[j]? = some x → l[j + 1]? = some y → w x < w y) → l[i]? = some d → l[i + 1]? = some e → ¬ w d < w e → unsT w l = some d
  | [], i, d, e, _, h, _, _ => by simp at h
  | [x], i, d, e, _, _, h, _ => by simp at h
  | x :: y :: r, 0, d, e, _, h1, h2, h3 => by
    have : x = d := by simpa using h1
    have : y = e := by simpa using h2
    subst x y
    unfold unsT
    rw [if_neg h3]
  | x :: y :: r, i + 1, d, e, h, h1, h2, h3 => by
    have h0 := h 0 x y (by omega) rfl rfl
    unfold unsT
    rw [if_pos h0]
    exact unsT_at (l := y :: r) (i := i) (fun j a b hj ha hb => h (j + 1) a b (by omega) (by simpa using ha) (by simpa using hb)) (by simpa using h1) (by simpa using h2) h3
theorem unsT_none {w : Date → Txt} : ∀ {l : List Date}, (∀ j x y, l[j]? = some x → l[j + 1]? = some y → w x < w y) → unsT w l = none
  | [], _ => rfl
  | [x], _ => rfl
  | x :: y :: r, h => by
    unfold unsT
    rw [if_pos (h 0 x y rfl rfl)]
    exact unsT_none (l := y :: r) fun j a b ha hb => h (j + 1) a b (by simpa using ha) (by simpa using hb)
def optV : Option Date → PV
  | none => .non
  | some d => dV d
def ct_unsorted : Ct := fun vs S Q _ => ∃ (ps : List Txt) (a b : Int), vs = [strV ps, .tup [.int a, .int b]] ∧ isSpan a b ∧ goodPat ps ∧ ∀ S', Ext S S' → Q (optV (unsT (writtenT ps) (datesIn a b))) S'
def lensT (w : Date → Txt) (ds : List Date) : List Int := ds.map fun d => ((w d).length : Int)
def ct_widths : Ct := fun vs S Q _ => ∃ (ps : List Txt) (a b : Int), vs = [strV ps, .tup [.int a, .int b]] ∧ isSpan a b ∧ goodPat ps ∧
  ∀ S' m n, Ext S S' → m ∈ lensT (writtenT ps) (datesIn a b) → (∀ y ∈ lensT (writtenT ps) (datesIn a b), m ≤ y) → n ∈ lensT (writtenT ps) (datesIn a b) → (∀ y ∈ lensT (writtenT ps) (datesIn a b), y ≤ n) → Q (.tup [.int m, .int n]) S'
theorem zip3W_at : ∀ (xs ys zs : List PV) (i : Nat) (x : PV), (zip3W xs ys zs)[i]? = some x → ∃ y z u, xs[i]? = some y ∧ ys[i]? = some z ∧ zs[i]? = some u ∧ x = .tup [y, z, u]
  | [], _, _, _, _, h => by simp [zip3W] at h
  | _ :: _, [], _, _, _, h => by simp [zip3W] at h
  | _ :: _, _ :: _, [], _, _, h => by simp [zip3W] at h
  | a :: r, b :: t, c :: q, 0, x, h => by
    simp [zip3W] at h
    exact ⟨a, b, c, rfl, rfl, rfl, h.symm⟩
  | a :: r, b :: t, c :: q, i + 1, x, h => by
    simp only [zip3W, List.getElem?_cons_succ] at h
    obtain ⟨y, z, u, h1, h2, h3, h4⟩ := zip3W_at r t q i x h
    exact ⟨y, z, u, by simpa using h1, by simpa using h2, by simpa using h3, h4⟩
theorem zip3W_len : ∀ (xs ys zs : List PV), (zip3W xs ys zs).length = min (min xs.length ys.length) zs.length
  | [], _, _ => by simp [zip3W]
  | _ :: _, [], _ => by simp [zip3W]
  | _ :: _, _ :: _, [] => by simp [zip3W]
  | a :: r, b :: t, c :: q => by
    simp only [zip3W, List.length_cons, zip3W_len r t q]
    omega
section
variable {Γ : Sig} (C : Hlp Γ)
include C
theorem p_unsorted : ∀ vs S Q R, ct_unsorted vs S Q R → wpB Γ 7 b_unsorted vs S Q R := by
  rintro vs S Q R ⟨ps, a, b, rfl, hs, hp, q⟩
  unfold b_unsorted
  walk_at "wp"
  rw [C.need_pattern, C.need_span, C.dates_in]
  refine ⟨ps, rfl, hp, fun S1 e1 => ?_⟩
  walk_at "wp"
  refine ⟨a, b, hs, rfl, fun S2 e2 => ?_⟩
  walk_at "wp"
  refine ⟨a, b, hs, rfl, fun S3 n e3 hn g3 => ?_⟩
  walk_at "wp"
  have hlen := datesIn_len hs
  refine ⟨_, getL_lst g3, ?_⟩
  refine comp_map (fun x => .str (writtenT ps (dateOf x))) (fun _ e => e.getL (getL_lst g3)) (by rw [List.length_map]; unfold big; omega) (fun x S' hx e => ?_) fun S4 e4 g4 => ?_
  · obtain ⟨d, hd, rfl⟩ := List.mem_map.mp hx
    refine ⟨_, rfl, fun Q1 q1 => ?_⟩
    walk_at "wp"
    rw [C.written]
    exact ⟨ps, d, rfl, (datesIn_date hs hd).1, hp.1, fun S5 e5 => q1 _ e5⟩
  have g4 : S4[S3.length]? = some (.lst ((datesIn a b).map fun d => .str (writtenT ps d))) := by rw [g4, List.map_map]; rfl
  have g34 := e4 _ _ g3
  have eA := ((e1.trans e2).trans e3).trans e4
  walk_at "wp"
  refine ⟨_, getL_lst g4, ?_⟩
  rw [cut_one]
  refine ⟨_, _, _, getL_lst (Ext.new _ _ g34), getL_lst (Ext.new _ _ g4), getL_lst new_at, ?_⟩
  have en := Ext.new (S := S4) (o := .lst (((datesIn a b).map fun d => PV.str (writtenT ps d)).drop 1))
  refine ⟨fun i ρ' S' => Ext (S4 ++ [.lst (((datesIn a b).map fun d => PV.str (writtenT ps d)).drop 1)]) S' ∧ (∀ j x y, j < i → (datesIn a b)[j]? = some x → (datesIn a b)[j + 1]? = some y → writtenT ps x < writtenT ps y) ∧ ∃ x2 x3 x4 x5 x6, ρ' = [some (strV ps), some (.tup [.int a, .int b]), x2, x3, x4, x5, x6],
    ⟨Ext.refl, fun j x y hj => by omega, _, _, _, _, _, rfl⟩, fun i ρ' S' w => ⟨w.1.getL (getL_lst (Ext.new _ _ g34)), w.1.getL (getL_lst (Ext.new _ _ g4)), w.1.getL (getL_lst new_at)⟩, ?_, ?_⟩
  · rintro i x ρ' S5 hx ⟨e5, h5, x2, x3, x4, x5, x6, rfl⟩
    obtain ⟨y, z, u, hy, hz, hu, rfl⟩ := zip3W_at _ _ _ _ _ hx
    rw [List.getElem?_map] at hy hz
    rw [List.getElem?_drop, List.getElem?_map] at hu
    obtain ⟨d, hd, rfl⟩ := Option.map_eq_some_iff.mp hy
    obtain ⟨d2, hd2, rfl⟩ := Option.map_eq_some_iff.mp hz
    obtain ⟨d3, hd3, rfl⟩ := Option.map_eq_some_iff.mp hu
    rw [hd] at hd2
    cases hd2
    rw [Nat.add_comm] at hd3
    refine ⟨_, rfl, ?_⟩
    walk_at "wp"
    by_cases hlt : writtenT ps d < writtenT ps d3
    · rw [if_neg (by simpa using hlt)]
      refine ⟨e5, fun j p r hj hp1 hp2 => ?_, _, _, _, _, _, rfl⟩
      rcases Nat.lt_or_ge j i with h | h
      · exact h5 j p r h hp1 hp2
      · have : j = i := by omega
        subst this
        rw [hd] at hp1
        rw [hd3] at hp2
        cases hp1
        cases hp2
        exact hlt
    · rw [if_pos (by simpa using hlt)]
      have := q S5 ((eA.trans en).trans e5)
      rw [unsT_at h5 hd hd3 hlt] at this
      exact this
  · rintro ρ' S5 ⟨e5, h5, x2, x3, x4, x5, x6, rfl⟩
    walk_at "wp"
    have := q S5 ((eA.trans en).trans e5)
    rw [unsT_none (fun j x y hx hy => h5 j x y ?_ hx hy)] at this
    · exact this
    · have := (List.getElem?_eq_some_iff.mp hy).1
      rw [zip3W_len, List.length_map, List.length_map, List.length_drop, List.length_map]
      omega
theorem p_widths : ∀ vs S Q R, ct_widths vs S Q R → wpB Γ 4 b_widths vs S Q R := by
  rintro vs S Q R ⟨ps, a, b, rfl, hs, hp, q⟩
  unfold b_widths
  walk_at "wp"
  rw [C.need_pattern, C.need_span, C.table]
  refine ⟨ps, rfl, hp, fun S1 e1 => ?_⟩
  walk_at "wp"
  refine ⟨a, b, hs, rfl, fun S2 e2 => ?_⟩
  walk_at "wp"
  refine ⟨ps, a, b, rfl, hs, hp.1, fun S3 n e3 ht => ?_⟩
  obtain ⟨rs, h1, h2, h3, h4, h5, h6⟩ := ht
  walk_at "wp"
  refine ⟨_, h1, ?_⟩
  have hlen := datesIn_len hs
  have e03 : Ext S S3 := (e1.trans e2).trans e3
  have eL : Ext S (S3.set n (.ldc (rs.map fun r => (r.1, PV.ref r.2)))) := e03.set (Nat.le_trans (e1.trans e2).len h2)
  generalize S3.set n (.ldc (rs.map fun r => (r.1, PV.ref r.2))) = S4 at eL ⊢
  have hk : ∀ t, t ∈ rs.map (·.1) ↔ t ∈ (datesIn a b).map (writtenT ps) := fun t => by rw [h3]; exact mem_keys _ _
  have hrl : rs.length ≤ 4464 := by
    have := congrArg List.length h3
    rw [List.length_map] at this
    have h7 := keys_len ((datesIn a b).map (writtenT ps))
    rw [List.length_map] at h7
    omega
  have ei : ((rs.map fun r => (r.1, PV.ref r.2)).map fun q => PV.str q.1) = (rs.map (·.1)).map PV.str := by rw [List.map_map, List.map_map]; rfl
  rw [ei]
  refine comp_map (strF fun t => .int t.length) (fun _ _ => trivial) (by rw [List.length_map, List.length_map]; unfold big; omega) (fun x S' hx e => ?_) fun S5 e5 g5 => ?_
  · obtain ⟨t, ht, rfl⟩ := List.mem_map.mp hx
    obtain ⟨d, hd, rfl⟩ := List.mem_map.mp ((hk t).mp ht)
    have hw := wr_len d (datesIn_date hs hd).1 ps hp.1.2
    have hp7 := good_len hp
    refine ⟨_, rfl, fun Q1 q1 => ?_⟩
    walk_at "wp"
    exact ⟨by unfold big; omega, q1 _ Ext.refl⟩
  have g5 : S5[S4.length]? = some (.lst (((rs.map (·.1)).map fun t => (t.length : Int)).map PV.int)) := by rw [g5, List.map_map (g := PV.int), List.map_map (f := PV.str)]; rfl
  have hmem : ∀ y : Int, y ∈ (rs.map (·.1)).map (fun t => (t.length : Int)) ↔ y ∈ lensT (writtenT ps) (datesIn a b) := by
    intro y
    unfold lensT
    simp only [List.mem_map]
    constructor
    · rintro ⟨t, ⟨r, hr, rfl⟩, rfl⟩
      obtain ⟨d, hd, e⟩ := List.mem_map.mp ((hk r.1).mp (List.mem_map.mpr ⟨r, hr, rfl⟩))
      exact ⟨d, hd, by rw [e]⟩
    · rintro ⟨d, hd, rfl⟩
      obtain ⟨r, hr, e⟩ := List.mem_map.mp ((hk (writtenT ps d)).mpr (List.mem_map.mpr ⟨d, hd, rfl⟩))
      exact ⟨_, ⟨r, hr, rfl⟩, by rw [e]⟩
  have hpos : 0 < ((rs.map (·.1)).map fun t => (t.length : Int)).length := by
    obtain ⟨k1, k2, k3, k4, k5, k6⟩ := hs
    have hm : ((a, 1, 1) : Date) ∈ datesIn a b := List.mem_flatMap.mpr ⟨a, irange_mem.mpr ⟨by omega, by omega⟩, List.mem_flatMap.mpr ⟨1, by decide, List.mem_map.mpr ⟨1, irange_mem.mpr ⟨by decide, by have := mlen_bd a 1; omega⟩, rfl⟩⟩⟩
    exact List.length_pos_of_mem ((hmem ((writtenT ps (a, 1, 1)).length : Int)).mpr (List.mem_map.mpr ⟨_, hm, rfl⟩))
  walk_at "wp"
  refine ⟨_, getL_lst g5, hpos, fun m hm1 hm2 => ?_⟩
  refine ⟨_, getL_lst g5, hpos, fun n2 hn1 hn2 => ?_⟩
  exact q S5 m n2 (eL.trans e5) ((hmem m).mp hm1) (fun y hy => hm2 y ((hmem y).mpr hy)) ((hmem n2).mp hn1) (fun y hy => hn2 y ((hmem y).mpr hy))
end
end PyI
set_option autoImplicit false
set_option linter.all false
set_option Elab.async false
set_option maxRecDepth 100000
set_option maxHeartbeats 4000000
namespace PyI
local macro_rules | `(tactic| walk_at "wp") => `(tactic| simp only [e_var, e_glb, e_int, e_str, e_bl, e_non, e_bin, e_cmp, e_chain, e_neg, e_and, e_or, e_not, e_ite, e_tup, e_lst, e_dic0, e_sub, e_slice, wo_nil, wo_int, wo_var, wo_bin, wo_neg, wo_blt, wo_call, wo_sub, e_lrg, e_lng, e_rev, e_call, e_blt, e_meth, e_comp, e_fld, e_newc, e_mcl, e_lenc, e_orv, e_selc, a_nil, a_cons,
  s_pass, s_seq, s_nm, s_tp, s_par, s_aug, s_setsub, s_augsub, s_ex, s_ret, s_retn, s_ite, s_whl, s_for, s_brk, s_cnt, s_rse, s_tri, s_setfld,
  b_add, b_adds, b_addr, b_addt, b_sub, b_mul, b_mulr, b_muls, b_mult, b_div, b_mod, b_pow, c_eq, c_eqs, c_eqr, c_eqt, c_eqn, c_ne, c_nes, c_ner, c_net, c_nen, c_lt, c_le, c_gt, c_ge, c_ltt, c_let, c_gtt, c_get, c_lts, c_les, c_gts, c_ges, c_isbb, c_isnn, c_isbn, c_isin, c_issn, c_istn, c_isrn, c_nsbb, c_nsnn, c_nsbn, c_nsin, c_nssn, c_nstn, c_nsrn,
  c_int, c_ins, c_inr, c_nit, c_nis, c_nir, n_int, i_tup, i_str, i_ref, i_dic, k_str, k_tup, k_ref, v_ref, v_tup, l_minD, l_maxD, l_min, l_max, z_vals, z_keys, z_enmt, z_zip3, l_lens, l_lent, l_lenr, l_str, l_int, l_dictP, l_isSeq_t, l_isSeq_r, l_isTup_r, l_isTup_i, l_tuplet, l_tupler, l_listt, l_listr, l_sum, l_all, l_any, l_isInt_i, l_isBool_i, l_isStr_s, l_isTup_t,
  m_starts, m_ins, m_split, m_part, m_popAt, y_popAt, y_ins, y_starts, y_split, y_part, m_app, m_ext, m_pop, m_join, m_alpha, m_sidx, m_get, m_setd, y_app, y_ext, y_pop, y_get, y_setd, y_str, y_alpha, y_sidx, t_bl, o_int, z_tup, z_ref, z_str, z_rng1, z_rng2, z_rng3, z_enm, z_zipt, z_zipr, w_ri, w_rs,
  at_0, at_1, at_2, at_3, gv_0, gv_s, sa_0, sa_s, st_nm, st_tp, wi_0, wi_s, st_0, st_s, st_n, wpB, List.set_cons_zero, List.set_cons_succ, Option.some.injEq, exists_eq_left', true_and, Bool.not_true, Bool.not_false, if_true, if_false, Bool.false_eq_true, exists_const, PV.ref.injEq, PV.str.injEq, PV.int.injEq, List.length_cons, List.length_nil])
/-! ### several patterns: tables, which of them have texts -/
theorem tab_onl {k b c : Nat} {S S' : Store} {n : Nat} {w : Date → Txt} {ds : List Date} (e : Onl k S S') (hb : k < b) (hc : k < c) (h : tabAt b c S n w ds) : tabAt b c S' n w ds := by
  obtain ⟨rs, h1, h2, h3, h4, h5, h6⟩ := h
  exact ⟨rs, e.2 _ _ (by omega) h1, h2, h3, h4, h5, fun r hr => ⟨(h6 r hr).1, e.2 _ _ (by have := (h6 r hr).1; omega) (h6 r hr).2⟩⟩
/-- [e for x in items]: each value has what P says of it, and P outlives what comes later -/
theorem comp_acc {Γ : Sig} {t : Tg} {own : List Nat} {e : IE} {ρ : Env} {S2 : Store} {items : List PV} {keep : Store → Prop} {Q : PQ} (P : Nat → PV → Store → Prop) (hP : ∀ i v S' S'', Onl S2.length S' S'' → P i v S' → P i v S'')
    (hk : ∀ S', Ext S2 S' → keep S') (hl : items.length < big)
    (h : ∀ (i : Nat) x S', items[i]? = some x → Ext S2 S' → S2.length < S'.length → ∃ ρ2, setTg (wipeP ρ own) t x = some ρ2 ∧ ∀ Q1 : PQ, (∀ v S'', Ext S' S'' → P i v S'' → Q1 v S'') → wpE Γ e ρ2 S' Q1 (fun _ _ => False))
    (q : ∀ S' vs, Ext S2 S' → S'[S2.length]? = some (.lst vs) → vs.length = items.length → (∀ (i : Nat) v, vs[i]? = some v → P i v S') → Q (.ref S2.length) S') :
    compP Γ ρ S2 Q t own .nil e items keep := by
  refine ⟨fun i acc S' => Ext S2 S' ∧ S'[S2.length]? = some (.lst acc) ∧ acc.length = i ∧ i ≤ items.length ∧ ∀ (j : Nat) v, acc[j]? = some v → P j v S', ⟨Ext.new, new_at, rfl, Nat.zero_le _, by simp⟩, fun i acc S' w => ⟨w.2.1, hk _ w.1⟩, fun i x acc S' hx w => ?_, fun acc S' w => ?_⟩
  · obtain ⟨w1, w2, w3, w4, w5⟩ := w
    have hi := (List.getElem?_eq_some_iff.mp hx).1
    have hlt := (List.getElem?_eq_some_iff.mp w2).1
    obtain ⟨ρ2, h1, h2⟩ := h i x S' hx w1 hlt
    refine ⟨ρ2, h1, ?_⟩
    refine h2 _ fun v S'' e2 hv => ⟨e2 _ _ w2, by omega, (w1.trans e2).set (Nat.le_refl _), ?_, by rw [List.length_append]; simp [w3], by omega, fun j u hj => ?_⟩
    · have hlt := (List.getElem?_eq_some_iff.mp (e2 _ _ w2)).1
      rw [List.getElem?_set_self hlt]
    · have eo : Onl S2.length S'' (S''.set S2.length (.lst (acc ++ [v]))) := Onl.refl.set
      by_cases hj' : j < acc.length
      · rw [List.getElem?_append_left hj'] at hj
        exact hP _ _ _ _ ((Ext.onl e2).trans eo) (w5 j u hj)
      · have := (List.getElem?_eq_some_iff.mp hj).1
        rw [List.length_append] at this
        simp only [List.length_cons, List.length_nil] at this
        have hj2 : j = i := by omega
        rw [List.getElem?_append_right (by omega), show j - acc.length = 0 by omega] at hj
        cases hj
        rw [hj2]
        exact hP _ _ _ _ eo hv
  · obtain ⟨w1, w2, w3, w4, w5⟩ := w
    exact q S' acc w1 w2 w3 w5
/-- the same where the town may change -/
theorem comp_drw {Γ : Sig} {t : Tg} {own : List Nat} {e : IE} {ρ : Env} {S2 : Store} {items : List PV} {Q : PQ} {sc tw : Nat} (P : PV → Prop) (T2 : TW S2 sc tw) (hl : items.length < big)
    (h : ∀ (i : Nat) x S', items[i]? = some x → Onl tw S2 S' → TW S' sc tw → S2.length < S'.length → ∃ ρ2, setTg (wipeP ρ own) t x = some ρ2 ∧ ∀ Q1 : PQ, (∀ v S'', Onl tw S' S'' → TW S'' sc tw → P v → Q1 v S'') → wpE Γ e ρ2 S' Q1 (fun _ _ => False))
    (q : ∀ S' vs, Onl tw S2 S' → TW S' sc tw → S'[S2.length]? = some (.lst vs) → vs.length = items.length → (∀ v ∈ vs, P v) → Q (.ref S2.length) S') :
    compP Γ ρ S2 Q t own .nil e items (fun _ => True) := by
  have htw := T2.lt
  have hsc := T2.sc_lt
  refine ⟨fun i acc S' => Onl tw S2 S' ∧ TW S' sc tw ∧ S'[S2.length]? = some (.lst acc) ∧ acc.length = i ∧ i ≤ items.length ∧ ∀ v ∈ acc, P v, ⟨Ext.onl Ext.new, T2.ext Ext.new, new_at, rfl, Nat.zero_le _, by simp⟩, fun i acc S' w => ⟨w.2.2.1, trivial⟩, fun i x acc S' hx w => ?_, fun acc S' w => ?_⟩
  · obtain ⟨w1, wt, w2, w3, w4, w5⟩ := w
    have hi := (List.getElem?_eq_some_iff.mp hx).1
    have hlt := (List.getElem?_eq_some_iff.mp w2).1
    obtain ⟨ρ2, h1, h2⟩ := h i x S' hx w1 wt hlt
    refine ⟨ρ2, h1, ?_⟩
    refine h2 _ fun v S'' e2 t2 hv => ⟨e2.2 _ _ (by omega) w2, by omega, (w1.trans e2).put (Nat.le_refl _), t2.set_ne (by omega) (by omega), ?_, by rw [List.length_append]; simp [w3], by omega, fun u hu => ?_⟩
    · have hlt := (List.getElem?_eq_some_iff.mp (e2.2 _ _ (by omega) w2)).1
      rw [List.getElem?_set_self hlt]
    · rcases List.mem_append.mp hu with hu | hu
      · exact w5 u hu
      · rw [List.mem_singleton.mp hu]; exact hv
  · obtain ⟨w1, wt, w2, w3, w4, w5⟩ := w
    exact q S' acc w1 wt w2 w3 w5
def psV (pss : List (List Txt)) : PV := .tup (pss.map strV)
def goodPs (pss : List (List Txt)) : Prop := 1 ≤ pss.length ∧ pss.length ≤ 5 ∧ ∀ ps ∈ pss, goodPat ps
def tabsAt (S : Store) (n : Nat) (pss : List (List Txt)) (ds : List Date) : Prop :=
  ∃ rs : List Nat, getL S n = some (rs.map PV.ref) ∧ rs.length = pss.length ∧ ∀ (i : Nat) ps, pss[i]? = some ps → ∃ (r b c : Nat), rs[i]? = some r ∧ tabAt b c S r (writtenT ps) ds
theorem tabs_ext {S S' : Store} {n : Nat} {pss : List (List Txt)} {ds : List Date} (e : Ext S S') (h : tabsAt S n pss ds) : tabsAt S' n pss ds := by
  obtain ⟨rs, h1, h2, h3⟩ := h
  exact ⟨rs, e.getL h1, h2, fun i ps hi => let ⟨r, b, c, h4, h5⟩ := h3 i ps hi; ⟨r, b, c, h4, tab_ext e h5⟩⟩
def hasT (ps : List Txt) (ds : List Date) (t : Txt) : Bool := decide (t ∈ ds.map (writtenT ps))
def patAt (pss : List (List Txt)) (i : Nat) : List Txt := pss.getD i []
theorem patAt_of {pss : List (List Txt)} {i : Nat} {ps : List Txt} (h : pss[i]? = some ps) : patAt pss i = ps := by unfold patAt; rw [List.getD_eq_getElem?_getD, h]; rfl
theorem patAt_lt {pss : List (List Txt)} {i : Nat} (h : i < pss.length) : pss[i]? = some (patAt pss i) := by unfold patAt; rw [List.getD_eq_getElem?_getD, List.getElem?_eq_getElem h]; rfl
def fitsT (pss : List (List Txt)) (ds : List Date) (ts : List Txt) : List Nat := (List.range pss.length).filter fun i => ts.all fun t => hasT (patAt pss i) ds t
/-- a list or a tuple of texts -/
abbrev txsAt (S : Store) (v : PV) (ts : List Txt) : Prop := match v with
  | .ref n => getL S n = some (ts.map PV.str)
  | .tup xs => xs = ts.map PV.str
  | _ => False
theorem txs_ext {S S' : Store} {v : PV} {ts : List Txt} (e : Ext S S') (h : txsAt S v ts) : txsAt S' v ts := by
  cases v <;> first | exact h.elim | skip
  · exact h
  · exact e.getL h
def natV (n : Nat) : PV := .int (n : Int)
def ct_need_patterns : Ct := fun vs S Q _ => ∃ pss, vs = [psV pss] ∧ goodPs pss ∧ ∀ S', Ext S S' → Q .non S'
def ct_fitting_of : Ct := fun vs S Q _ => ∃ (n : Nat) (v : PV) (pss : List (List Txt)) (ds : List Date) (ts : List Txt), vs = [.ref n, v] ∧ tabsAt S n pss ds ∧ txsAt S v ts ∧ pss.length ≤ 1000 ∧ ts.length ≤ 1000 ∧
  ∀ S' k, Ext S S' → S.length ≤ k → S'[k]? = some (.lst ((fitsT pss ds ts).map natV)) → Q (.ref k) S'
def ct_fitting : Ct := fun vs S Q _ => ∃ (pss : List (List Txt)) (a b : Int) (v : PV) (ts : List Txt), vs = [psV pss, .tup [.int a, .int b], v] ∧ goodPs pss ∧ isSpan a b ∧ txsAt S v ts ∧ ts.length ≤ 1000 ∧
  ∀ S' k, Ext S S' → S.length ≤ k → S'[k]? = some (.lst ((fitsT pss (datesIn a b) ts).map natV)) → Q (.ref k) S'
def tellB (pss : List (List Txt)) (ds : List Date) (d : Date) : Bool :=
  (List.range pss.length).all fun i => !((List.range pss.length).any fun j => !decide (j = i) && hasT (patAt pss j) ds (writtenT (patAt pss i) d))
def tellT (pss : List (List Txt)) (ds : List Date) : Option Date := ds.find? fun d => tellB pss ds d
def ct_is_telling : Ct := fun vs S Q _ => ∃ (n : Nat) (pss : List (List Txt)) (ds : List Date) (d : Date), vs = [psV pss, .ref n, dV d] ∧ tabsAt S n pss ds ∧ isDate d ∧ (∀ ps ∈ pss, smallT ps) ∧ pss.length ≤ 1000 ∧ ∀ S', Ext S S' → Q (.bl (tellB pss ds d)) S'
def ct_telling : Ct := fun vs S Q _ => ∃ (pss : List (List Txt)) (a b : Int), vs = [psV pss, .tup [.int a, .int b]] ∧ goodPs pss ∧ isSpan a b ∧ ∀ S', Ext S S' → Q (optV (tellT pss (datesIn a b))) S'
/-- .. in a table -/
theorem tab_in {b c : Nat} {S : Store} {n : Nat} {ps : List Txt} {ds : List Date} (h : tabAt b c S n (writtenT ps) ds) (t : Txt) {Q : PQ} (q : Q (.bl (hasT ps ds t)) S) : cmpop .isin (.str t) (.ref n) S Q := by
  rw [c_inr]
  obtain ⟨kvs, h1, h2⟩ := tab_get h t
  refine Or.inr (Or.inl ⟨t, kvs, rfl, getD_dic h1, ?_⟩)
  rcases h2 with ⟨r, h3, h4, h5⟩ | ⟨h3, h4⟩
  · rw [h3]
    have : hasT ps ds t = true := by
      unfold hasT
      obtain ⟨rs, g1, g2, g3, g4, g5, g6⟩ := h
      rw [h1] at g1
      cases g1
      rw [lkp_refs] at h3
      obtain ⟨x, hx, _⟩ := Option.map_eq_some_iff.mp h3
      have hm := List.mem_of_find?_eq_some hx
      have he : x.1 = t := by simpa using List.find?_some hx
      have : x.1 ∈ rs.map (·.1) := List.mem_map.mpr ⟨x, hm, rfl⟩
      rw [g3, he] at this
      exact decide_eq_true ((mem_keys _ _).mp this)
    rw [this] at q
    exact q
  · rw [h3]
    have : hasT ps ds t = false := by
      unfold hasT
      refine decide_eq_false fun hm => ?_
      obtain ⟨d, hd, e⟩ := List.mem_map.mp hm
      have : d ∈ ds.filter fun d => decide (writtenT ps d = t) := List.mem_filter.mpr ⟨hd, by simpa using e⟩
      rw [h4] at this
      cases this
    rw [this] at q
    exact q
theorem z_txs {S : Store} {v : PV} {ts : List Txt} {K : IQ} (h : txsAt S v ts) (q : ∀ keep : Store → Prop, (∀ S', Ext S S' → keep S') → K (ts.map PV.str) keep S) : itemsOf .seq [v] S K := by
  cases v <;> first | exact (show False from h).elim | skip
  · rename_i xs
    obtain rfl : xs = _ := h
    exact q _ fun _ _ => trivial
  · exact ⟨_, h, q _ fun S' e => e.getL h⟩
/-- all([text in found for text in texts]) -/
theorem comp_txs {Γ : Sig} {ρ : Env} {S2 : Store} {Q : PQ} {i : Nat} {own : List Nat} {keep : Store → Prop} {ce : IE} {ps : List Txt} {ds : List Date} {ts : List Txt} (hk : ∀ S', Ext S2 S' → keep S') (hl : ts.length ≤ 1000)
    (h : ∀ t S' (Q1 : PQ), Ext S2 S' → Q1 (.bl (hasT ps ds t)) S' → wpE Γ ce ((wipeP ρ own).set i (some (.str t))) S' Q1 (fun _ _ => False))
    (q : ∀ S', Ext S2 S' → bltop .all [.ref S2.length] S' Q) :
    compP Γ ρ S2 (fun v S' => bltop .all [v] S' Q) (.nm i) own .nil ce (ts.map PV.str) keep := by
  refine comp_map (strF fun t => .bl (hasT ps ds t)) hk (by rw [List.length_map]; unfold big; omega) (fun x S' hx e => ⟨_, rfl, fun Q1 q1 => ?_⟩) fun S' e h1 => q S' e
  obtain ⟨t, ht, rfl⟩ := List.mem_map.mp hx
  exact h t S' Q1 e (q1 S' Ext.refl)
theorem enum_mem {xs : List PV} {x : PV} (h : x ∈ enumW 0 xs) : ∃ (i : Nat) (y : PV), xs[i]? = some y ∧ x = .tup [natV i, y] := by
  obtain ⟨i, hi⟩ := List.getElem?_of_mem h
  rw [enumW_at] at hi
  obtain ⟨y, h1, h2⟩ := Option.map_eq_some_iff.mp hi
  exact ⟨i, y, h1, by rw [← h2, Nat.zero_add]; rfl⟩
def fstI : PV → Nat
  | .tup (.int i :: _) => i.toNat
  | _ => 0
theorem enum_filter (g : Nat → Bool) : ∀ (xs : List PV) (k : Nat), ((enumW k xs).filter fun x => g (fstI x)).map (fun x => natV (fstI x)) = ((List.range' k xs.length).filter g).map natV
  | [], _ => rfl
  | x :: r, k => by
    have ih := enum_filter g r (k + 1)
    rw [enumW, List.length_cons, List.range'_succ, List.filter_cons, List.filter_cons]
    have e : fstI (.tup [.int (k : Nat), x]) = k := rfl
    rw [e]
    cases g k with
    | true =>
      rw [if_pos rfl, if_pos rfl, List.map_cons, List.map_cons, ih, e]
    | false =>
      rw [if_neg (by decide), if_neg (by decide), ih]
section
variable {Γ : Sig} (C : Hlp Γ)
include C
theorem p_need_patterns : ∀ vs S Q R, ct_need_patterns vs S Q R → wpB Γ 2 b_need_patterns vs S Q R := by
  rintro vs S Q R ⟨pss, rfl, hp, q⟩
  unfold b_need_patterns psV
  walk_at "wp"
  rw [C.gl]
  have h1 : (1 : Int) ≤ ((pss.map strV).length : Int) := by have := hp.1; rw [List.length_map]; omega
  have h2 : ((pss.map strV).length : Int) ≤ 5 := by have := hp.2.1; rw [List.length_map]; omega
  rw [if_pos (decide_eq_true h1)]
  refine ⟨_, rfl, ?_⟩
  walk_at "wp"
  rw [decide_eq_true h2]
  walk_at "wp"
  refine comp_map (fun _ => .bl true) (fun _ _ => trivial) (by have := hp.2.1; rw [List.length_map]; unfold big; omega) (fun x S' hx e => ⟨_, rfl, fun Q1 q1 => ?_⟩) fun S' e h => ?_
  · obtain ⟨ps, hps, rfl⟩ := List.mem_map.mp hx
    have hg := hp.2.2 ps hps
    walk_at "wp"
    rw [C.is_pattern]
    refine ⟨ps, rfl, hg.1, fun S2 e2 => ?_⟩
    rw [hg.2]
    exact q1 _ e2
  · refine ⟨pss.map fun _ => true, ?_, ?_⟩
    · rw [getL_lst h, List.map_map, List.map_map]; rfl
    · rw [show ((pss.map fun _ => true).all id) = true by simp]
      walk_at "wp"
      exact q S' e
theorem p_fitting_of : ∀ vs S Q R, ct_fitting_of vs S Q R → wpB Γ 5 b_fitting_of vs S Q R := by
  rintro vs S Q R ⟨n, v, pss, ds, ts, rfl, hT, hx, hl, ht, q⟩
  unfold b_fitting_of
  walk_at "wp"
  obtain ⟨rs, h1, h2, h3⟩ := hT
  refine ⟨_, h1, ?_⟩
  have hT : tabsAt S n pss ds := ⟨rs, h1, h2, h3⟩
  refine comp_if (fun x => ts.all fun t => hasT (patAt pss (fstI x)) ds t) (fun x => natV (fstI x)) rfl (fun S' e => e.getL h1) (by rw [enumW_len, List.length_map]; unfold big; omega) (fun x S' hx' e => ?_) fun S' e h => ?_
  · obtain ⟨i, y, hi, rfl⟩ := enum_mem hx'
    rw [List.getElem?_map] at hi
    obtain ⟨r, hr, rfl⟩ := Option.map_eq_some_iff.mp hi
    have hil : i < pss.length := by rw [← h2]; exact (List.getElem?_eq_some_iff.mp hr).1
    obtain ⟨r', b, c, hr', htab⟩ := h3 i _ (patAt_lt hil)
    rw [hr] at hr'
    cases hr'
    refine ⟨_, rfl, fun Q1 q1 => ?_, fun S3 e3 _ Q1 q1 => ?_⟩
    · walk_at "wp"
      refine z_txs (txs_ext e hx) fun keep hk => ?_
      have hq : ∀ S'', Ext S' S'' → Q1 (.bl (ts.all fun t => hasT (patAt pss i) ds t)) S'' := q1
      refine comp_map (strF fun t => .bl (hasT (patAt pss i) ds t)) hk (by rw [List.length_map]; unfold big; omega) (fun x S4 hx4 e4 => ⟨_, rfl, fun Q2 q2 => ?_⟩) fun S4 e4 g4 => ?_
      · obtain ⟨t, _, rfl⟩ := List.mem_map.mp hx4
        simp only [e_cmp, e_var, gv_0, gv_s, Option.some.injEq, exists_eq_left', wi_0, wi_s, List.set_cons_zero, List.set_cons_succ]
        exact tab_in (tab_ext (e.trans e4) htab) t (q2 _ Ext.refl)
      · refine ⟨ts.map fun t => hasT (patAt pss i) ds t, ?_, ?_⟩
        · rw [getL_lst g4, List.map_map, List.map_map]; rfl
        · rw [List.all_map]
          exact hq S4 e4
    · walk_at "wp"
      exact q1 _ Ext.refl
  · refine q S' _ e (Nat.le_refl _) ?_
    rw [h, enum_filter (fun i => ts.all fun t => hasT (patAt pss i) ds t), List.length_map, h2, ← List.range_eq_range']
    rfl
/-- [table(pattern, span) for pattern in patterns] -/
theorem comp_tabs {ρ : Env} {S2 : Store} {Q : PQ} {i j : Nat} {pss : List (List Txt)} {a b : Int} (hs : isSpan a b) (hp : ∀ ps ∈ pss, smallT ps) (hl : pss.length ≤ 1000)
    (h1 : ∀ v, getv ((wipeP ρ [i]).set i (some v)) i = some v) (h2 : ∀ v, getv ((wipeP ρ [i]).set i (some v)) j = some (.tup [.int a, .int b]))
    (q : ∀ S', Ext S2 S' → tabsAt S' S2.length pss (datesIn a b) → Q (.ref S2.length) S') :
    compP Γ ρ S2 Q (.nm i) [i] .nil (.call 22 (.cons (.var i) (.cons (.var j) .nil))) (pss.map strV) (fun _ => True) := by
  refine comp_acc (fun k v S' => ∃ (r b' c' : Nat) (ps : List Txt), v = .ref r ∧ pss[k]? = some ps ∧ S2.length < b' ∧ S2.length < c' ∧ tabAt b' c' S' r (writtenT ps) (datesIn a b)) ?_ (fun _ _ => trivial) (by rw [List.length_map]; unfold big; omega) ?_ ?_
  · rintro k v S' S'' e ⟨r, b', c', ps, h1, h2, h3, h4, h5⟩
    exact ⟨r, b', c', ps, h1, h2, h3, h4, tab_onl e h3 h4 h5⟩
  · intro k x S' hx e hlt
    rw [List.getElem?_map] at hx
    obtain ⟨ps, hps, rfl⟩ := Option.map_eq_some_iff.mp hx
    refine ⟨_, rfl, fun Q1 q1 => ?_⟩
    simp only [e_call, a_cons, a_nil, e_var, h1, h2, Option.some.injEq, exists_eq_left']
    rw [C.table]
    exact ⟨ps, a, b, rfl, hs, hp ps (List.mem_of_getElem? hps), fun S3 r e3 ht => q1 _ _ e3 ⟨r, _, _, ps, rfl, hps, hlt, hlt, ht⟩⟩
  · intro S' vs e g hlen hv
    refine q S' e ?_
    rw [List.length_map] at hlen
    have key : ∀ k, k < pss.length → ∃ r : Nat, vs[k]? = some (PV.ref r) ∧ ∃ b' c', tabAt b' c' S' r (writtenT (patAt pss k)) (datesIn a b) := by
      intro k hk
      obtain ⟨v, hvk⟩ : ∃ v, vs[k]? = some v := ⟨_, List.getElem?_eq_getElem (by omega)⟩
      obtain ⟨r, b', c', ps, rfl, hps, _, _, ht⟩ := hv k v hvk
      exact ⟨r, hvk, b', c', by rw [patAt_of hps]; exact ht⟩
    have hrs : ∃ rs : List Nat, vs = rs.map PV.ref := by
      have : ∀ v ∈ vs, ∃ r, v = PV.ref r := fun v hm => by
        obtain ⟨k, hk⟩ := List.getElem?_of_mem hm
        obtain ⟨r, _, _, _, h, _⟩ := hv k v hk
        exact ⟨r, h⟩
      clear key hv g hlen
      induction vs with
      | nil => exact ⟨[], rfl⟩
      | cons x r ih =>
        obtain ⟨n, rfl⟩ := this x List.mem_cons_self
        obtain ⟨rs, rfl⟩ := ih fun v hm => this v (List.mem_cons_of_mem _ hm)
        exact ⟨n :: rs, rfl⟩
    obtain ⟨rs, rfl⟩ := hrs
    rw [List.length_map] at hlen
    refine ⟨rs, getL_lst g, hlen, fun k ps hps => ?_⟩
    obtain ⟨r, h3, b', c', h4⟩ := key k (List.getElem?_eq_some_iff.mp hps).1
    rw [List.getElem?_map] at h3
    obtain ⟨r', h5, h6⟩ := Option.map_eq_some_iff.mp h3
    cases h6
    rw [patAt_of hps] at h4
    exact ⟨_, b', c', h5, h4⟩
omit C in
theorem goodPs_small {pss : List (List Txt)} (h : goodPs pss) : ∀ ps ∈ pss, smallT ps := fun ps hm => (h.2.2 ps hm).1
omit C in
theorem isSeq_txs {S : Store} {v : PV} {ts : List Txt} {Q : PQ} (h : txsAt S v ts) (q : Q (.bl true) S) : bltop .isSeq [v] S Q := by
  cases v <;> first | exact (show False from h).elim | skip
  · exact q
  · exact ⟨_, h, q⟩
theorem p_fitting (h36 : Γ.ct 36 = ct_need_patterns) (h37 : Γ.ct 37 = ct_fitting_of) : ∀ vs S Q R, ct_fitting vs S Q R → wpB Γ 5 b_fitting vs S Q R := by
  rintro vs S Q R ⟨pss, a, b, v, ts, rfl, hp, hs, hx, ht, q⟩
  unfold b_fitting
  walk_at "wp"
  rw [h36, C.need_span]
  refine ⟨pss, rfl, hp, fun S1 e1 => ?_⟩
  walk_at "wp"
  refine ⟨a, b, hs, rfl, fun S2 e2 => ?_⟩
  walk_at "wp"
  have e12 := e1.trans e2
  have hx2 := txs_ext e12 hx
  refine isSeq_txs hx2 ?_
  walk_at "wp"
  refine z_txs hx2 fun keep hk => ?_
  refine comp_map (fun _ => .bl true) hk (by rw [List.length_map]; unfold big; omega) (fun x S' hx' e => ⟨_, rfl, fun Q1 q1 => ?_⟩) fun S3 e3 g3 => ?_
  · obtain ⟨t, _, rfl⟩ := List.mem_map.mp hx'
    walk_at "wp"
    exact q1 _ Ext.refl
  walk_at "wp"
  refine ⟨ts.map fun _ => true, ?_, ?_⟩
  · rw [getL_lst g3, List.map_map, List.map_map]; rfl
  rw [show ((ts.map fun _ => true).all id) = true by simp]
  unfold psV
  walk_at "wp"
  rw [h37]
  have hl5 := hp.2.1
  refine comp_tabs C hs (goodPs_small hp) (by omega) (fun v => rfl) (fun v => rfl) fun S4 e4 hT => ?_
  have e24 := e3.trans e4
  refine ⟨_, v, pss, datesIn a b, ts, rfl, hT, txs_ext e24 hx2, by omega, ht, fun S5 k e5 hk5 g5 => ?_⟩
  exact q S5 k ((e12.trans e24).trans e5) (Nat.le_trans (Ext.len (e12.trans e24)) hk5) g5
theorem p_is_telling : ∀ vs S Q R, ct_is_telling vs S Q R → wpB Γ 8 b_is_telling vs S Q R := by
  rintro vs S Q R ⟨n, pss, ds, d, rfl, hT, hd, hp, hl, q⟩
  unfold b_is_telling psV
  walk_at "wp"
  refine ⟨fun i ρ' S' => Ext S S' ∧ (∀ j, j < i → (List.range pss.length).any (fun k => !decide (k = j) && hasT (patAt pss k) ds (writtenT (patAt pss j) d)) = false) ∧ ∃ x3 x4 x5 x6 x7, ρ' = [some (psV pss), some (.ref n), some (dV d), x3, x4, x5, x6, x7],
    ⟨Ext.refl, fun j hj => absurd hj (Nat.not_lt_zero _), _, _, _, _, _, rfl⟩, fun _ _ _ _ => trivial, ?_, ?_⟩
  · rintro i x ρ' S1 hx ⟨e1, h1, x3, x4, x5, x6, x7, rfl⟩
    rw [enumW_at, List.getElem?_map, Nat.zero_add] at hx
    cases hps : pss[i]? with
    | none => rw [hps] at hx; cases hx
    | some ps =>
      rw [hps] at hx
      obtain rfl := Option.some.inj hx
      have hi := (List.getElem?_eq_some_iff.mp hps).1
      have hpa := patAt_of hps
      refine ⟨_, rfl, ?_⟩
      walk_at "wp"
      rw [C.written]
      refine ⟨ps, d, rfl, hd, hp ps (List.mem_of_getElem? hps), fun S2 e2 => ?_⟩
      have hT2 := tabs_ext (e1.trans e2) hT
      obtain ⟨rs, g1, g2, g3⟩ := hT2
      walk_at "wp"
      refine ⟨_, g1, ?_⟩
      refine comp_if (fun x => !decide (fstI x = i)) (fun x => .bl (hasT (patAt pss (fstI x)) ds (writtenT ps d))) rfl (fun S' e => e.getL g1) (by rw [enumW_len, List.length_map]; unfold big; omega) (fun x S' hx' e => ?_) fun S3 e3 k3 => ?_
      · obtain ⟨k, y, hk, rfl⟩ := enum_mem hx'
        rw [List.getElem?_map] at hk
        obtain ⟨r, hr, rfl⟩ := Option.map_eq_some_iff.mp hk
        have hkl : k < pss.length := by rw [← g2]; exact (List.getElem?_eq_some_iff.mp hr).1
        obtain ⟨r', b, c, hr', htab⟩ := g3 k _ (patAt_lt hkl)
        rw [hr] at hr'
        cases hr'
        refine ⟨_, rfl, fun Q1 q1 => ?_, fun S4 e4 _ Q1 q1 => ?_⟩
        · unfold natV
          walk_at "wp"
          have : decide ((k : Int) = (i : Int)) = decide (k = i) := by
            by_cases h : k = i
            · subst h; simp
            · have h' : ¬ (k : Int) = (i : Int) := by omega
              simp [h, h']
          rw [this]
          exact q1 S' Ext.refl
        · unfold natV
          simp only [e_cmp, e_var, gv_0, gv_s, Option.some.injEq, exists_eq_left', wi_0, wi_s, List.set_cons_zero, List.set_cons_succ]
          exact tab_in (tab_ext (e.trans e4) htab) _ (q1 _ Ext.refl)
      · have hall : ((List.range pss.length).any fun k => !decide (k = i) && hasT (patAt pss k) ds (writtenT (patAt pss i) d)) = ((((enumW 0 (rs.map PV.ref)).filter fun x => !decide (fstI x = i)).map fun x => hasT (patAt pss (fstI x)) ds (writtenT ps d)).any id) := by
          have := congrArg (fun l => (l.map fun v => hasT (patAt pss (fstI (.tup [v]))) ds (writtenT ps d)).any id) (enum_filter (fun k => !decide (k = i)) (rs.map PV.ref) 0)
          simp only [List.map_map, List.any_map] at this
          rw [List.length_map, g2, ← List.range_eq_range'] at this
          rw [hpa]
          simp only [List.any_map]
          rw [List.any_filter] at this ⊢
          rw [List.any_filter] at this
          refine Eq.trans ?_ this.symm
          rfl
        walk_at "wp"
        refine ⟨((enumW 0 (rs.map PV.ref)).filter fun x => !decide (fstI x = i)).map fun x => hasT (patAt pss (fstI x)) ds (writtenT ps d), ?_, ?_⟩
        · rw [getL_lst k3, List.map_map]; rfl
        rw [← hall]
        cases hb : (List.range pss.length).any fun k => !decide (k = i) && hasT (patAt pss k) ds (writtenT (patAt pss i) d) with
        | true =>
          rw [if_pos rfl]
          have := q S3 ((e1.trans e2).trans e3)
          rw [show tellB pss ds d = false by
            unfold tellB
            rw [List.all_eq_false]
            exact ⟨i, List.mem_range.mpr hi, by rw [hb]; decide⟩] at this
          exact this
        | false =>
          rw [if_neg (by decide)]
          refine ⟨(e1.trans e2).trans e3, fun j hj => ?_, _, _, _, _, _, rfl⟩
          by_cases hji : j = i
          · rw [hji]; exact hb
          · exact h1 j (by omega)
  · rintro ρ' S1 ⟨e1, h1, x3, x4, x5, x6, x7, rfl⟩
    rw [enumW_len, List.length_map] at h1
    have := q S1 e1
    rw [show tellB pss ds d = true by
      unfold tellB
      rw [List.all_eq_true]
      intro i hi
      rw [h1 i (List.mem_range.mp hi)]
      rfl] at this
    exact this
omit C in
theorem find_at {α : Type} {p : α → Bool} : ∀ {l : List α} {i : Nat} {d : α}, (∀ x ∈ l.take i, p x = false) → l[i]? = some d → p d = true → l.find? p = some d
  | x :: l, 0, d, _, h, e => by
    have : x = d := by simpa using h
    subst this
    rw [List.find?_cons, e]
  | x :: l, i + 1, d, h0, h, e => by
    rw [List.find?_cons, h0 x (by simp)]
    exact find_at (l := l) (i := i) (fun y hy => h0 y (by simp [hy])) (by simpa using h) e
theorem p_telling (h36 : Γ.ct 36 = ct_need_patterns) (h39 : Γ.ct 39 = ct_is_telling) : ∀ vs S Q R, ct_telling vs S Q R → wpB Γ 5 b_telling vs S Q R := by
  rintro vs S Q R ⟨pss, a, b, rfl, hp, hs, q⟩
  unfold b_telling
  walk_at "wp"
  rw [h36, C.need_span, C.dates_in]
  refine ⟨pss, rfl, hp, fun S1 e1 => ?_⟩
  walk_at "wp"
  refine ⟨a, b, hs, rfl, fun S2 e2 => ?_⟩
  unfold psV
  walk_at "wp"
  have hl5 := hp.2.1
  have hlen := datesIn_len hs
  refine comp_tabs C hs (goodPs_small hp) (by omega) (fun v => rfl) (fun v => rfl) fun S3 e3 hT => ?_
  refine ⟨a, b, hs, rfl, fun S4 n e4 hn g4 => ?_⟩
  walk_at "wp"
  refine ⟨_, getL_lst g4, ?_⟩
  refine ⟨fun i ρ' S' => Ext S4 S' ∧ (∀ x ∈ (datesIn a b).take i, tellB pss (datesIn a b) x = false) ∧ ∃ x3 x4, ρ' = [some (psV pss), some (.tup [.int a, .int b]), some (.ref S2.length), x3, x4],
    ⟨Ext.refl, by simp, _, _, rfl⟩, fun i ρ' S' w => w.1.getL (getL_lst g4), ?_, ?_⟩
  · rintro i x ρ' S5 hx ⟨e5, h5, x3, x4, rfl⟩
    rw [List.getElem?_map] at hx
    cases hd : (datesIn a b)[i]? with
    | none => rw [hd] at hx; cases hx
    | some d =>
      rw [hd] at hx
      obtain rfl := Option.some.inj hx
      refine ⟨_, rfl, ?_⟩
      walk_at "wp"
      rw [h39]
      refine ⟨_, pss, datesIn a b, d, rfl, tabs_ext (e4.trans e5) hT, (datesIn_date hs (List.mem_of_getElem? hd)).1, goodPs_small hp, by omega, fun S6 e6 => ?_⟩
      walk_at "wp"
      cases hb : tellB pss (datesIn a b) d with
      | true =>
        rw [if_pos rfl]
        have := q S6 (((((e1.trans e2).trans e3).trans e4).trans e5).trans e6)
        unfold tellT at this
        rw [find_at h5 hd hb] at this
        exact this
      | false =>
        rw [if_neg (by decide)]
        refine ⟨e5.trans e6, ?_, _, _, rfl⟩
        rw [List.take_add_one, hd]
        intro y hy
        rcases List.mem_append.mp hy with hy | hy
        · exact h5 y hy
        · have : y = d := by simpa using hy
          rw [this]; exact hb
  · rintro ρ' S5 ⟨e5, h5, x3, x4, rfl⟩
    rw [List.length_map, List.take_length] at h5
    have := q S5 ((((e1.trans e2).trans e3).trans e4).trans e5)
    unfold tellT at this
    rw [List.find?_eq_none.mpr fun x hx => by rw [h5 x hx]; decide] at this
    exact this
end
end PyI
set_option autoImplicit false
set_option linter.all false
set_option Elab.async false
set_option maxRecDepth 100000
set_option maxHeartbeats 4000000
namespace PyI
local macro_rules | `(tactic| walk_at "wp") => `(tactic| simp only [e_var, e_glb, e_int, e_str, e_bl, e_non, e_bin, e_cmp, e_chain, e_neg, e_and, e_or, e_not, e_ite, e_tup, e_lst, e_dic0, e_sub, e_slice, wo_nil, wo_int, wo_var, wo_bin, wo_neg, wo_blt, wo_call, wo_sub, e_lrg, e_lng, e_rev, e_call, e_blt, e_meth, e_comp, e_fld, e_newc, e_mcl, e_lenc, e_orv, e_selc, a_nil, a_cons,
  s_pass, s_seq, s_nm, s_tp, s_par, s_aug, s_setsub, s_augsub, s_ex, s_ret, s_retn, s_ite, s_whl, s_for, s_brk, s_cnt, s_rse, s_tri, s_setfld,
  b_add, b_adds, b_addr, b_addt, b_sub, b_mul, b_mulr, b_muls, b_mult, b_div, b_mod, b_pow, c_eq, c_eqs, c_eqr, c_eqt, c_eqn, c_ne, c_nes, c_ner, c_net, c_nen, c_lt, c_le, c_gt, c_ge, c_ltt, c_let, c_gtt, c_get, c_lts, c_les, c_gts, c_ges, c_isbb, c_isnn, c_isbn, c_isin, c_issn, c_istn, c_isrn, c_nsbb, c_nsnn, c_nsbn, c_nsin, c_nssn, c_nstn, c_nsrn,
  c_int, c_ins, c_inr, c_nit, c_nis, c_nir, n_int, i_tup, i_str, i_ref, i_dic, k_str, k_tup, k_ref, v_ref, v_tup, l_minD, l_maxD, l_min, l_max, z_vals, z_keys, z_enmt, z_zip3, l_lens, l_lent, l_lenr, l_str, l_int, l_dictP, l_isSeq_t, l_isSeq_r, l_isTup_r, l_isTup_i, l_tuplet, l_tupler, l_listt, l_listr, l_sum, l_all, l_any, l_isInt_i, l_isBool_i, l_isStr_s, l_isTup_t,
  m_starts, m_ins, m_split, m_part, m_popAt, y_popAt, y_ins, y_starts, y_split, y_part, m_app, m_ext, m_pop, m_join, m_alpha, m_sidx, m_get, m_setd, y_app, y_ext, y_pop, y_get, y_setd, y_str, y_alpha, y_sidx, t_bl, o_int, z_tup, z_ref, z_str, z_rng1, z_rng2, z_rng3, z_enm, z_zipt, z_zipr, w_ri, w_rs,
  at_0, at_1, at_2, at_3, gv_0, gv_s, sa_0, sa_s, st_nm, st_tp, wi_0, wi_s, st_0, st_s, st_n, wpB, List.set_cons_zero, List.set_cons_succ, Option.some.injEq, exists_eq_left', true_and, Bool.not_true, Bool.not_false, if_true, if_false, Bool.false_eq_true, exists_const, PV.ref.injEq, PV.str.injEq, PV.int.injEq, List.length_cons, List.length_nil])
/-! ### what laws over several patterns share -/
def optD : Option Date → Dt
  | none => .non
  | some d => dD d
theorem dn_opt {S : Store} : ∀ o : Option Date, Dn S 60 (optV o) (optD o)
  | none => .non
  | some d => dn_date d
theorem eqv_opt : ∀ x y : Option Date, (optD x).eqv (optD y) = decide (x = y)
  | none, none => rfl
  | none, some y => by unfold optD dD; simp [Dt.eqv]
  | some x, none => by unfold optD dD; simp [Dt.eqv]
  | some x, some y => by
    show (dD x).eqv (dD y) = _
    rw [eqv_dD]
    by_cases h : x = y
    · simp [h]
    · have : ¬ some x = some y := fun e => h (Option.some.inj e)
      rw [decide_eq_false h, decide_eq_false this]
theorem opt_is (o : Option Date) (S : Store) (Q : PQ) : cmpop .is (optV o) .non S Q = Q (.bl o.isNone) S := by cases o <;> rfl
theorem opt_isn (o : Option Date) (S : Store) (Q : PQ) : cmpop .isn (optV o) .non S Q = Q (.bl (!o.isNone)) S := by cases o <;> rfl
theorem opt_eq (x y : Option Date) {S : Store} {Q : PQ} (q : Q (.bl (decide (x = y))) S) : cmpop .eq (optV x) (optV y) S Q := by
  have h : ∃ d e, Dn S 60 (optV x) d ∧ Dn S 60 (optV y) e ∧ Q (.bl (d.eqv e)) S := ⟨_, _, dn_opt x, dn_opt y, by rw [eqv_opt]; exact q⟩
  cases x <;> exact h
theorem opt_ne (x y : Option Date) {S : Store} {Q : PQ} (q : Q (.bl (!decide (x = y))) S) : cmpop .ne (optV x) (optV y) S Q := by
  have h : ∃ d e, Dn S 60 (optV x) d ∧ Dn S 60 (optV y) e ∧ Q (.bl (!d.eqv e)) S := ⟨_, _, dn_opt x, dn_opt y, by rw [eqv_opt]; exact q⟩
  cases x <;> exact h
/-- [e for date, number in rows] -/
theorem comp_rows {Γ : Sig} {ρ : Env} {S2 : Store} {i j : Nat} {e : IE} {own : List Nat} {keep : Store → Prop} {Q : PQ} (f : Date → PV) {ds : List Date} (hk : ∀ S', Ext S2 S' → keep S') (hl : ds.length < big)
    (h : ∀ (d : Date) (S' : Store) (Q1 : PQ), d ∈ ds → Ext S2 S' → (∀ S'', Ext S' S'' → Q1 (f d) S'') → wpE Γ e (((wipeP ρ own).set i (some (dV d))).set j (some (.int (piy d)))) S' Q1 (fun _ _ => False))
    (q : ∀ S', Ext S2 S' → S'[S2.length]? = some (.lst (ds.map f)) → Q (.ref S2.length) S') :
    compP Γ ρ S2 Q (.tp [i, j]) own .nil e (ds.map rowV) keep := by
  refine comp_map (fun x => f (dateOf (fstP x))) hk (by rw [List.length_map]; exact hl) (fun x S' hx e1 => ?_) fun S' e1 h1 => q S' e1 ?_
  · obtain ⟨d, hd, rfl⟩ := List.mem_map.mp hx
    exact ⟨_, rfl, fun Q1 q1 => h d S' Q1 hd e1 q1⟩
  · rw [h1, List.map_map]; rfl
/-! ### dicts made of pairs -/
theorem lkp_cons (k : Txt) (v : PV) (r : List (Txt × PV)) (t : Txt) : lkp ((k, v) :: r) t = if k = t then some v else lkp r t := by
  unfold lkp
  rw [List.find?_cons]
  by_cases h : k = t
  · simp [h]
  · simp [h]
theorem lkp_put (kvs : List (Txt × PV)) (k : Txt) (v : PV) (t : Txt) : lkp (putD kvs k v) t = if k = t then some v else lkp kvs t := by
  unfold putD
  by_cases ha : (kvs.any fun pr => decide (pr.1 = k)) = true
  · rw [if_pos ha]
    induction kvs with
    | nil => cases ha
    | cons p r ih =>
      obtain ⟨k', v'⟩ := p
      rw [List.map_cons]
      by_cases hk : k' = k
      · subst hk
        rw [if_pos rfl, lkp_cons, lkp_cons]
        by_cases ht : k' = t
        · rw [if_pos ht, if_pos ht]
        · rw [if_neg ht, if_neg ht, if_neg ht]
          have : ∀ l : List (Txt × PV), lkp (l.map fun pr => if pr.1 = k' then (pr.1, v) else pr) t = lkp l t := by
            intro l
            induction l with
            | nil => rfl
            | cons q s ih2 =>
              obtain ⟨k2, v2⟩ := q
              rw [List.map_cons]
              by_cases h2 : k2 = k'
              · subst h2
                rw [if_pos rfl, lkp_cons, lkp_cons, if_neg ht, if_neg ht, ih2]
              · rw [if_neg h2, lkp_cons, lkp_cons, ih2]
          exact this r
      · rw [if_neg hk, lkp_cons, lkp_cons]
        have ha' : (r.any fun pr => decide (pr.1 = k)) = true := by
          rw [List.any_cons] at ha
          simpa [hk] using ha
        rw [ih ha']
        by_cases h1 : k' = t
        · rw [if_pos h1, if_pos h1]
          have : ¬ k = t := fun e => hk (h1.trans e.symm)
          rw [if_neg this]
        · rw [if_neg h1, if_neg h1]
  · rw [if_neg ha]
    induction kvs with
    | nil => rw [List.nil_append, lkp_cons]
    | cons p r ih =>
      obtain ⟨k', v'⟩ := p
      rw [List.any_cons] at ha
      simp only [Bool.or_eq_true, decide_eq_true_eq, not_or] at ha
      rw [List.cons_append, lkp_cons, lkp_cons, ih (by simpa using ha.2)]
      by_cases h1 : k' = t
      · rw [if_pos h1, if_pos h1]
        have : ¬ k = t := fun e => ha.1 (h1.trans e.symm)
        rw [if_neg this]
      · rw [if_neg h1, if_neg h1]
def mkD (kvs : List (Txt × PV)) : List (Txt × PV) := kvs.foldl (fun d q => putD d q.1 q.2) []
theorem mkD_snoc (l : List (Txt × PV)) (q : Txt × PV) : mkD (l ++ [q]) = putD (mkD l) q.1 q.2 := by
  unfold mkD
  rw [List.foldl_append]
  rfl
theorem lkp_nil (t : Txt) : lkp [] t = none := rfl
/-- a dict of texts: what it has -/
theorem mkD_go (f : Date → PV) (w : Date → Txt) (t : Txt) : ∀ (ds : List Date) (acc : List (Txt × PV)), (lkp ((ds.map fun d => (w d, f d)).foldl (fun d q => putD d q.1 q.2) acc) t).isSome = ((lkp acc t).isSome || decide (t ∈ ds.map w))
  | [], acc => by simp
  | d :: r, acc => by
    rw [List.map_cons, List.foldl_cons, mkD_go f w t r, lkp_put]
    by_cases h : w d = t
    · rw [if_pos h, List.map_cons, decide_eq_true (List.mem_cons.mpr (Or.inl h.symm))]
      rw [Option.isSome_some, Bool.true_or, Bool.or_true]
    · rw [if_neg h]
      have h2 : ¬ t = w d := fun e => h e.symm
      rw [List.map_cons, decide_eq_decide.mpr (show t ∈ w d :: r.map w ↔ t ∈ r.map w from ⟨fun z => (List.mem_cons.mp z).elim (fun e => absurd e h2) id, fun z => List.mem_cons_of_mem _ z⟩)]
theorem mkD_some (f : Date → PV) (w : Date → Txt) (t : Txt) (ds : List Date) : (lkp (mkD (ds.map fun d => (w d, f d))) t).isSome = decide (t ∈ ds.map w) := by
  have := mkD_go f w t ds []
  rw [lkp_nil] at this
  unfold mkD
  simpa using this
/-! ### patterns turned round -/
theorem adjB_last (p : Txt) : ∀ ps : List Txt, adjB (ps ++ [p]) = (adjB ps && match ps.getLast? with | none => true | some x => isFld x || isFld p)
  | [] => by simp [adjB]
  | [x] => by
    show adjB [x, p] = _
    rw [adjB_cons]
    simp [adjB]
  | x :: y :: r => by
    show adjB (x :: y :: (r ++ [p])) = _
    rw [adjB_cons, adjB_cons]
    have ih := adjB_last p (y :: r)
    rw [List.cons_append] at ih
    rw [ih, Bool.and_assoc]
    congr 2
theorem adjB_rev : ∀ ps : List Txt, adjB ps.reverse = adjB ps
  | [] => rfl
  | x :: r => by
    rw [List.reverse_cons, adjB_last, adjB_rev r, List.getLast?_reverse]
    cases r with
    | nil => simp [adjB]
    | cons y s =>
      rw [adjB_cons]
      simp only [List.head?_cons]
      rw [Bool.and_comm, Bool.or_comm]
theorem good_rev {ps : List Txt} (hp : goodPat ps) (hok : ∀ p ∈ ps, okPart p) : goodPat ps.reverse ∧ ∀ p ∈ ps.reverse, okPart p := by
  have h7 := good_len hp
  have hok' : ∀ p ∈ ps.reverse, okPart p := fun p h => hok p (List.mem_reverse.mp h)
  refine ⟨good_of (by rw [List.length_reverse]; exact h7.1) (by rw [List.length_reverse]; exact h7.2) hok' ?_, hok'⟩
  rw [adjB_rev]
  have := hp.2
  unfold patB at this
  exact (Bool.and_eq_true_iff.mp (Bool.and_eq_true_iff.mp this).2).2
theorem cut_map {α β : Type} (f : α → β) (l : List α) (lo hi : Option Int) : cut (l.map f) lo hi = (cut l lo hi).map f := by
  unfold cut
  rw [List.length_map, ← List.map_drop, ← List.map_take]
theorem mem_cut {α : Type} {l : List α} {lo hi : Option Int} {x : α} (h : x ∈ cut l lo hi) : x ∈ l := List.mem_of_mem_drop (List.mem_of_mem_take h)
theorem dn_strV {S : Store} {ps : List Txt} (h : ∀ p ∈ ps, okPart p) : Dn S 60 (strV ps) (.tup (ps.map Dt.str)) := .tup (dn_strs ps fun t ht => (ok_part (h t ht)).2.2.2.2.1)
theorem datesIn_pos {a b : Int} (h : isSpan a b) : 0 < (datesIn a b).length := by
  obtain ⟨h1, h2, h3, h4, h5, h6⟩ := h
  have hm : ((a, 1, 1) : Date) ∈ datesIn a b := by
    refine List.mem_flatMap.mpr ⟨a, irange_mem.mpr ⟨Int.le_refl _, by omega⟩, List.mem_flatMap.mpr ⟨1, irange_mem.mpr ⟨by decide, by decide⟩, List.mem_map.mpr ⟨1, irange_mem.mpr ⟨by decide, ?_⟩, rfl⟩⟩⟩
    have := mlen_bd a 1
    omega
  exact List.length_pos_of_mem hm
theorem dn_nats {S : Store} {k : Nat} : ∀ ns : List Nat, DnL S k (ns.map natV) (ns.map fun n => Dt.int ((n : Nat) : Int))
  | [] => .nil
  | n :: r => .cons (.int _) (dn_nats r)
theorem nats_ne {S : Store} {m n : Nat} {l : List Nat} {Q : PQ} (h1 : getL S m = some (l.map natV)) (h2 : getL S n = some (l.map natV)) (q : Q (.bl false) S) : cmpop .ne (.ref m) (.ref n) S Q := by
  refine ⟨_, _, .lst h1 (dn_nats l), .lst h2 (dn_nats l), ?_⟩
  rw [eqv_refl]
  exact q
theorem nats_eq {S : Store} {m n : Nat} {l : List Nat} {Q : PQ} (h1 : getL S m = some (l.map natV)) (h2 : getL S n = some (l.map natV)) (q : Q (.bl true) S) : cmpop .eq (.ref m) (.ref n) S Q := by
  refine ⟨_, _, .lst h1 (dn_nats l), .lst h2 (dn_nats l), ?_⟩
  rw [eqv_refl]
  exact q
theorem vals_of {α : Type} (f : α → PV) (P : α → Prop) : ∀ vs : List PV, (∀ v ∈ vs, ∃ d, P d ∧ v = f d) → ∃ cs : List α, vs = cs.map f ∧ ∀ d ∈ cs, P d
  | [], _ => ⟨[], rfl, by simp⟩
  | x :: r, h => by
    obtain ⟨d, hd, rfl⟩ := h x List.mem_cons_self
    obtain ⟨cs, rfl, hc⟩ := vals_of f P r fun v hv => h v (List.mem_cons_of_mem _ hv)
    exact ⟨d :: cs, rfl, fun z hz => (List.mem_cons.mp hz).elim (fun e => e ▸ hd) (hc z)⟩
end PyI
set_option autoImplicit false
set_option linter.all false
set_option Elab.async false
set_option maxRecDepth 100000
set_option maxHeartbeats 4000000
namespace PyI
local macro_rules | `(tactic| walk_at "wp") => `(tactic| simp only [e_var, e_glb, e_int, e_str, e_bl, e_non, e_bin, e_cmp, e_chain, e_neg, e_and, e_or, e_not, e_ite, e_tup, e_lst, e_dic0, e_sub, e_slice, wo_nil, wo_int, wo_var, wo_bin, wo_neg, wo_blt, wo_call, wo_sub, e_lrg, e_lng, e_rev, e_call, e_blt, e_meth, e_comp, e_fld, e_newc, e_mcl, e_lenc, e_orv, e_selc, a_nil, a_cons,
  s_pass, s_seq, s_nm, s_tp, s_par, s_aug, s_setsub, s_augsub, s_ex, s_ret, s_retn, s_ite, s_whl, s_for, s_brk, s_cnt, s_rse, s_tri, s_setfld,
  b_add, b_adds, b_addr, b_addt, b_sub, b_mul, b_mulr, b_muls, b_mult, b_div, b_mod, b_pow, c_eq, c_eqs, c_eqr, c_eqt, c_eqn, c_ne, c_nes, c_ner, c_net, c_nen, c_lt, c_le, c_gt, c_ge, c_ltt, c_let, c_gtt, c_get, c_lts, c_les, c_gts, c_ges, c_isbb, c_isnn, c_isbn, c_isin, c_issn, c_istn, c_isrn, c_nsbb, c_nsnn, c_nsbn, c_nsin, c_nssn, c_nstn, c_nsrn,
  c_int, c_ins, c_inr, c_nit, c_nis, c_nir, n_int, i_tup, i_str, i_ref, i_dic, k_str, k_tup, k_ref, v_ref, v_tup, l_minD, l_maxD, l_min, l_max, z_vals, z_keys, z_enmt, z_zip3, l_lens, l_lent, l_lenr, l_str, l_int, l_dictP, l_isSeq_t, l_isSeq_r, l_isTup_r, l_isTup_i, l_tuplet, l_tupler, l_listt, l_listr, l_sum, l_all, l_any, l_isInt_i, l_isBool_i, l_isStr_s, l_isTup_t,
  m_starts, m_ins, m_split, m_part, m_popAt, y_popAt, y_ins, y_starts, y_split, y_part, m_app, m_ext, m_pop, m_join, m_alpha, m_sidx, m_get, m_setd, y_app, y_ext, y_pop, y_get, y_setd, y_str, y_alpha, y_sidx, t_bl, o_int, z_tup, z_ref, z_str, z_rng1, z_rng2, z_rng3, z_enm, z_zipt, z_zipr, w_ri, w_rs,
  at_0, at_1, at_2, at_3, gv_0, gv_s, sa_0, sa_s, st_nm, st_tp, wi_0, wi_s, st_0, st_s, st_n, wpB, List.set_cons_zero, List.set_cons_succ, Option.some.injEq, exists_eq_left', true_and, Bool.not_true, Bool.not_false, if_true, if_false, Bool.false_eq_true, exists_const, PV.ref.injEq, PV.str.injEq, PV.int.injEq, List.length_cons, List.length_nil])
/-! ### a greedy reader -/
open PySem.NumText (digitsVal AllDigits)
abbrev GV := Sum Int Txt
def gv : GV → PV
  | .inl i => .int i
  | .inr s => .str s
def gD : GV → Dt
  | .inl i => .int i
  | .inr s => .str s
def digB (c : Nat) : Bool := decide (c ∈ digT)
def lngN (p : Txt) : Nat := ((lngT.lookup p).getD 0).toNat
def runT (k : Nat) (t : Txt) : Txt := (t.take k).takeWhile digB
/-- what is taken for a part at the head of a text: the value, how much -/
def takeT (p t : Txt) : Option (Option GV × Nat) :=
  if isFld p = false then (if t.take p.length = p then some (none, p.length) else none)
  else if p = [77, 79, 78] then (if t.take 3 ∈ moNames then some (some (.inr (t.take 3)), 3) else none)
  else if p = [87, 68] then (if t.take 3 ∈ wdNames then some (some (.inr (t.take 3)), 3) else none)
  else if runT (lngN p) t = [] then none else some (some (.inl (digitsVal (runT (lngN p) t) : Nat)), (runT (lngN p) t).length)
def greedyT : List Txt → Txt → Option (List GV)
  | [], t => if t = [] then some [] else none
  | p :: r, t => match takeT p t with
    | none => none
    | some (v, k) => (greedyT r (t.drop k)).map fun l => v.toList ++ l
theorem greedyT_nil (t : Txt) : greedyT [] t = if t = [] then some [] else none := rfl
theorem greedyT_cons (p : Txt) (r : List Txt) (t : Txt) : greedyT (p :: r) t = match takeT p t with
    | none => none
    | some (v, k) => (greedyT r (t.drop k)).map fun l => v.toList ++ l := rfl
def takV (n : Nat) : Option (Option GV × Nat) → PV
  | none => .non
  | some (v, k) => .tup [(v.map gv).getD .non, .int ((n + k : Nat) : Int)]
def valS (p : Txt) (d : Date) : GV := if p = [77, 79, 78] then .inr (moOf d) else if p = [87, 68] then .inr (wdOf d) else .inl (valN p d)
theorem valV_gv (p : Txt) (d : Date) : valV p d = gv (valS p d) := by
  unfold valV valS
  split
  · rfl
  · split <;> rfl
def dueT (ps : List Txt) (d : Date) : List GV := (ps.filter isFld).map fun p => valS p d
def misB (ps : List Txt) (d : Date) : Bool := !decide (greedyT ps (writtenT ps d) = some (dueT ps d))
def misT (ps : List Txt) (ds : List Date) : Option Date := ds.find? fun d => misB ps d
def ct_taken : Ct := fun vs S Q _ => ∃ (p t : Txt) (n : Nat), vs = [.str p, .str t, .int n] ∧ p.length ≤ 1000 ∧ t.length ≤ 100000 ∧ n ≤ t.length ∧ Q (takV n (takeT p (t.drop n))) S
def ct_greedy_result : Ct := fun vs S Q _ => ∃ (ps : List Txt) (t : Txt), vs = [strV ps, .str t] ∧ goodPat ps ∧ t.length ≤ 100000 ∧
  (greedyT ps t = none → ∀ S', Ext S S' → Q .non S') ∧ ∀ l, greedyT ps t = some l → ∀ S' n, Ext S S' → S.length ≤ n → S'[n]? = some (.lst (l.map gv)) → Q (.ref n) S'
def ct_misread : Ct := fun vs S Q _ => ∃ (ps : List Txt) (a b : Int), vs = [strV ps, .tup [.int a, .int b]] ∧ isSpan a b ∧ goodPat ps ∧ ∀ S', Ext S S' → Q (optV (misT ps (datesIn a b))) S'
theorem cut_mid {α : Type} (t : List α) (n k : Nat) (h : n ≤ t.length) : cut t (some (n : Int)) (some ((n : Int) + (k : Int))) = (t.drop n).take k := by
  unfold cut
  have h1 : sIx t.length 0 (some (n : Int)) = n := by
    unfold sIx
    simp only
    rw [if_neg (by omega)]
    omega
  have h2 : sIx t.length t.length (some ((n : Int) + (k : Int))) = min (n + k) t.length := by
    unfold sIx
    simp only
    rw [if_neg (by omega)]
    congr 1
  rw [h1, h2]
  by_cases h3 : n + k ≤ t.length
  · rw [Nat.min_eq_left h3, show n + k - n = k by omega]
  · rw [Nat.min_eq_right (by omega), List.take_of_length_le (by rw [List.length_drop]; omega), List.take_of_length_le (by rw [List.length_drop]; omega)]
theorem at_txt (t : Txt) (n : Nat) (h : n < t.length) : atP t (n : Int) = some (t[n]'h) := by
  show t[n]? = _
  exact List.getElem?_eq_getElem h
theorem lng_of {p : Txt} (hf : isFld p = true) (h1 : p ≠ [77, 79, 78]) (h2 : p ≠ [87, 68]) : lngT.lookup p = some (lngN p : Int) ∧ lngN p ≤ 4 ∧ 1 ≤ lngN p := by
  have hm : p ∈ fieldT := of_decide_eq_true hf
  simp only [fieldT, List.mem_cons, List.not_mem_nil, or_false] at hm
  rcases hm with rfl | rfl | rfl | rfl | rfl | rfl | rfl | rfl | rfl | rfl
  all_goals first | exact absurd rfl h1 | exact absurd rfl h2 | exact ⟨rfl, by decide, by decide⟩
theorem runT_all (k : Nat) (t : Txt) : ∀ c ∈ runT k t, digB c = true := by
  intro c hc
  unfold runT at hc
  generalize t.take k = l at hc
  induction l with
  | nil => cases hc
  | cons x r ih =>
    rw [List.takeWhile_cons] at hc
    split at hc
    · rename_i hx
      rcases List.mem_cons.mp hc with rfl | hc
      · exact hx
      · exact ih hc
    · cases hc
theorem digB_iff {c : Nat} (h : digB c = true) : 48 ≤ c ∧ c ≤ 57 := by
  have : c ∈ digT := of_decide_eq_true h
  unfold digT at this
  simp only [List.mem_cons, List.not_mem_nil, or_false] at this
  omega
theorem runT_len (k : Nat) (t : Txt) : (runT k t).length ≤ k := by
  unfold runT
  have h : ∀ l : Txt, (l.takeWhile digB).length ≤ l.length := fun l => (List.takeWhile_sublist (p := digB) (l := l)).length_le
  have := h (t.take k)
  rw [List.length_take] at this
  omega
/-- the row of digits is found by going on while there is one -/
theorem runT_step {k j : Nat} {t : Txt} (hj : ∀ i (h : i < t.length), i < j → digB t[i] = true) (hjk : j ≤ k) (hl : j ≤ t.length) (stop : j = t.length ∨ j = k ∨ ∃ h : j < t.length, digB t[j] = false) : runT k t = t.take j := by
  induction j generalizing k t with
  | zero =>
    unfold runT
    rcases stop with h | h | ⟨h, hd⟩
    · rw [List.length_eq_zero_iff.mp h.symm]; simp
    · rw [← h]; simp
    · cases t with
      | nil => simp
      | cons x r =>
        cases k with
        | zero => simp
        | succ k =>
          rw [List.take_succ_cons, List.takeWhile_cons]
          have : digB x = false := hd
          rw [this]
          rfl
  | succ j ih =>
    cases t with
    | nil => simp at hl
    | cons x r =>
      cases k with
      | zero => omega
      | succ k =>
        have hx : digB x = true := hj 0 (by simp) (by omega)
        have := ih (k := k) (t := r) (fun i h hi => hj (i + 1) (by simp; omega) (by omega)) (by omega) (by simpa using hl) (by
          rcases stop with h | h | ⟨h, hd⟩
          · left; simpa using h
          · right; left; omega
          · right; right; exact ⟨by simpa using h, by simpa using hd⟩)
        unfold runT at this ⊢
        rw [List.take_succ_cons, List.takeWhile_cons, hx, if_pos rfl, this, List.take_succ_cons]
theorem int_run {t : Txt} (h : ∀ c ∈ t, digB c = true) (h1 : t ≠ []) (h2 : t.length ≤ 4) : PySem.intText? (ofT t) = some ((digitsVal t : Nat) : Int) := by
  have e : (ofT t).cps.toList = t := by unfold ofT; simp
  have := PySem.intText_digits (x := ofT t) (by rw [e]; exact fun c hc => digB_iff (h c hc)) (by rw [e]; exact h1) (by show t.toArray.size ≤ _; simp; omega)
  rw [e] at this
  exact this
section
variable {Γ : Sig} (C : Hlp Γ)
include C
theorem p_taken : ∀ vs S Q R, ct_taken vs S Q R → wpB Γ 5 b_taken vs S Q R := by
  rintro vs S Q R ⟨p, t, n, rfl, hp, ht, hn, q⟩
  unfold b_taken
  walk_at "wp"
  rw [C.gl]
  refine ⟨_, rfl, ?_⟩
  unfold strV
  walk_at "wp"
  refine ⟨rfl, flat_strs _, ?_⟩
  rw [inP_str]
  have hB : t.length ≤ big := by unfold big; omega
  have hpB : p.length ≤ big := by unfold big; omega
  cases hf : isFld p with
  | false =>
    have e : decide (p ∈ fieldT) = false := hf
    rw [e, if_pos (by decide)]
    refine ⟨hpB, hB, ?_⟩
    rw [cut_mid t n p.length hn]
    unfold takeT at q
    rw [if_pos hf] at q
    by_cases h : (t.drop n).take p.length = p
    · rw [if_pos (decide_eq_true h)]
      rw [if_pos h] at q
      refine ⟨hpB, ?_⟩
      exact q
    · rw [if_neg (by simpa using h)]
      rw [if_neg h] at q
      exact q
  | true =>
    have e : decide (p ∈ fieldT) = true := hf
    rw [e, if_neg (by decide)]
    rw [show ([PV.str [77, 79, 78], PV.str [87, 68]] : List PV) = ([[77, 79, 78], [87, 68]] : List Txt).map PV.str from rfl, inP_str]
    refine ⟨rfl, rfl, ?_⟩
    unfold takeT at q
    rw [if_neg (by rw [hf]; decide)] at q
    by_cases k1 : p = [77, 79, 78]
    · subst k1
      rw [if_pos (by decide)]
      refine ⟨hB, ?_⟩
      rw [if_pos rfl] at q
      rw [if_pos (by decide)]
      refine ⟨_, rfl, ?_⟩
      rw [show ((n : Int) + 3) = (n : Int) + ((3 : Nat) : Int) from rfl, cut_mid t n 3 hn, strV, c_int]
      refine ⟨rfl, flat_strs _, ?_⟩
      rw [inP_str, t_bl]
      by_cases h : (t.drop n).take 3 ∈ moNames
      · rw [if_pos (decide_eq_true h)]
        rw [if_pos h] at q
        exact q
      · rw [if_neg (by simpa using h)]
        rw [if_neg h] at q
        exact q
    · rw [if_neg k1] at q
      by_cases k2 : p = [87, 68]
      · subst k2
        rw [if_pos (by decide)]
        refine ⟨hB, ?_⟩
        rw [if_pos rfl] at q
        rw [if_neg (by decide)]
        refine ⟨_, rfl, ?_⟩
        rw [show ((n : Int) + 3) = (n : Int) + ((3 : Nat) : Int) from rfl, cut_mid t n 3 hn, strV, c_int]
        refine ⟨rfl, flat_strs _, ?_⟩
        rw [inP_str, t_bl]
        by_cases h : (t.drop n).take 3 ∈ wdNames
        · rw [if_pos (decide_eq_true h)]
          rw [if_pos h] at q
          exact q
        · rw [if_neg (by simpa using h)]
          rw [if_neg h] at q
          exact q
      · rw [if_neg k2] at q
        rw [if_neg (by simp [k1, k2])]
        obtain ⟨hl1, hl2, hl3⟩ := lng_of hf k1 k2
        refine ⟨fun m ρ' S' => S' = S ∧ ∃ j : Nat, m = 5 - j ∧ j ≤ lngN p ∧ n + j ≤ t.length ∧ (∀ i (h : i < (t.drop n).length), i < j → digB (t.drop n)[i] = true) ∧ ρ' = [some (.str p), some (.str t), some (.int n), none, some (.int ((n + j : Nat) : Int))],
          ⟨5, rfl, 0, rfl, Nat.zero_le _, hn, fun i h hi => absurd hi (Nat.not_lt_zero _), rfl⟩, ?_⟩
        rintro m ρ' S' ⟨rfl, j, rfl, j1, j2, j3, rfl⟩
        have hdl : (t.drop n).length = t.length - n := List.length_drop
        walk_at "wp"
        refine ⟨hB, ?_⟩
        have fin : runT (lngN p) (t.drop n) = (t.drop n).take j → (if decide ((n : Int) < ((n + j : Nat) : Int)) = true then (t.length ≤ big ∧ ∃ m : Int, PySem.intText? (ofT (cut t (some (n : Int)) (some ((n + j : Nat) : Int)))) = some m ∧ (cut t (some (n : Int)) (some ((n + j : Nat) : Int))).length ≤ 640 ∧ Q (.tup [.int m, .int ((n + j : Nat) : Int)]) S') else Q .non S') := by
          intro hr
          have hrl : (runT (lngN p) (t.drop n)).length = j := by rw [hr, List.length_take]; omega
          by_cases hj : j = 0
          · rw [if_neg (by simp; omega)]
            rw [if_pos (List.length_eq_zero_iff.mp (by omega))] at q
            exact q
          · rw [if_pos (decide_eq_true (by omega))]
            have hne : runT (lngN p) (t.drop n) ≠ [] := fun z => hj (by rw [← hrl, z]; rfl)
            rw [if_neg hne] at q
            have hc : cut t (some (n : Int)) (some ((n + j : Nat) : Int)) = runT (lngN p) (t.drop n) := by
              rw [show ((n + j : Nat) : Int) = (n : Int) + (j : Int) by omega, cut_mid t n j hn, hr]
            rw [hc]
            refine ⟨hB, _, int_run (runT_all _ _) hne (by rw [hrl]; omega), by rw [hrl]; omega, ?_⟩
            rw [hrl] at q
            exact q
        by_cases h1 : n + j < t.length
        · rw [if_pos (decide_eq_true (show ((n + j : Nat) : Int) < (t.length : Int) by omega))]
          refine ⟨_, _, rfl, hl1, ?_⟩
          by_cases h2 : j < lngN p
          · rw [if_pos (decide_eq_true (show ((n + j : Nat) : Int) - (n : Int) < (lngN p : Int) by omega))]
            refine ⟨hB, _, at_txt t (n + j) h1, ?_⟩
            rw [C.gl]
            refine ⟨_, rfl, ?_⟩
            walk_at "wp"
            refine ⟨_, rfl, ?_⟩
            have hg : (t.drop n)[j]'(by omega) = t[n + j]'h1 := by rw [List.getElem_drop]
            cases hd : digB (t[n + j]'h1) with
            | true =>
              rw [if_pos (show decide (t[n + j]'h1 ∈ digT) = true from hd)]
              refine ⟨4 - j, by omega, j + 1, by omega, by omega, by omega, fun i hi hij => ?_, ?_⟩
              · by_cases hij' : i = j
                · subst hij'
                  rw [hg]; exact hd
                · exact j3 i hi (by omega)
              · rw [show ((n + j : Nat) : Int) + 1 = ((n + (j + 1) : Nat) : Int) by omega]
            | false =>
              rw [if_neg (show ¬ decide (t[n + j]'h1 ∈ digT) = true by rw [show decide (t[n + j]'h1 ∈ digT) = false from hd]; decide)]
              exact fin (runT_step (fun i h hi => j3 i h hi) j1 (by omega) (Or.inr (Or.inr ⟨by omega, by rw [hg]; exact hd⟩)))
          · rw [if_neg (show ¬ decide (((n + j : Nat) : Int) - (n : Int) < (lngN p : Int)) = true by rw [decide_eq_true_eq]; omega)]
            exact fin (runT_step (fun i h hi => j3 i h hi) j1 (by omega) (Or.inr (Or.inl (by omega))))
        · rw [if_neg (show ¬ decide (((n + j : Nat) : Int) < (t.length : Int)) = true by rw [decide_eq_true_eq]; omega)]
          exact fin (runT_step (fun i h hi => j3 i h hi) j1 (by omega) (Or.inl (by omega)))
omit C in
theorem gv_valS (p : Txt) (d : Date) {Q : PQ} {S : Store} (q : Q (gv (valS p d)) S) : Q (valV p d) S := by rw [valV_gv]; exact q
theorem p_greedy_result (h31 : Γ.ct 31 = ct_taken) : ∀ vs S Q R, ct_greedy_result vs S Q R → wpB Γ 6 b_greedy_result vs S Q R := by
  rintro vs S Q R ⟨ps, t, rfl, hp, ht, qn, qs⟩
  unfold b_greedy_result strV
  walk_at "wp"
  have hp7 := good_len hp
  refine ⟨fun i ρ' S' => Ext S S' ∧ ∃ (acc : List GV) (n : Nat) (x4 x5 : Option PV), S'[S.length]? = some (.lst (acc.map gv)) ∧ acc.length ≤ i ∧ n ≤ t.length ∧ greedyT ps t = (greedyT (ps.drop i) (t.drop n)).map (fun l => acc ++ l) ∧ ρ' = [some (strV ps), some (.str t), some (.ref S.length), some (.int n), x4, x5],
    ⟨Ext.new, [], 0, _, _, new_at, Nat.le_refl _, Nat.zero_le _, ?_, rfl⟩, fun _ _ _ _ => trivial, ?_, ?_⟩
  · rw [List.drop_zero, List.drop_zero]
    cases greedyT ps t <;> rfl
  · rintro i x ρ' S1 hx ⟨e1, acc, n, x4, x5, g1, ha, hn, hg, rfl⟩
    rw [List.getElem?_map] at hx
    obtain ⟨p, hpi, rfl⟩ := Option.map_eq_some_iff.mp hx
    have hi := (List.getElem?_eq_some_iff.mp hpi).1
    have hpi' : ps[i] = p := (List.getElem?_eq_some_iff.mp hpi).2
    have hdr : ps.drop i = p :: ps.drop (i + 1) := by rw [List.drop_eq_getElem_cons hi, hpi']
    have hpl := hp.1.2 p (List.mem_of_getElem? hpi)
    refine ⟨_, rfl, ?_⟩
    walk_at "wp"
    rw [h31]
    refine ⟨p, t, n, rfl, hpl, ht, hn, ?_⟩
    rw [hdr, greedyT_cons] at hg
    cases hk : takeT p (t.drop n) with
    | none =>
      rw [hk] at hg
      show cmpop .is .non .non _ _
      walk_at "wp"
      exact qn hg S1 e1
    | some r =>
      obtain ⟨v, k⟩ := r
      rw [hk] at hg
      have hkl : n + k ≤ t.length ∧ (isFld p = true → ∃ g, v = some g) ∧ (isFld p = false → v = none) := by
        unfold takeT at hk
        split at hk
        · rename_i hf
          split at hk
          · rename_i h
            cases hk
            have := congrArg List.length h
            rw [List.length_take, List.length_drop] at this
            exact ⟨by omega, (fun z => by rw [hf] at z; cases z), fun _ => rfl⟩
          · cases hk
        · rename_i hf
          have nt3 : ∀ {l : List Txt}, (∀ x ∈ l, x.length = 3) → (t.drop n).take 3 ∈ l → n + 3 ≤ t.length := fun h m => by
            have := h _ m
            rw [List.length_take, List.length_drop] at this
            omega
          split at hk
          · split at hk
            · rename_i h
              cases hk
              exact ⟨nt3 (by decide) h, fun _ => ⟨_, rfl⟩, fun z => absurd z hf⟩
            · cases hk
          · split at hk
            · split at hk
              · rename_i h
                cases hk
                exact ⟨nt3 (by decide) h, fun _ => ⟨_, rfl⟩, fun z => absurd z hf⟩
              · cases hk
            · split at hk
              · cases hk
              · cases hk
                refine ⟨?_, fun _ => ⟨_, rfl⟩, fun z => absurd z hf⟩
                have h1 : ∀ l : Txt, (l.takeWhile digB).length ≤ l.length := fun l => (List.takeWhile_sublist (p := digB) (l := l)).length_le
                have := h1 ((t.drop n).take (lngN p))
                unfold runT
                rw [List.length_take, List.length_drop] at this
                omega
      obtain ⟨hnk, hv1, hv2⟩ := hkl
      have hg' : greedyT ps t = (greedyT (ps.drop (i + 1)) (t.drop (n + k))).map fun l => (acc ++ v.toList) ++ l := by
        rw [hg]
        show Option.map _ (Option.map _ (greedyT (ps.drop (i + 1)) ((t.drop n).drop k))) = _
        rw [List.drop_drop, Option.map_map]
        congr 1
        funext l
        simp [List.append_assoc]
      unfold takV
      walk_at "wp"
      rw [C.gl]
      refine ⟨_, rfl, ?_⟩
      unfold strV
      walk_at "wp"
      refine ⟨rfl, flat_strs _, ?_⟩
      rw [inP_str]
      cases hf : isFld p with
      | false =>
        rw [if_neg (show ¬ decide (p ∈ fieldT) = true by rw [show decide (p ∈ fieldT) = false from hf]; decide)]
        refine ⟨e1, acc, n + k, _, _, g1, by omega, hnk, ?_, rfl⟩
        rw [hv2 hf] at hg'
        simpa using hg'
      | true =>
        rw [if_pos (show decide (p ∈ fieldT) = true from hf)]
        obtain ⟨g, rfl⟩ := hv1 hf
        refine ⟨⟨_, _, rfl, getL_lst g1⟩, _, g1, by rw [List.length_map]; unfold big; omega, e1.set (Nat.le_refl _), acc ++ [g], n + k, _, _, ?_, by rw [List.length_append]; simp; omega, hnk, hg', rfl⟩
        rw [List.getElem?_set_self (List.getElem?_eq_some_iff.mp g1).1, List.map_append]
        rfl
  · rintro ρ' S1 ⟨e1, acc, n, x4, x5, g1, ha, hn, hg, rfl⟩
    rw [List.length_map, List.drop_length, greedyT_nil] at hg
    walk_at "wp"
    refine ⟨by unfold big; omega, ?_⟩
    by_cases h : n = t.length
    · rw [if_pos (decide_eq_true (by omega))]
      rw [if_pos (by rw [h, List.drop_length])] at hg
      exact qs acc (by simpa using hg) S1 _ e1 (Nat.le_refl _) g1
    · rw [if_neg (by rw [decide_eq_true_eq]; omega)]
      rw [if_neg (fun z => by have := congrArg List.length z; rw [List.length_drop] at this; simp at this; omega)] at hg
      exact qn hg S1 e1
omit C in
/-- the names that are taken are names -/
theorem greedyT_ok : ∀ (ps : List Txt) (t : Txt) (l : List GV), greedyT ps t = some l → ∀ s, .inr s ∈ l → s ∈ moNames ++ wdNames
  | [], t, l, h, s, hs => by
    rw [greedyT_nil] at h
    split at h
    · cases h; cases hs
    · cases h
  | p :: r, t, l, h, s, hs => by
    rw [greedyT_cons] at h
    cases hk : takeT p t with
    | none => rw [hk] at h; cases h
    | some x =>
      obtain ⟨v, k⟩ := x
      rw [hk] at h
      obtain ⟨l', hl, rfl⟩ := Option.map_eq_some_iff.mp h
      rcases List.mem_append.mp hs with hs | hs
      · have hv : v = some (.inr s) := by
          cases v with
          | none => cases hs
          | some g => rw [List.mem_singleton.mp (show Sum.inr s ∈ [g] from hs)]
        subst hv
        clear h hs
        unfold takeT at hk
        repeat' split at hk
        all_goals first | (cases hk; done) | skip
        · rename_i h; cases hk; exact List.mem_append_left _ h
        · rename_i h; cases hk; exact List.mem_append_right _ h
      · exact greedyT_ok r _ l' hl s hs
omit C in
theorem dn_gvs {S : Store} {k : Nat} : ∀ l : List GV, (∀ s, .inr s ∈ l → txtOk s) → DnL S k (l.map gv) (l.map gD)
  | [], _ => .nil
  | .inl i :: r, h => .cons (.int i) (dn_gvs r fun s hs => h s (List.mem_cons_of_mem _ hs))
  | .inr s :: r, h => .cons (.str s (h s List.mem_cons_self)) (dn_gvs r fun s hs => h s (List.mem_cons_of_mem _ hs))
omit C in
theorem names_ok : ∀ s ∈ moNames ++ wdNames, txtOk s := by
  have : ∀ s ∈ moNames ++ wdNames, ∀ c ∈ s, c < 1114112 := by decide
  exact this
omit C in
theorem eqv_gvs : ∀ l m : List GV, Dt.eqvAll (l.map gD) (m.map gD) = decide (l = m)
  | [], [] => by simp [Dt.eqvAll]
  | [], _ :: _ => by simp [Dt.eqvAll]
  | _ :: _, [] => by simp [Dt.eqvAll]
  | x :: r, y :: t => by
    rw [List.map_cons, List.map_cons, Dt.eqvAll, eqv_gvs r t]
    have : (gD x).eqv (gD y) = decide (x = y) := by
      cases x <;> cases y <;> simp [gD, Dt.eqv]
      · rename_i a b
        by_cases h : a = b <;> simp [h]
      · rename_i a b
        by_cases h : a = b <;> simp [h]
    rw [this]
    by_cases h1 : x = y
    · subst h1
      by_cases h2 : r = t
      · subst h2; simp
      · simp [h2]
    · simp [h1]
omit C in
theorem due_ok (ps : List Txt) (d : Date) (hd : isDate d) : ∀ s, .inr s ∈ dueT ps d → txtOk s := by
  intro s hs
  obtain ⟨p, hp, e⟩ := List.mem_map.mp hs
  unfold valS at e
  split at e
  · cases e; exact names_ok _ (List.mem_append_left _ (mo_mem d hd))
  · split at e
    · cases e; exact names_ok _ (List.mem_append_right _ (wd_mem d))
    · cases e
theorem p_misread (h32 : Γ.ct 32 = ct_greedy_result) : ∀ vs S Q R, ct_misread vs S Q R → wpB Γ 5 b_misread vs S Q R := by
  rintro vs S Q R ⟨ps, a, b, rfl, hs, hp, q⟩
  unfold b_misread
  walk_at "wp"
  rw [C.need_pattern, C.need_span, C.dates_in]
  refine ⟨ps, rfl, hp, fun S1 e1 => ?_⟩
  walk_at "wp"
  refine ⟨a, b, hs, rfl, fun S2 e2 => ?_⟩
  walk_at "wp"
  refine ⟨a, b, hs, rfl, fun S3 n e3 hn g3 => ?_⟩
  have hp7 := good_len hp
  walk_at "wp"
  refine ⟨_, getL_lst g3, ?_⟩
  refine ⟨fun i ρ' S' => Ext S3 S' ∧ (∀ x ∈ (datesIn a b).take i, misB ps x = false) ∧ ∃ x2 x3 x4, ρ' = [some (strV ps), some (.tup [.int a, .int b]), x2, x3, x4],
    ⟨Ext.refl, by simp, _, _, _, rfl⟩, fun i ρ' S' w => w.1.getL (getL_lst g3), ?_, ?_⟩
  · rintro i x ρ' S4 hx ⟨e4, h4, x2, x3, x4, rfl⟩
    rw [List.getElem?_map] at hx
    cases hd : (datesIn a b)[i]? with
    | none => rw [hd] at hx; cases hx
    | some d =>
      rw [hd] at hx
      obtain rfl := Option.some.inj hx
      have hdd := (datesIn_date hs (List.mem_of_getElem? hd)).1
      refine ⟨_, rfl, ?_⟩
      unfold strV
      walk_at "wp"
      refine comp_if (strB isFld) (strF fun p => valV p d) rfl (fun _ _ => trivial) (by rw [List.length_map]; unfold big; omega) (fun x S' hx e => ?_) fun S5 e5 g5 => ?_
      · obtain ⟨p, hpm, rfl⟩ := List.mem_map.mp hx
        refine ⟨_, rfl, fun Q1 q1 => ?_, fun S6 e6 hf Q1 q1 => ?_⟩
        · walk_at "wp"
          rw [C.gl]
          refine ⟨_, rfl, ?_⟩
          unfold strV
          walk_at "wp"
          refine ⟨rfl, flat_strs _, ?_⟩
          rw [inP_str]
          exact q1 _ Ext.refl
        · walk_at "wp"
          rw [C.value_of]
          exact ⟨p, d, rfl, hdd, hf, q1⟩
      have g5 : S5[S4.length]? = some (.lst ((dueT ps d).map gv)) := by
        rw [g5, List.filter_map, List.map_map]
        unfold dueT
        rw [List.map_map]
        congr 2
        apply List.map_congr_left
        intro p _
        exact valV_gv p d
      rw [C.written]
      refine ⟨ps, d, rfl, hdd, hp.1, fun S6 e6 => ?_⟩
      rw [h32]
      have hwl := wr_len d hdd ps hp.1.2
      have bad : ∀ S7, Ext S6 S7 → misB ps d = true → Q (dV d) S7 := fun S7 e7 hb => by
        have := q S7 ((((((e1.trans e2).trans e3).trans e4).trans e5).trans e6).trans e7)
        unfold misT at this
        rw [find_at h4 hd hb] at this
        exact this
      refine ⟨ps, writtenT ps d, rfl, hp, by omega, fun hg S7 e7 => ?_, fun l hg S7 k e7 hk g7 => ?_⟩
      · refine ⟨.non, .lst ((dueT ps d).map gD), .non, .lst ((e6.trans e7).getL (getL_lst g5)) (dn_gvs _ (due_ok ps d hdd)), ?_⟩
        walk_at "wp"
        rw [if_pos (by rw [Dt.eqv]; rfl)]
        refine bad S7 e7 ?_
        unfold misB
        rw [hg]
        simp
      · refine ⟨.lst (l.map gD), .lst ((dueT ps d).map gD), .lst (getL_lst g7) (dn_gvs _ fun s hs => names_ok s (greedyT_ok ps _ l hg s hs)), .lst ((e6.trans e7).getL (getL_lst g5)) (dn_gvs _ (due_ok ps d hdd)), ?_⟩
        walk_at "wp"
        have hb : misB ps d = !((Dt.lst (l.map gD)).eqv (.lst ((dueT ps d).map gD))) := by
          unfold misB
          rw [hg]
          show _ = !(Dt.eqvAll (l.map gD) ((dueT ps d).map gD))
          rw [eqv_gvs]
          congr 1
          by_cases h : l = dueT ps d <;> simp [h]
        rw [← hb]
        cases hm : misB ps d with
        | true =>
          rw [if_pos rfl]
          exact bad S7 e7 hm
        | false =>
          rw [if_neg (by decide)]
          refine ⟨((e4.trans e5).trans e6).trans e7, ?_, _, _, _, rfl⟩
          rw [List.take_add_one, hd]
          intro y hy
          rcases List.mem_append.mp hy with hy | hy
          · exact h4 y hy
          · have : y = d := by simpa using hy
            rw [this]; exact hm
  · rintro ρ' S4 ⟨e4, h4, x2, x3, x4, rfl⟩
    rw [List.length_map, List.take_length] at h4
    have := q S4 (((e1.trans e2).trans e3).trans e4)
    unfold misT at this
    rw [List.find?_eq_none.mpr fun x hx => by rw [h4 x hx]; decide] at this
    exact this
end
end PyI
set_option autoImplicit false
set_option linter.all false
set_option Elab.async false
set_option maxRecDepth 100000
set_option maxHeartbeats 4000000
namespace PyI
local macro_rules | `(tactic| walk_at "wp") => `(tactic| simp only [e_var, e_glb, e_int, e_str, e_bl, e_non, e_bin, e_cmp, e_chain, e_neg, e_and, e_or, e_not, e_ite, e_tup, e_lst, e_dic0, e_sub, e_slice, wo_nil, wo_int, wo_var, wo_bin, wo_neg, wo_blt, wo_call, wo_sub, e_lrg, e_lng, e_rev, e_call, e_blt, e_meth, e_comp, e_fld, e_newc, e_mcl, e_lenc, e_orv, e_selc, a_nil, a_cons,
  s_pass, s_seq, s_nm, s_tp, s_par, s_aug, s_setsub, s_augsub, s_ex, s_ret, s_retn, s_ite, s_whl, s_for, s_brk, s_cnt, s_rse, s_tri, s_setfld,
  b_add, b_adds, b_addr, b_addt, b_sub, b_mul, b_mulr, b_muls, b_mult, b_div, b_mod, b_pow, c_eq, c_eqs, c_eqr, c_eqt, c_eqn, c_ne, c_nes, c_ner, c_net, c_nen, c_lt, c_le, c_gt, c_ge, c_ltt, c_let, c_gtt, c_get, c_lts, c_les, c_gts, c_ges, c_isbb, c_isnn, c_isbn, c_isin, c_issn, c_istn, c_isrn, c_nsbb, c_nsnn, c_nsbn, c_nsin, c_nssn, c_nstn, c_nsrn,
  c_int, c_ins, c_inr, c_nit, c_nis, c_nir, n_int, i_tup, i_str, i_ref, i_dic, k_str, k_tup, k_ref, v_ref, v_tup, l_minD, l_maxD, l_min, l_max, z_vals, z_keys, z_enmt, z_zip3, l_lens, l_lent, l_lenr, l_str, l_int, l_dictP, l_isSeq_t, l_isSeq_r, l_isTup_r, l_isTup_i, l_tuplet, l_tupler, l_listt, l_listr, l_sum, l_all, l_any, l_isInt_i, l_isBool_i, l_isStr_s, l_isTup_t,
  m_starts, m_ins, m_split, m_part, m_popAt, y_popAt, y_ins, y_starts, y_split, y_part, m_app, m_ext, m_pop, m_join, m_alpha, m_sidx, m_get, m_setd, y_app, y_ext, y_pop, y_get, y_setd, y_str, y_alpha, y_sidx, t_bl, o_int, z_tup, z_ref, z_str, z_rng1, z_rng2, z_rng3, z_enm, z_zipt, z_zipr, w_ri, w_rs,
  at_0, at_1, at_2, at_3, gv_0, gv_s, sa_0, sa_s, st_nm, st_tp, wi_0, wi_s, st_0, st_s, st_n, wpB, List.set_cons_zero, List.set_cons_succ, Option.some.injEq, exists_eq_left', true_and, Bool.not_true, Bool.not_false, if_true, if_false, Bool.false_eq_true, exists_const, PV.ref.injEq, PV.str.injEq, PV.int.injEq, List.length_cons, List.length_nil])
/-! ### two years, one behind the other -/
theorem irange_cons {a b : Int} (h : a < b) : irange a b = a :: irange (a + 1) b := by
  unfold irange
  obtain ⟨n, hn⟩ : ∃ n, (b - a).toNat = n + 1 := ⟨(b - a).toNat - 1, by omega⟩
  rw [hn, show (b - (a + 1)).toNat = n by omega, List.range_succ_eq_map, List.map_cons, List.map_map]
  congr 1
  · omega
  · apply List.map_congr_left
    intro k _
    show a + ((k + 1 : Nat) : Int) = a + 1 + (k : Int)
    omega
theorem datesIn_one (y : Int) : datesIn y y = datesY y := by
  unfold datesIn
  rw [irange_cons (by omega), irange_nil]
  simp
theorem datesIn_two (y : Int) : datesIn y (y + 1) = datesIn y y ++ datesIn (y + 1) (y + 1) := by
  rw [datesIn_one, datesIn_one]
  unfold datesIn
  rw [irange_cons (by omega), irange_cons (by omega), irange_nil]
  simp
theorem datesY_head (y : Int) : ∃ r, datesY y = (y, 1, 1) :: r := by
  unfold datesY
  rw [irange_cons (by decide), List.flatMap_cons]
  have := mlen_bd y 1
  rw [irange_cons (by omega), List.map_cons]
  exact ⟨_, rfl⟩
theorem datesY_last (y : Int) : ∃ r, datesY y = r ++ [(y, 12, 31)] := by
  unfold datesY
  have e13 : irange 1 13 = irange 1 12 ++ [12] := by decide
  have e32 : irange 1 (31 + 1) = irange 1 31 ++ [31] := by decide
  have h12 : mlen y 12 = 31 := by unfold mlen; simp
  rw [e13, List.flatMap_append, List.flatMap_singleton, h12, e32, List.map_append, ← List.append_assoc]
  exact ⟨_, rfl⟩
theorem unsT_cons (w : Date → Txt) (x y : Date) (r : List Date) : unsT w (x :: y :: r) = if w x < w y then unsT w (y :: r) else some x := rfl
theorem unsT_app (w : Date → Txt) (e d : Date) (l2 : List Date) : ∀ l1 : List Date, unsT w ((l1 ++ [e]) ++ (d :: l2)) = (unsT w (l1 ++ [e])).or ((if w e < w d then none else some e).or (unsT w (d :: l2)))
  | [] => by
    show unsT w (e :: d :: l2) = (unsT w [e]).or _
    rw [unsT_cons]
    by_cases h : w e < w d
    · rw [if_pos h, if_pos h]; rfl
    · rw [if_neg h, if_neg h]; rfl
  | [x] => by
    have ih := unsT_app w e d l2 []
    simp only [List.nil_append] at ih
    show unsT w (x :: e :: (d :: l2)) = (unsT w (x :: e :: [])).or _
    rw [unsT_cons w x e (d :: l2), unsT_cons w x e []]
    by_cases h : w x < w e
    · rw [if_pos h, if_pos h]; exact ih
    · rw [if_neg h, if_neg h]; rfl
  | x :: z :: r => by
    have ih := unsT_app w e d l2 (z :: r)
    show unsT w (x :: z :: (r ++ [e] ++ (d :: l2))) = (unsT w (x :: z :: (r ++ [e]))).or _
    rw [unsT_cons, unsT_cons]
    by_cases h : w x < w z
    · rw [if_pos h, if_pos h]; exact ih
    · rw [if_neg h, if_neg h]; rfl
theorem clashG_app (w : Date → Txt) : ∀ (l m pre : List Date), clashG w pre (l ++ m) = (clashG w pre l).or (clashG w (pre ++ l) m)
  | [], m, pre => by rw [List.nil_append, List.append_nil]; rfl
  | d :: r, m, pre => by
    rw [List.cons_append, clashG, clashG]
    cases h : pre.find? fun x => decide (w x = w d) with
    | some x => rfl
    | none =>
      show clashG w (pre ++ [d]) (r ++ m) = (clashG w (pre ++ [d]) r).or _
      rw [clashG_app w r m, List.append_assoc]
      rfl
/-- the clashes of a year behind another: across, or within -/
def acrT (w : Date → Txt) (A : List Date) (B : List Date) : Option (Date × Date) := B.findSome? fun d => (A.find? fun x => decide (w x = w d)).map fun x => (x, d)
def pickT : Option (Date × Date) → Option (Date × Date) → Option (Date × Date)
  | none, wi => wi
  | some p, none => some p
  | some p, some q => if dcode q.2 < dcode p.2 then some q else some p
theorem acr_mem {w : Date → Txt} {A B : List Date} {p : Date × Date} (h : acrT w A B = some p) : p.1 ∈ A ∧ p.2 ∈ B ∧ w p.1 = w p.2 := by
  unfold acrT at h
  obtain ⟨d, hd, h1⟩ := List.exists_of_findSome?_eq_some h
  obtain ⟨x, hx, rfl⟩ := Option.map_eq_some_iff.mp h1
  exact ⟨List.mem_of_find?_eq_some hx, hd, by simpa using List.find?_some hx⟩
theorem clashG_mem {w : Date → Txt} : ∀ {B pre : List Date} {p : Date × Date}, clashG w pre B = some p → p.2 ∈ B
  | [], _, _, h => by cases h
  | d :: r, pre, p, h => by
    rw [clashG] at h
    cases hf : pre.find? fun x => decide (w x = w d) with
    | some x => rw [hf] at h; cases h; exact List.mem_cons_self
    | none => rw [hf] at h; exact List.mem_cons_of_mem _ (clashG_mem h)
theorem clashG_split (w : Date → Txt) (A : List Date) : ∀ (B P : List Date), B.Pairwise (fun x y => dcode x < dcode y) → clashG w (A ++ P) B = pickT (acrT w A B) (clashG w P B)
  | [], P, _ => rfl
  | d :: r, P, hs => by
    rw [List.pairwise_cons] at hs
    have ih := clashG_split w A r (P ++ [d]) hs.2
    rw [clashG, List.find?_append]
    unfold acrT
    rw [List.findSome?_cons]
    cases hA : A.find? fun x => decide (w x = w d) with
    | some x =>
      show some (x, d) = pickT (some (x, d)) _
      cases hc : clashG w P (d :: r) with
      | none => rfl
      | some q =>
        unfold pickT
        simp only
        have : ¬ dcode q.2 < dcode d := by
          rcases List.mem_cons.mp (clashG_mem hc) with h | h
          · rw [h]; omega
          · have := hs.1 _ h; omega
        rw [if_neg this]
    | none =>
      rw [Option.none_or, clashG]
      cases hP : P.find? fun x => decide (w x = w d) with
      | some x =>
        show some (x, d) = pickT (acrT w A r) (some (x, d))
        cases hc : acrT w A r with
        | none => rfl
        | some q =>
          unfold pickT
          simp only
          have := hs.1 _ (acr_mem hc).2.1
          rw [if_pos this]
      | none =>
        show clashG w (A ++ P ++ [d]) r = pickT (acrT w A r) (clashG w (P ++ [d]) r)
        rw [List.append_assoc]
        exact ih
theorem pair_is (o : Option (Date × Date)) (S : Store) (Q : PQ) : cmpop .is (pairV o) .non S Q = Q (.bl o.isNone) S := by cases o <;> rfl
theorem pair_isn (o : Option (Date × Date)) (S : Store) (Q : PQ) : cmpop .isn (pairV o) .non S Q = Q (.bl (!o.isNone)) S := by cases o <;> rfl
theorem eqv_pairs : ∀ x y : Option (Date × Date), (pairD x).eqv (pairD y) = decide (x = y)
  | none, none => rfl
  | none, some y => by unfold pairD; simp [Dt.eqv]
  | some x, none => by unfold pairD; simp [Dt.eqv]
  | some x, some y => by
    show ((dD x.1).eqv (dD y.1) && ((dD x.2).eqv (dD y.2) && true)) = _
    rw [eqv_dD, eqv_dD, Bool.and_true]
    obtain ⟨a, b⟩ := x
    obtain ⟨c, d⟩ := y
    by_cases h1 : a = c
    · by_cases h2 : b = d
      · subst h1 h2; simp
      · have : ¬ some (a, b) = some (c, d) := fun e => h2 (by injection e with e; injection e)
        rw [decide_eq_false this]; simp [h2]
    · have : ¬ some (a, b) = some (c, d) := fun e => h1 (by injection e with e; injection e)
      rw [decide_eq_false this]; simp [h1]
theorem pair_eq (x y : Option (Date × Date)) {S : Store} {Q : PQ} (q : Q (.bl (decide (x = y))) S) : cmpop .eq (pairV x) (pairV y) S Q := by
  have h : ∃ d e, Dn S 60 (pairV x) d ∧ Dn S 60 (pairV y) e ∧ Q (.bl (d.eqv e)) S := ⟨_, _, dn_pair x, dn_pair y, by rw [eqv_pairs]; exact q⟩
  cases x <;> exact h
theorem pair_ne (x y : Option (Date × Date)) {S : Store} {Q : PQ} (q : Q (.bl (!decide (x = y))) S) : cmpop .ne (pairV x) (pairV y) S Q := by
  have h : ∃ d e, Dn S 60 (pairV x) d ∧ Dn S 60 (pairV y) e ∧ Q (.bl (!d.eqv e)) S := ⟨_, _, dn_pair x, dn_pair y, by rw [eqv_pairs]; exact q⟩
  cases x <;> exact h
/-- a dict of texts, each with its only date -/
theorem mkD_find (w : Date → Txt) (f : Date → PV) (t : Txt) : ∀ (ds : List Date) (acc : List (Txt × PV)), (ds.map w).Nodup → lkp ((ds.map fun d => (w d, f d)).foldl (fun d q => putD d q.1 q.2) acc) t = ((ds.find? fun d => decide (w d = t)).map f).or (lkp acc t)
  | [], acc, _ => by simp
  | d :: r, acc, hn => by
    rw [List.map_cons, List.nodup_cons] at hn
    rw [List.map_cons, List.foldl_cons, mkD_find w f t r _ hn.2, lkp_put, List.find?_cons]
    by_cases h : w d = t
    · have hr : r.find? (fun d => decide (w d = t)) = none := by
        rw [List.find?_eq_none]
        intro x hx e
        exact hn.1 (List.mem_map.mpr ⟨x, hx, by rw [h]; simpa using e⟩)
      rw [hr, if_pos h, decide_eq_true h]
      rfl
    · rw [if_neg h, decide_eq_false h]
end PyI
set_option autoImplicit false
set_option linter.all false
set_option Elab.async false
set_option maxRecDepth 100000
set_option maxHeartbeats 4000000
namespace PyI
local macro_rules | `(tactic| walk_at "wp") => `(tactic| simp only [e_var, e_glb, e_int, e_str, e_bl, e_non, e_bin, e_cmp, e_chain, e_neg, e_and, e_or, e_not, e_ite, e_tup, e_lst, e_dic0, e_sub, e_slice, wo_nil, wo_int, wo_var, wo_bin, wo_neg, wo_blt, wo_call, wo_sub, e_lrg, e_lng, e_rev, e_call, e_blt, e_meth, e_comp, e_fld, e_newc, e_mcl, e_lenc, e_orv, e_selc, a_nil, a_cons,
  s_pass, s_seq, s_nm, s_tp, s_par, s_aug, s_setsub, s_augsub, s_ex, s_ret, s_retn, s_ite, s_whl, s_for, s_brk, s_cnt, s_rse, s_tri, s_setfld,
  b_add, b_adds, b_addr, b_addt, b_sub, b_mul, b_mulr, b_muls, b_mult, b_div, b_mod, b_pow, c_eq, c_eqs, c_eqr, c_eqt, c_eqn, c_ne, c_nes, c_ner, c_net, c_nen, c_lt, c_le, c_gt, c_ge, c_ltt, c_let, c_gtt, c_get, c_lts, c_les, c_gts, c_ges, c_isbb, c_isnn, c_isbn, c_isin, c_issn, c_istn, c_isrn, c_nsbb, c_nsnn, c_nsbn, c_nsin, c_nssn, c_nstn, c_nsrn,
  c_int, c_ins, c_inr, c_nit, c_nis, c_nir, n_int, i_tup, i_str, i_ref, i_dic, k_str, k_tup, k_ref, v_ref, v_tup, l_minD, l_maxD, l_min, l_max, z_vals, z_keys, z_enmt, z_zip3, l_lens, l_lent, l_lenr, l_str, l_int, l_dictP, l_isSeq_t, l_isSeq_r, l_isTup_r, l_isTup_i, l_tuplet, l_tupler, l_listt, l_listr, l_sum, l_all, l_any, l_isInt_i, l_isBool_i, l_isStr_s, l_isTup_t,
  m_starts, m_ins, m_split, m_part, m_popAt, y_popAt, y_ins, y_starts, y_split, y_part, m_app, m_ext, m_pop, m_join, m_alpha, m_sidx, m_get, m_setd, y_app, y_ext, y_pop, y_get, y_setd, y_str, y_alpha, y_sidx, t_bl, o_int, z_tup, z_ref, z_str, z_rng1, z_rng2, z_rng3, z_enm, z_zipt, z_zipr, w_ri, w_rs,
  at_0, at_1, at_2, at_3, gv_0, gv_s, sa_0, sa_s, st_nm, st_tp, wi_0, wi_s, st_0, st_s, st_n, wpB, List.set_cons_zero, List.set_cons_succ, Option.some.injEq, exists_eq_left', true_and, Bool.not_true, Bool.not_false, if_true, if_false, Bool.false_eq_true, exists_const, PV.ref.injEq, PV.str.injEq, PV.int.injEq, List.length_cons, List.length_nil])
/-! ### bars -/
def barT : Txt := [124]
def withG (gs : List Nat) : Nat → List Txt → List Txt
  | _, [] => []
  | k, p :: r => p :: ((if k ∈ gs then [barT] else []) ++ withG gs (k + 1) r)
def withB (ps : List Txt) (gs : List Nat) : List Txt := withG gs 0 ps
theorem withG_len (gs : List Nat) : ∀ (ps : List Txt) (k : Nat), (withG gs k ps).length ≤ 2 * ps.length
  | [], _ => by simp [withG]
  | p :: r, k => by
    have ih := withG_len gs r (k + 1)
    rw [withG, List.length_cons, List.length_append, List.length_cons]
    split
    · simp; omega
    · simp; omega
theorem withG_mem {gs : List Nat} {x : Txt} : ∀ {ps : List Txt} {k : Nat}, x ∈ withG gs k ps → x ∈ ps ∨ x = barT
  | p :: r, k, h => by
    rw [withG] at h
    rcases List.mem_cons.mp h with h | h
    · exact Or.inl (h ▸ List.mem_cons_self)
    · rcases List.mem_append.mp h with h | h
      · split at h
        · exact Or.inr (List.mem_singleton.mp h)
        · cases h
      · rcases withG_mem h with h | h
        · exact Or.inl (List.mem_cons_of_mem _ h)
        · exact Or.inr h
theorem withB_small {ps : List Txt} {gs : List Nat} (h : smallT ps) (h7 : ps.length ≤ 7) : smallT (withB ps gs) := by
  refine ⟨?_, fun p hp => ?_⟩
  · have := withG_len gs ps 0
    unfold withB
    omega
  · rcases withG_mem hp with hp | hp
    · exact h.2 p hp
    · rw [hp]; decide
theorem withG_snoc (gs : List Nat) (p : Txt) : ∀ (ps : List Txt) (k : Nat), withG gs k (ps ++ [p]) = withG gs k ps ++ (p :: if k + ps.length ∈ gs then [barT] else [])
  | [], k => by simp [withG]
  | x :: r, k => by
    rw [List.cons_append, withG, withG, withG_snoc gs p r (k + 1), List.length_cons, List.cons_append, List.append_assoc]
    rw [show k + 1 + r.length = k + (r.length + 1) by omega]
def choT (many : Nat) : Nat → Nat → List (List Nat)
  | 0, _ => [[]]
  | n + 1, s => (List.range' s (many - s)).flatMap fun f => (choT many n (f + 1)).map (f :: ·)
theorem len_flat7 {α β : Type} (f : α → List β) (k : Nat) (l : List α) (h : ∀ x ∈ l, (f x).length ≤ k) : (l.flatMap f).length ≤ k * l.length := len_flat f k l h
theorem choT_len (many : Nat) (hm : many ≤ 6) : ∀ n s, (choT many n s).length ≤ 7 ^ n
  | 0, s => by simp [choT]
  | n + 1, s => by
    have := len_flat (fun f => (choT many n (f + 1)).map (f :: ·)) (7 ^ n) (List.range' s (many - s)) fun f _ => by rw [List.length_map]; exact choT_len many hm n (f + 1)
    rw [List.length_range'] at this
    rw [choT, Nat.pow_succ]
    have h2 : 7 ^ n * (many - s) ≤ 7 ^ n * 7 := Nat.mul_le_mul_left _ (by omega)
    omega
theorem choT_el (many : Nat) : ∀ n s, ∀ l ∈ choT many n s, l.length = n
  | 0, s, l, h => by rw [List.mem_singleton.mp (show l ∈ [[]] from h)]; rfl
  | n + 1, s, l, h => by
    obtain ⟨f, _, h2⟩ := List.mem_flatMap.mp (show l ∈ (List.range' s (many - s)).flatMap fun f => (choT many n (f + 1)).map (f :: ·) from h)
    obtain ⟨l', hl, rfl⟩ := List.mem_map.mp h2
    rw [List.length_cons, choT_el many n _ l' hl]
def elsAt (c : Nat) (S : Store) (n : Nat) (rs : List Nat) (ls : List (List Nat)) : Prop := rs.length = ls.length ∧ ∀ (i : Nat) l, ls[i]? = some l → ∃ r : Nat, rs[i]? = some r ∧ c ≤ r ∧ r ≠ n ∧ S[r]? = some (.lst (l.map natV))
theorem els_onl {c n : Nat} {S S' : Store} {rs : List Nat} {ls : List (List Nat)} (e : Onl n S S') (h : elsAt c S n rs ls) : elsAt c S' n rs ls :=
  ⟨h.1, fun i l hi => let ⟨r, h1, h2, h3, h4⟩ := h.2 i l hi; ⟨r, h1, h2, h3, e.2 _ _ h3 h4⟩⟩
theorem els_app {c n : Nat} {S : Store} {rs rs2 : List Nat} {ls ls2 : List (List Nat)} (h : elsAt c S n rs ls) (h2 : elsAt c S n rs2 ls2) : elsAt c S n (rs ++ rs2) (ls ++ ls2) := by
  refine ⟨by rw [List.length_append, List.length_append, h.1, h2.1], fun i l hi => ?_⟩
  by_cases hl : i < ls.length
  · rw [List.getElem?_append_left hl] at hi
    obtain ⟨r, a, b⟩ := h.2 i l hi
    exact ⟨r, by rw [List.getElem?_append_left (by rw [h.1]; exact hl)]; exact a, b⟩
  · rw [List.getElem?_append_right (by omega)] at hi
    obtain ⟨r, a, b⟩ := h2.2 _ l hi
    refine ⟨r, ?_, b⟩
    rw [List.getElem?_append_right (by rw [h.1]; omega), h.1]
    exact a
theorem els_weak {c c' n n' : Nat} {S : Store} {rs : List Nat} {ls : List (List Nat)} (h : elsAt c S n rs ls) (hc : c' ≤ c) (hn : n' < c) : elsAt c' S n' rs ls :=
  ⟨h.1, fun i l hi => let ⟨r, h1, h2, _, h4⟩ := h.2 i l hi; ⟨r, h1, by omega, by omega, h4⟩⟩
def lstsAt (c : Nat) (S : Store) (n : Nat) (ls : List (List Nat)) : Prop := ∃ rs : List Nat, S[n]? = some (.lst (rs.map PV.ref)) ∧ c ≤ n ∧ elsAt c S n rs ls
theorem lsts_ext {c n : Nat} {S S' : Store} {ls : List (List Nat)} (e : Ext S S') (h : lstsAt c S n ls) : lstsAt c S' n ls :=
  let ⟨rs, h1, h2, h3⟩ := h; ⟨rs, e _ _ h1, h2, els_onl e.onl h3⟩
def ctC_choices (m : Nat) : Ct := fun vs S Q _ => ∃ (many size start : Nat), vs = [.int many, .int size, .int start] ∧ size ≤ m ∧ size ≤ 6 ∧ many ≤ 6 ∧ start ≤ 6 ∧ ∀ S' n, Ext S S' → lstsAt S.length S' n (choT many size start) → Q (.ref n) S'
def ct_choices : Ct := ctC_choices 6
def ct_with_bars : Ct := fun vs S Q _ => ∃ (ps : List Txt) (g : Nat) (gs : List Nat), vs = [strV ps, .ref g] ∧ ps.length ≤ 1000 ∧ getL S g = some (gs.map natV) ∧ ∀ S', Ext S S' → Q (strV (withB ps gs)) S'
def barsT (ps : List Txt) (ds : List Date) : Option (List Nat) :=
  if (clashT (writtenT (withB ps (List.range (ps.length - 1)))) ds).isNone = false then none
  else some ((((List.range (ps.length - 1)).flatMap fun n => choT (ps.length - 1) n 0).find? fun gs => (clashT (writtenT (withB ps gs)) ds).isNone).getD (List.range (ps.length - 1)))
def ct_bars : Ct := fun vs S Q _ => ∃ (ps : List Txt) (a b : Int), vs = [strV ps, .tup [.int a, .int b]] ∧ isSpan a b ∧ goodPat ps ∧
  (barsT ps (datesIn a b) = none → ∀ S', Ext S S' → Q .non S') ∧ ∀ l, barsT ps (datesIn a b) = some l → ∀ S' k, Ext S S' → S.length ≤ k → S'[k]? = some (.lst (l.map natV)) → Q (.ref k) S'
theorem nats_flat (l : List Nat) : (l.map natV).all flat = true := by
  induction l with
  | nil => rfl
  | cons a r ih => rw [List.map_cons, List.all_cons, ih]; rfl
theorem inP_nat (m : Nat) (l : List Nat) : inP (natV m) (l.map natV) = decide (m ∈ l) := by
  have : l.map natV = (l.map fun n => ((n : Nat) : Int)).map PV.int := by rw [List.map_map]; rfl
  rw [this]
  unfold natV
  rw [inP_int]
  by_cases h : m ∈ l
  · rw [decide_eq_true h, decide_eq_true (List.mem_map.mpr ⟨m, h, rfl⟩)]
  · rw [decide_eq_false h, decide_eq_false]
    intro h2
    obtain ⟨k, hk, e⟩ := List.mem_map.mp h2
    have hkm : k = m := by omega
    exact h (hkm ▸ hk)
section
variable {Γ : Sig} (C : Hlp Γ)
theorem p_choices (m : Nat) (h29 : ∀ m', m = m' + 1 → Γ.ct 29 = ctC_choices m') : ∀ vs S Q R, ctC_choices m vs S Q R → wpB Γ 6 b_choices vs S Q R := by
  rintro vs S Q R ⟨many, size, start, rfl, hsm, hs6, hm6, hst, q⟩
  unfold b_choices
  walk_at "wp"
  cases size with
  | zero =>
    rw [if_pos (by decide)]
    refine q _ _ (Ext.new.trans Ext.new) ⟨[S.length], new_at, by rw [List.length_append]; omega, rfl, fun i l hi => ?_⟩
    cases i with
    | zero =>
      cases hi
      exact ⟨S.length, rfl, Nat.le_refl _, by rw [List.length_append]; simp, Ext.new _ _ new_at⟩
    | succ j => simp [choT] at hi
  | succ n =>
    rw [if_neg (by rw [decide_eq_true_eq]; omega)]
    obtain ⟨m', rfl⟩ : ∃ m', m = m' + 1 := ⟨m - 1, by omega⟩
    refine ⟨by omega, ?_⟩
    refine ⟨fun i ρ' S' => Ext S S' ∧ (∃ rs : List Nat, S'[S.length]? = some (.lst (rs.map PV.ref)) ∧ elsAt (S.length + 1) S' S.length rs ((List.range' start i).flatMap fun f => (choT many n (f + 1)).map (f :: ·))) ∧
        ∃ x4 x5, ρ' = [some (.int many), some (.int ((n + 1 : Nat) : Int)), some (.int start), some (.ref S.length), x4, x5],
      ⟨Ext.new, ⟨[], new_at, rfl, fun i l hi => by simp at hi⟩, _, _, rfl⟩, fun _ _ _ _ => trivial, ?_, ?_⟩
    · rintro i x ρ' S1 hx ⟨e1, ⟨rs, g1, he1⟩, x4, x5, rfl⟩
      obtain ⟨hi, rfl⟩ := rng_at hx
      refine ⟨_, rfl, ?_⟩
      walk_at "wp"
      have hl1 := (List.getElem?_eq_some_iff.mp g1).1
      refine ⟨⟨_, _, rfl, getL_lst g1⟩, ?_⟩
      rw [h29 m' rfl]
      refine ⟨many, n, start + i + 1, ?_, by omega, by omega, hm6, by omega, fun S2 k e2 hL => ?_⟩
      · congr 2
        congr 1
        omega
      obtain ⟨rs2, k1, k2, k3⟩ := hL
      walk_at "wp"
      refine ⟨_, getL_lst k1, ?_⟩
      have hk2 := (List.getElem?_eq_some_iff.mp k1).1
      have hlen : (choT many n (start + i + 1)).length ≤ 7 ^ n := choT_len many hm6 n _
      have hp7 : 7 ^ n ≤ 7 ^ 6 := Nat.pow_le_pow_right (by decide) (by omega)
      refine comp_acc (fun j v S' => ∃ (r : Nat) (l : List Nat), v = .ref r ∧ (choT many n (start + i + 1))[j]? = some l ∧ S2.length < r ∧ S'[r]? = some (.lst (((start + i) :: l).map natV))) ?_ (fun S' e => e.getL (getL_lst k1)) ?_ ?_ ?_
      · rintro j v S' S'' e ⟨r, l, rfl, h2, h3, h4⟩
        exact ⟨r, l, rfl, h2, h3, e.2 _ _ (by omega) h4⟩
      · rw [List.length_map, k3.1]; unfold big; omega
      · intro j x S' hx e hlt
        rw [List.getElem?_map] at hx
        obtain ⟨r, hr, rfl⟩ := Option.map_eq_some_iff.mp hx
        have hj : j < (choT many n (start + i + 1)).length := by rw [← k3.1]; exact (List.getElem?_eq_some_iff.mp hr).1
        obtain ⟨r', h1, h2, h3, h4⟩ := k3.2 j _ (List.getElem?_eq_getElem hj)
        rw [hr] at h1
        cases h1
        refine ⟨_, rfl, fun Q1 q1 => ?_⟩
        walk_at "wp"
        refine ⟨_, _, new_at, Ext.new _ _ (e _ _ h4), ?_, ?_⟩
        · have : ∀ n s, ∀ l ∈ choT many n s, l.length = n := choT_el many
          rw [List.length_map, this n _ _ (List.getElem_mem hj)]
          show 1 + n ≤ big
          unfold big; omega
        · refine q1 _ _ (Ext.new.trans Ext.new) ⟨_, _, rfl, List.getElem?_eq_getElem hj, by rw [List.length_append]; omega, ?_⟩
          rw [new_at]
          congr 3
      · intro S3 vs e3 g3 hvl hv
        obtain ⟨rs3, rfl, hrs3⟩ := vals_of PV.ref (fun _ => True) vs fun v hm => by
          obtain ⟨j, hj⟩ := List.getElem?_of_mem hm
          obtain ⟨r, l, rfl, _⟩ := hv j v hj
          exact ⟨r, trivial, rfl⟩
        have e13 := e2.trans e3
        have g13 := e13 _ _ g1
        have hcl : ∀ k s, (choT many k s).length ≤ 7 ^ k := choT_len many hm6
        refine ⟨_, _, g13, g3, ?_, e1.trans e13 |>.set (Nat.le_refl _), ⟨rs ++ rs3, ?_, ?_⟩, _, _, rfl⟩
        · rw [List.length_map, he1.1, hvl, List.length_map, k3.1]
          have := len_flat (fun f => (choT many n (f + 1)).map (f :: ·)) (7 ^ n) (List.range' start i) fun f _ => by rw [List.length_map]; exact hcl n (f + 1)
          rw [List.length_range'] at this
          have h3 : 7 ^ n * i ≤ 7 ^ n * 7 := Nat.mul_le_mul_left _ (by omega)
          unfold big; omega
        · rw [List.getElem?_set_self (List.getElem?_eq_some_iff.mp g13).1, List.map_append]
        · rw [List.range'_concat, List.flatMap_append, Nat.one_mul]
          refine els_onl Onl.refl.set (els_app (els_onl e13.onl he1) ?_)
          rw [List.flatMap_cons, List.flatMap_nil, List.append_nil]
          rw [List.length_map, List.length_map, k3.1] at hvl
          refine ⟨by rw [List.length_map]; exact hvl, fun j l hj => ?_⟩
          rw [List.getElem?_map] at hj
          obtain ⟨l', hl', rfl⟩ := Option.map_eq_some_iff.mp hj
          have hjl := (List.getElem?_eq_some_iff.mp hl').1
          obtain ⟨r, hr⟩ : ∃ r, rs3[j]? = some r := ⟨_, List.getElem?_eq_getElem (by omega)⟩
          obtain ⟨r', l2, h1, h2, h3, h4⟩ := hv j (.ref r) (by rw [List.getElem?_map, hr]; rfl)
          cases h1
          rw [hl'] at h2
          cases h2
          have := e2.len
          exact ⟨r, hr, by omega, by omega, h4⟩
    · rintro ρ' S1 ⟨e1, ⟨rs, g1, he1⟩, x4, x5, rfl⟩
      rw [List.length_map, List.length_range] at he1
      walk_at "wp"
      refine q S1 _ e1 ⟨rs, g1, Nat.le_refl _, ?_⟩
      rw [show ((many : Int) - (start : Int)).toNat = many - start by omega] at he1
      exact els_weak he1 (by omega) (by omega)
include C
omit C in
theorem p_with_bars : ∀ vs S Q R, ct_with_bars vs S Q R → wpB Γ 5 b_with_bars vs S Q R := by
  rintro vs S Q R ⟨ps, g, gs, rfl, hl, hg, q⟩
  unfold b_with_bars strV
  walk_at "wp"
  refine ⟨fun i ρ' S' => Ext S S' ∧ S'[S.length]? = some (.lst ((withB (ps.take i) gs).map PV.str)) ∧ ∃ x3 x4, ρ' = [some (strV ps), some (.ref g), some (.ref S.length), x3, x4],
    ⟨Ext.new, new_at, _, _, rfl⟩, fun _ _ _ _ => trivial, ?_, ?_⟩
  · rintro i x ρ' S1 hx ⟨e1, g1, x3, x4, rfl⟩
    rw [enumW_at, List.getElem?_map, Nat.zero_add] at hx
    cases hps : ps[i]? with
    | none => rw [hps] at hx; cases hx
    | some p =>
      rw [hps] at hx
      obtain rfl := Option.some.inj hx
      have hi := (List.getElem?_eq_some_iff.mp hps).1
      have htk : ps.take (i + 1) = ps.take i ++ [p] := by rw [List.take_add_one, hps]; rfl
      have hwl : (withB (ps.take i) gs).length ≤ 2000 := by
        have := withG_len gs (ps.take i) 0
        have h2 : (ps.take i).length ≤ 1000 := Nat.le_trans (by rw [List.length_take]; omega) hl
        unfold withB; omega
      have hil : (ps.take i).length = i := by rw [List.length_take]; omega
      refine ⟨_, rfl, ?_⟩
      walk_at "wp"
      refine ⟨⟨_, _, rfl, getL_lst g1⟩, _, g1, by rw [List.length_map]; unfold big; omega, ?_⟩
      have e2 : Ext S (S1.set S.length (.lst ((withB (ps.take i) gs).map PV.str ++ [.str p]))) := e1.set (Nat.le_refl _)
      have g2 : (S1.set S.length (PO.lst ((withB (ps.take i) gs).map PV.str ++ [.str p])))[S.length]? = some (.lst ((withB (ps.take i) gs).map PV.str ++ [.str p])) := List.getElem?_set_self (List.getElem?_eq_some_iff.mp g1).1
      refine Or.inl ⟨_, e2.getL hg, rfl, nats_flat gs, ?_⟩
      have hin : inP (.int (i : Nat)) (gs.map natV) = decide (i ∈ gs) := inP_nat i gs
      rw [hin]
      unfold withB at *
      rw [htk, withG_snoc, Nat.zero_add, hil]
      by_cases h : i ∈ gs
      · rw [if_pos (decide_eq_true h), if_pos h]
        refine ⟨⟨_, _, rfl, getL_lst g2⟩, _, g2, ?_, e2.set (Nat.le_refl _), ?_, _, _, rfl⟩
        · rw [List.length_append, List.length_map]; show _ + 1 < big; unfold big; omega
        · rw [List.getElem?_set_self (List.getElem?_eq_some_iff.mp g2).1, List.map_append, List.append_assoc]
          rfl
      · rw [if_neg (by simpa using h), if_neg h]
        refine ⟨e2, ?_, _, _, rfl⟩
        rw [g2, List.map_append]
        rfl
  · rintro ρ' S1 ⟨e1, g1, x3, x4, rfl⟩
    rw [enumW_len, List.length_map, List.take_length] at g1
    walk_at "wp"
    exact ⟨_, getL_lst g1, q S1 e1⟩
theorem p_bars (h24 : Γ.ct 24 = ct_clash_of) (h28 : Γ.ct 28 = ct_with_bars) (h29 : Γ.ct 29 = ct_choices) : ∀ vs S Q R, ct_bars vs S Q R → wpB Γ 5 b_bars vs S Q R := by
  rintro vs S Q R ⟨ps, a, b, rfl, hs, hp, qn, qs⟩
  unfold b_bars
  walk_at "wp"
  rw [C.need_pattern, C.need_span]
  refine ⟨ps, rfl, hp, fun S1 e1 => ?_⟩
  walk_at "wp"
  refine ⟨a, b, hs, rfl, fun S2 e2 => ?_⟩
  have hp7 := good_len hp
  unfold strV
  walk_at "wp"
  have hg : ((ps.map PV.str).length : Int) - 1 = ((ps.length - 1 : Nat) : Int) := by rw [List.length_map]; omega
  rw [hg, h28, Int.toNat_natCast]
  generalize hgg : ps.length - 1 = g
  have hg6 : g ≤ 6 := by omega
  have hrange : ((List.range g).map fun i => PV.int (i : Nat)) = (List.range g).map natV := rfl
  refine ⟨by omega, by omega, ?_⟩
  refine ⟨ps, S2.length, List.range g, rfl, by omega, by rw [getL_lst new_at]; rfl, fun S3 e3 => ?_⟩
  rw [h24]
  refine ⟨_, a, b, rfl, hs, withB_small hp.1 (by omega), fun S4 e4 => ?_⟩
  have e24 : Ext S2 S4 := Ext.new.trans (e3.trans e4)
  have e04 := (e1.trans e2).trans e24
  show cmpop .isn (pairV _) .non S4 _
  rw [pair_isn]
  cases hc : clashT (writtenT (withB ps (List.range g))) (datesIn a b) with
  | some z =>
    walk_at "wp"
    rw [if_pos (by simp)]
    refine qn ?_ S4 e04
    unfold barsT
    rw [hgg, hc]
    rfl
  | none =>
    walk_at "wp"
    rw [if_neg (by simp)]
    have hB : barsT ps (datesIn a b) = some ((((List.range g).flatMap fun n => choT g n 0).find? fun gs => (clashT (writtenT (withB ps gs)) (datesIn a b)).isNone).getD (List.range g)) := by
      unfold barsT
      rw [hgg, hc]
      rfl
    refine ⟨by omega, by omega, ?_⟩
    refine ⟨fun i ρ' S' => Ext S4 S' ∧ (∀ gs ∈ (List.range i).flatMap fun n => choT g n 0, (clashT (writtenT (withB ps gs)) (datesIn a b)).isNone = false) ∧ ∃ x3 x4, ρ' = [some (strV ps), some (.tup [.int a, .int b]), some (.int (g : Nat)), x3, x4],
      ⟨Ext.refl, fun gs h => by simp at h, _, _, rfl⟩, fun _ _ _ _ => trivial, ?_, ?_⟩
    · rintro i x ρ' S5 hx ⟨e5, h5, x3, x4, rfl⟩
      obtain ⟨hi, rfl⟩ := rng_at hx
      refine ⟨_, rfl, ?_⟩
      walk_at "wp"
      rw [h29]
      refine ⟨g, i, 0, rfl, by omega, by omega, hg6, by omega, fun S6 k e6 hL => ?_⟩
      obtain ⟨rs, k1, k2, k3⟩ := hL
      walk_at "wp"
      refine ⟨_, getL_lst k1, ?_⟩
      refine ⟨fun j ρ' S' => Ext S6 S' ∧ (∀ gs ∈ (choT g i 0).take j, (clashT (writtenT (withB ps gs)) (datesIn a b)).isNone = false) ∧ ∃ x4, ρ' = [some (strV ps), some (.tup [.int a, .int b]), some (.int (g : Nat)), some (.int (i : Nat)), x4],
        ⟨Ext.refl, fun gs h => by simp at h, _, rfl⟩, fun j ρ' S' w => w.1.getL (getL_lst k1), ?_, ?_⟩
      · rintro j x ρ' S7 hx ⟨e7, h7, x4, rfl⟩
        rw [List.getElem?_map] at hx
        obtain ⟨r, hr, rfl⟩ := Option.map_eq_some_iff.mp hx
        have hj : j < (choT g i 0).length := by rw [← k3.1]; exact (List.getElem?_eq_some_iff.mp hr).1
        obtain ⟨r', a1, a2, a3, a4⟩ := k3.2 j _ (List.getElem?_eq_getElem hj)
        rw [hr] at a1
        cases a1
        refine ⟨_, rfl, ?_⟩
        walk_at "wp"
        rw [h28, h24]
        refine ⟨ps, r, (choT g i 0)[j], rfl, by omega, e7.getL (getL_lst a4), fun S8 e8 => ?_⟩
        refine ⟨_, a, b, rfl, hs, withB_small hp.1 (by omega), fun S9 e9 => ?_⟩
        have e69 := (e7.trans e8).trans e9
        show cmpop .is (pairV _) .non S9 _
        rw [pair_is]
        cases hcc : (clashT (writtenT (withB ps (choT g i 0)[j])) (datesIn a b)).isNone with
        | true =>
          walk_at "wp"
          refine qs _ hB S9 r ((e04.trans e5).trans (e6.trans e69)) ?_ ?_
          · have := e04.len
            have := e5.len
            omega
          · have hfind : (((List.range g).flatMap fun n => choT g n 0).find? fun gs => (clashT (writtenT (withB ps gs)) (datesIn a b)).isNone) = some (choT g i 0)[j] := by
              have hsp : List.range g = List.range i ++ i :: List.range' (i + 1) (g - (i + 1)) := by
                have h1 : g = i + (1 + (g - (i + 1))) := by omega
                have := List.range'_append_1 (s := 0) (m := i) (n := g - i)
                rw [List.range_eq_range', List.range_eq_range']
                rw [show g - i = (g - (i + 1)) + 1 by omega, List.range'_succ, Nat.zero_add] at this
                rw [this]
                congr 1
                omega
              rw [hsp, List.flatMap_append, List.flatMap_cons, List.find?_append, List.find?_eq_none.mpr fun gs hgs => by rw [h5 gs hgs]; decide, Option.none_or, List.find?_append]
              rw [find_at h7 (List.getElem?_eq_getElem hj) hcc]
              rfl
            rw [hfind]
            exact e69 _ _ a4
        | false =>
          walk_at "wp"
          refine ⟨e69, ?_, _, rfl⟩
          rw [List.take_add_one, List.getElem?_eq_getElem hj]
          intro gs hgs
          rcases List.mem_append.mp hgs with hgs | hgs
          · exact h7 gs hgs
          · have : gs = (choT g i 0)[j] := by simpa using hgs
            rw [this]; exact hcc
      · rintro ρ' S7 ⟨e7, h7, x4, rfl⟩
        rw [List.length_map, k3.1, List.take_length] at h7
        refine ⟨(e5.trans e6).trans e7, ?_, _, _, rfl⟩
        rw [List.range_succ, List.flatMap_append]
        intro gs hgs
        rcases List.mem_append.mp hgs with hgs | hgs
        · exact h5 gs hgs
        · exact h7 gs (by simpa using hgs)
    · rintro ρ' S5 ⟨e5, h5, x3, x4, rfl⟩
      rw [List.length_map, List.length_range] at h5
      walk_at "wp"
      refine ⟨by omega, by omega, ?_⟩
      refine qs _ hB _ _ (e04.trans (e5.trans Ext.new)) ?_ ?_
      · exact (e04.trans e5).len
      · rw [List.find?_eq_none.mpr fun gs hgs => by rw [h5 gs hgs]; decide]
        exact new_at
end
end PyI
set_option autoImplicit false
set_option linter.all false
set_option Elab.async false
set_option maxRecDepth 100000
set_option maxHeartbeats 4000000
namespace PyI
local macro_rules | `(tactic| walk_at "wp") => `(tactic| simp only [e_var, e_glb, e_int, e_str, e_bl, e_non, e_bin, e_cmp, e_chain, e_neg, e_and, e_or, e_not, e_ite, e_tup, e_lst, e_dic0, e_sub, e_slice, wo_nil, wo_int, wo_var, wo_bin, wo_neg, wo_blt, wo_call, wo_sub, e_lrg, e_lng, e_rev, e_call, e_blt, e_meth, e_comp, e_fld, e_newc, e_mcl, e_lenc, e_orv, e_selc, a_nil, a_cons,
  s_pass, s_seq, s_nm, s_tp, s_par, s_aug, s_setsub, s_augsub, s_ex, s_ret, s_retn, s_ite, s_whl, s_for, s_brk, s_cnt, s_rse, s_tri, s_setfld,
  b_add, b_adds, b_addr, b_addt, b_sub, b_mul, b_mulr, b_muls, b_mult, b_div, b_mod, b_pow, c_eq, c_eqs, c_eqr, c_eqt, c_eqn, c_ne, c_nes, c_ner, c_net, c_nen, c_lt, c_le, c_gt, c_ge, c_ltt, c_let, c_gtt, c_get, c_lts, c_les, c_gts, c_ges, c_isbb, c_isnn, c_isbn, c_isin, c_issn, c_istn, c_isrn, c_nsbb, c_nsnn, c_nsbn, c_nsin, c_nssn, c_nstn, c_nsrn,
  c_int, c_ins, c_inr, c_nit, c_nis, c_nir, n_int, i_tup, i_str, i_ref, i_dic, k_str, k_tup, k_ref, v_ref, v_tup, l_minD, l_maxD, l_min, l_max, z_vals, z_keys, z_enmt, z_zip3, l_lens, l_lent, l_lenr, l_str, l_int, l_dictP, l_isSeq_t, l_isSeq_r, l_isTup_r, l_isTup_i, l_tuplet, l_tupler, l_listt, l_listr, l_sum, l_all, l_any, l_isInt_i, l_isBool_i, l_isStr_s, l_isTup_t,
  m_starts, m_ins, m_split, m_part, m_popAt, y_popAt, y_ins, y_starts, y_split, y_part, m_app, m_ext, m_pop, m_join, m_alpha, m_sidx, m_get, m_setd, y_app, y_ext, y_pop, y_get, y_setd, y_str, y_alpha, y_sidx, t_bl, o_int, z_tup, z_ref, z_str, z_rng1, z_rng2, z_rng3, z_enm, z_zipt, z_zipr, w_ri, w_rs,
  at_0, at_1, at_2, at_3, gv_0, gv_s, sa_0, sa_s, st_nm, st_tp, wi_0, wi_s, st_0, st_s, st_n, wpB, List.set_cons_zero, List.set_cons_succ, Option.some.injEq, exists_eq_left', true_and, Bool.not_true, Bool.not_false, if_true, if_false, Bool.false_eq_true, exists_const, PV.ref.injEq, PV.str.injEq, PV.int.injEq, List.length_cons, List.length_nil])
/-! ### bars: what they say -/
theorem piece_bar (p : Txt) (d : Date) (hd : isDate d) (hp : okPart p) : ∀ c ∈ pieceT p d, c ≠ 124 := by
  have num : ∀ n : Fin 2400, ∀ c ∈ numT n.1, c ≠ 124 := by decide +kernel
  have hl : ∀ q ∈ fieldT ++ sepT, ∀ c ∈ q, c ≠ 124 := by decide +kernel
  unfold pieceT
  split
  · exact hl p (List.mem_append.mpr hp)
  · split
    · have : ∀ q ∈ moNames, ∀ c ∈ q, c ≠ 124 := by decide +kernel
      exact this _ (mo_mem d hd)
    · split
      · have : ∀ q ∈ wdNames, ∀ c ∈ q, c ≠ 124 := by decide +kernel
        exact this _ (wd_mem d)
      · intro c hc
        have hb := valN_bd p d hd
        unfold padT at hc
        rcases List.mem_append.mp hc with hc | hc
        · rw [(List.mem_replicate.mp hc).2]; decide
        · exact num ⟨(valN p d).toNat, by omega⟩ c hc
def pcs (ps : List Txt) (d : Date) : List Txt := ps.map fun p => pieceT p d
def joinB : List Txt → Txt
  | [] => []
  | [p] => p
  | p :: q :: r => p ++ 124 :: joinB (q :: r)
theorem bar_piece (d : Date) : pieceT barT d = barT := by
  unfold pieceT
  rw [if_pos (by decide)]
theorem withG_join (N : Nat) (d : Date) : ∀ (ps : List Txt) (k : Nat), k + ps.length = N + 1 → writtenT (withG (List.range N) k ps) d = joinB (pcs ps d)
  | [], k, _ => rfl
  | [p], k, h => by
    have hk : ¬ k ∈ List.range N := by rw [List.mem_range]; simp at h; omega
    rw [withG, if_neg hk]
    show (pieceT p d :: []).flatten = pieceT p d
    simp
  | p :: q :: r, k, h => by
    have hk : k ∈ List.range N := by rw [List.mem_range]; simp at h; omega
    have ih := withG_join N d (q :: r) (k + 1) (by simp at h ⊢; omega)
    rw [withG, if_pos hk]
    unfold writtenT at ih ⊢
    rw [List.map_cons, List.flatten_cons, List.map_append, List.flatten_append, ih]
    show pieceT p d ++ ((pieceT barT d :: []).flatten ++ joinB (pcs (q :: r) d)) = pieceT p d ++ 124 :: joinB (pcs (q :: r) d)
    rw [bar_piece]
    rfl
theorem cut_inj {c : Nat} {X Y : Txt} : ∀ {p q : Txt}, (∀ x ∈ p, x ≠ c) → (∀ x ∈ q, x ≠ c) → p ++ c :: X = q ++ c :: Y → p = q ∧ X = Y
  | [], [], _, _, h => by simpa using h
  | [], y :: q, _, h2, h => by
    rw [List.nil_append, List.cons_append] at h
    injection h with h _
    exact absurd h.symm (h2 y List.mem_cons_self)
  | x :: p, [], h1, _, h => by
    rw [List.nil_append, List.cons_append] at h
    injection h with h _
    exact absurd h (h1 x List.mem_cons_self)
  | x :: p, y :: q, h1, h2, h => by
    rw [List.cons_append, List.cons_append] at h
    injection h with h3 h4
    obtain ⟨e1, e2⟩ := cut_inj (fun z hz => h1 z (List.mem_cons_of_mem _ hz)) (fun z hz => h2 z (List.mem_cons_of_mem _ hz)) h4
    exact ⟨by rw [h3, e1], e2⟩
theorem joinB_inj : ∀ {a b : List Txt}, a.length = b.length → (∀ p ∈ a, ∀ c ∈ p, c ≠ 124) → (∀ p ∈ b, ∀ c ∈ p, c ≠ 124) → joinB a = joinB b → a = b
  | [], [], _, _, _, _ => rfl
  | [p], [q], _, _, _, h => by rw [show p = q from h]
  | p :: p2 :: r, q :: q2 :: s, hl, h1, h2, h => by
    obtain ⟨e1, e2⟩ := cut_inj (h1 p List.mem_cons_self) (h2 q List.mem_cons_self) (show p ++ 124 :: joinB (p2 :: r) = q ++ 124 :: joinB (q2 :: s) from h)
    have := joinB_inj (a := p2 :: r) (b := q2 :: s) (by simpa using hl) (fun p hp => h1 p (List.mem_cons_of_mem _ hp)) (fun p hp => h2 p (List.mem_cons_of_mem _ hp)) e2
    rw [e1, this]
  | [_], _ :: _ :: _, h, _, _, _ => by simp at h
  | _ :: _ :: _, [_], h, _, _, _ => by simp at h
theorem clash_none_iff (w : Date → Txt) (ds : List Date) : clashT w ds = none ↔ (ds.map w).Nodup := by
  constructor
  · intro h
    have := clashG_none (w := w) ds [] List.nodup_nil h
    simpa using this
  · intro h
    cases hc : clashT w ds with
    | none => rfl
    | some p =>
      exfalso
      obtain ⟨x, y⟩ := p
      obtain ⟨l1, l2, e, _, hf⟩ := clashG_some (w := w) ds [] List.nodup_nil hc
      rw [List.nil_append] at hf
      have hx := List.mem_of_find?_eq_some hf
      have hw : w x = w y := by simpa using List.find?_some hf
      rw [e, List.map_append, List.map_cons, List.nodup_append] at h
      exact h.2.2 (w x) (List.mem_map.mpr ⟨x, hx, rfl⟩) (w y) List.mem_cons_self hw
theorem nodup_pw {α : Type} (f : Date → α) (ds : List Date) : (ds.map f).Nodup ↔ ds.Pairwise fun x y => f x ≠ f y := List.pairwise_map
theorem pw_iff {ds : List Date} {P Q : Date → Date → Prop} (h : ∀ x ∈ ds, ∀ y ∈ ds, P x y ↔ Q x y) : ds.Pairwise P ↔ ds.Pairwise Q :=
  ⟨fun hp => hp.imp_of_mem fun hx hy => (h _ hx _ hy).mp, fun hp => hp.imp_of_mem fun hx hy => (h _ hx _ hy).mpr⟩
/-- bars at all gaps: the pieces tell -/
theorem bars_pcs {ps : List Txt} {ds : List Date} (h1 : 1 ≤ ps.length) (hok : ∀ p ∈ ps, okPart p) (hd : ∀ d ∈ ds, isDate d) : clashT (writtenT (withB ps (List.range (ps.length - 1)))) ds = none ↔ ds.Pairwise fun x y => pcs ps x ≠ pcs ps y := by
  rw [clash_none_iff, nodup_pw]
  refine pw_iff fun x hx y hy => not_congr ?_
  have hj : ∀ d, writtenT (withB ps (List.range (ps.length - 1))) d = joinB (pcs ps d) := fun d => withG_join (ps.length - 1) d ps 0 (by omega)
  have nb : ∀ d ∈ ds, ∀ q ∈ pcs ps d, ∀ c ∈ q, c ≠ 124 := fun d hdm q hq => by
    obtain ⟨p, hp, rfl⟩ := List.mem_map.mp hq
    exact piece_bar p d (hd d hdm) (hok p hp)
  rw [hj, hj]
  exact ⟨joinB_inj (by unfold pcs; rw [List.length_map, List.length_map]) (nb x hx) (nb y hy), fun e => by rw [e]⟩
theorem wr_pcs (ps : List Txt) (d : Date) : writtenT ps d = (pcs ps d).flatten := rfl
theorem bars_none_iff {ps : List Txt} {ds : List Date} : barsT ps ds = none ↔ ¬ clashT (writtenT (withB ps (List.range (ps.length - 1)))) ds = none := by
  unfold barsT
  cases h : clashT (writtenT (withB ps (List.range (ps.length - 1)))) ds with
  | none => simp
  | some z => simp
theorem bars_rev {ps : List Txt} {ds : List Date} (h1 : 1 ≤ ps.length) (hok : ∀ p ∈ ps, okPart p) (hd : ∀ d ∈ ds, isDate d) : (barsT ps ds).isNone = (barsT ps.reverse ds).isNone := by
  have h2 : clashT (writtenT (withB ps (List.range (ps.length - 1)))) ds = none ↔ clashT (writtenT (withB ps.reverse (List.range (ps.reverse.length - 1)))) ds = none := by
    rw [bars_pcs h1 hok hd, bars_pcs (by rw [List.length_reverse]; exact h1) (fun p hp => hok p (List.mem_reverse.mp hp)) hd]
    refine pw_iff fun x _ y _ => not_congr ?_
    unfold pcs
    rw [List.map_reverse, List.map_reverse]
    exact ⟨fun e => by rw [e], fun e => List.reverse_inj.mp e⟩
  have h3 := not_congr h2
  rw [← bars_none_iff, ← bars_none_iff] at h3
  cases ha : barsT ps ds with
  | none => rw [h3.mp ha]
  | some l =>
    cases hb : barsT ps.reverse ds with
    | none => rw [h3.mpr hb] at ha; cases ha
    | some m => rfl
theorem withG_nil : ∀ (ps : List Txt) (k : Nat), withG [] k ps = ps
  | [], _ => rfl
  | p :: r, k => by rw [withG, if_neg (by simp), List.nil_append, withG_nil r (k + 1)]
theorem withB_nil (ps : List Txt) : withB ps [] = ps := withG_nil ps 0
theorem bars_nil {ps : List Txt} {ds : List Date} (h1 : 1 ≤ ps.length) (hok : ∀ p ∈ ps, okPart p) (hd : ∀ d ∈ ds, isDate d) : barsT ps ds = some [] ↔ clashT (writtenT ps) ds = none := by
  constructor
  · intro h
    unfold barsT at h
    split at h
    · cases h
    · rename_i hn
      injection h with h
      by_cases hg : ps.length - 1 = 0
      · rw [hg] at hn
        rw [show List.range 0 = [] from rfl, withB_nil] at hn
        cases hc : clashT (writtenT ps) ds with
        | none => rfl
        | some z => exact absurd (by rw [hc]; rfl) hn
      · cases hf : ((List.range (ps.length - 1)).flatMap fun n => choT (ps.length - 1) n 0).find? fun gs => (clashT (writtenT (withB ps gs)) ds).isNone with
        | none =>
          rw [hf] at h
          have := congrArg List.length h
          rw [Option.getD_none, List.length_range] at this
          exact absurd this hg
        | some gs =>
          rw [hf] at h
          have hgs : gs = [] := h
          have := List.find?_some hf
          rw [hgs, withB_nil] at this
          exact Option.isNone_iff_eq_none.mp this
  · intro h
    have hall : clashT (writtenT (withB ps (List.range (ps.length - 1)))) ds = none := by
      rw [bars_pcs h1 hok hd]
      rw [clash_none_iff, nodup_pw] at h
      exact h.imp fun hne e => hne (by rw [wr_pcs, wr_pcs, e])
    unfold barsT
    rw [hall]
    show some _ = _
    by_cases hg : ps.length - 1 = 0
    · rw [hg]; rfl
    · obtain ⟨g, hgg⟩ : ∃ g, ps.length - 1 = g + 1 := ⟨ps.length - 2, by omega⟩
      rw [hgg, List.range_succ_eq_map, List.flatMap_cons]
      show some (((([[]] : List (List Nat)) ++ _).find? fun gs => (clashT (writtenT (withB ps gs)) ds).isNone).getD _) = _
      rw [List.cons_append, List.find?_cons, withB_nil, h]
      rfl
theorem bars_len {ps : List Txt} {ds : List Date} {l : List Nat} (h1 : 1 ≤ ps.length) (h : barsT ps ds = some l) : l.length < ps.length := by
  unfold barsT at h
  split at h
  · cases h
  · injection h with h
    cases hf : ((List.range (ps.length - 1)).flatMap fun n => choT (ps.length - 1) n 0).find? fun gs => (clashT (writtenT (withB ps gs)) ds).isNone with
    | none =>
      rw [hf, Option.getD_none] at h
      rw [← h, List.length_range]
      omega
    | some gs =>
      rw [hf, Option.getD_some] at h
      obtain ⟨n, hn, h2⟩ := List.mem_flatMap.mp (List.mem_of_find?_eq_some hf)
      have := choT_el _ n 0 gs h2
      have := List.mem_range.mp hn
      rw [← h]
      omega
/-! ### four hundred years later -/
def sh (d : Date) : Date := (d.1 + 400, d.2.1, d.2.2)
theorem long_sh (y : Int) : isLong (y + 400) = isLong y := by
  unfold isLong
  rw [show (y + 400) % 4 = y % 4 by omega, show (y + 400) % 100 = y % 100 by omega, show (y + 400) % 400 = y % 400 by omega]
theorem mlen_sh (y m : Int) : mlen (y + 400) m = mlen y m := by unfold mlen; rw [long_sh]
theorem dates_sh (y : Int) : datesIn (y + 400) (y + 400) = (datesIn y y).map sh := by
  rw [datesIn_one, datesIn_one]
  unfold datesY
  rw [List.map_flatMap]
  congr 1
  funext m
  rw [mlen_sh, List.map_map]
  rfl
theorem piy_sh (d : Date) : piy (sh d) = piy d := by
  unfold piy sh
  simp only
  congr 2
  apply List.map_congr_left
  intro m _
  exact mlen_sh _ _
theorem wdNo_sh (d : Date) : wdNo (sh d) = wdNo d := by
  unfold wdNo
  rw [piy_sh]
  unfold sh
  simp only
  omega
theorem valN_sh (p : Txt) (d : Date) (h : p ≠ [89, 89, 89, 89]) : valN p (sh d) = valN p d := by
  unfold valN
  rw [piy_sh]
  unfold sh
  simp only
  repeat' split
  all_goals first | rfl | omega | contradiction
theorem wd_sh (d : Date) : wdOf (sh d) = wdOf d := by unfold wdOf; rw [wdNo_sh]
theorem piece_sh (p : Txt) (d : Date) (h : p ≠ [89, 89, 89, 89]) : pieceT p (sh d) = pieceT p d := by
  unfold pieceT
  rw [wd_sh, valN_sh p d h]
  rfl
theorem valS_sh (p : Txt) (d : Date) (h : p ≠ [89, 89, 89, 89]) : valS p (sh d) = valS p d := by
  unfold valS
  rw [wd_sh, valN_sh p d h]
  rfl
theorem wr_sh {ps : List Txt} (h : [89, 89, 89, 89] ∉ ps) (d : Date) : writtenT ps (sh d) = writtenT ps d := by
  unfold writtenT
  congr 1
  apply List.map_congr_left
  intro p hp
  exact piece_sh p d fun e => h (e ▸ hp)
theorem mis_sh {ps : List Txt} (h : [89, 89, 89, 89] ∉ ps) (d : Date) : misB ps (sh d) = misB ps d := by
  unfold misB dueT
  rw [wr_sh h]
  congr 3
  congr 1
  apply List.map_congr_left
  intro p hp
  exact valS_sh p d fun e => h (e ▸ (List.mem_filter.mp hp).1)
def shP (p : Date × Date) : Date × Date := (sh p.1, sh p.2)
theorem clashG_sh {w : Date → Txt} (h : ∀ d, w (sh d) = w d) : ∀ (l pre : List Date), clashG w (pre.map sh) (l.map sh) = (clashG w pre l).map shP
  | [], _ => rfl
  | d :: r, pre => by
    rw [List.map_cons, clashG, clashG, List.find?_map]
    have : ((fun x => decide (w x = w (sh d))) ∘ sh) = fun x => decide (w x = w d) := by
      funext x
      show decide (w (sh x) = w (sh d)) = _
      rw [h, h]
    rw [this]
    cases hf : pre.find? fun x => decide (w x = w d) with
    | some x => rfl
    | none =>
      show clashG w (pre.map sh ++ [sh d]) (r.map sh) = _
      rw [← clashG_sh h r (pre ++ [d]), List.map_append]
      rfl
theorem clashT_sh {w : Date → Txt} (h : ∀ d, w (sh d) = w d) (l : List Date) : clashT w (l.map sh) = (clashT w l).map shP := clashG_sh h l []
theorem unsT_sh {w : Date → Txt} (h : ∀ d, w (sh d) = w d) : ∀ l : List Date, unsT w (l.map sh) = (unsT w l).map sh
  | [] => rfl
  | [_] => rfl
  | x :: y :: r => by
    have ih := unsT_sh h (y :: r)
    rw [List.map_cons, List.map_cons, unsT_cons, unsT_cons, h, h]
    rw [List.map_cons] at ih
    by_cases hlt : w x < w y
    · rw [if_pos hlt, if_pos hlt]; exact ih
    · rw [if_neg hlt, if_neg hlt]; rfl
theorem misT_sh {ps : List Txt} (h : [89, 89, 89, 89] ∉ ps) (l : List Date) : misT ps (l.map sh) = (misT ps l).map sh := by
  unfold misT
  rw [List.find?_map]
  congr 2
  funext d
  exact mis_sh h d
theorem lens_sh {w : Date → Txt} (h : ∀ d, w (sh d) = w d) (l : List Date) : lensT w (l.map sh) = lensT w l := by
  unfold lensT
  rw [List.map_map]
  apply List.map_congr_left
  intro d _
  show ((w (sh d)).length : Int) = _
  rw [h]
end PyI
set_option autoImplicit false
set_option linter.all false
set_option Elab.async false
set_option maxRecDepth 100000
set_option maxHeartbeats 4000000
namespace PyI
local macro_rules | `(tactic| walk_at "wp") => `(tactic| simp only [e_var, e_glb, e_int, e_str, e_bl, e_non, e_bin, e_cmp, e_chain, e_neg, e_and, e_or, e_not, e_ite, e_tup, e_lst, e_dic0, e_sub, e_slice, wo_nil, wo_int, wo_var, wo_bin, wo_neg, wo_blt, wo_call, wo_sub, e_lrg, e_lng, e_rev, e_call, e_blt, e_meth, e_comp, e_fld, e_newc, e_mcl, e_lenc, e_orv, e_selc, a_nil, a_cons,
  s_pass, s_seq, s_nm, s_tp, s_par, s_aug, s_setsub, s_augsub, s_ex, s_ret, s_retn, s_ite, s_whl, s_for, s_brk, s_cnt, s_rse, s_tri, s_setfld,
  b_add, b_adds, b_addr, b_addt, b_sub, b_mul, b_mulr, b_muls, b_mult, b_div, b_mod, b_pow, c_eq, c_eqs, c_eqr, c_eqt, c_eqn, c_ne, c_nes, c_ner, c_net, c_nen, c_lt, c_le, c_gt, c_ge, c_ltt, c_let, c_gtt, c_get, c_lts, c_les, c_gts, c_ges, c_isbb, c_isnn, c_isbn, c_isin, c_issn, c_istn, c_isrn, c_nsbb, c_nsnn, c_nsbn, c_nsin, c_nssn, c_nstn, c_nsrn,
  c_int, c_ins, c_inr, c_nit, c_nis, c_nir, n_int, i_tup, i_str, i_ref, i_dic, k_str, k_tup, k_ref, v_ref, v_tup, l_minD, l_maxD, l_min, l_max, z_vals, z_keys, z_enmt, z_zip3, l_lens, l_lent, l_lenr, l_str, l_int, l_dictP, l_isSeq_t, l_isSeq_r, l_isTup_r, l_isTup_i, l_tuplet, l_tupler, l_listt, l_listr, l_sum, l_all, l_any, l_isInt_i, l_isBool_i, l_isStr_s, l_isTup_t,
  m_starts, m_ins, m_split, m_part, m_popAt, y_popAt, y_ins, y_starts, y_split, y_part, m_app, m_ext, m_pop, m_join, m_alpha, m_sidx, m_get, m_setd, y_app, y_ext, y_pop, y_get, y_setd, y_str, y_alpha, y_sidx, t_bl, o_int, z_tup, z_ref, z_str, z_rng1, z_rng2, z_rng3, z_enm, z_zipt, z_zipr, w_ri, w_rs,
  at_0, at_1, at_2, at_3, gv_0, gv_s, sa_0, sa_s, st_nm, st_tp, wi_0, wi_s, st_0, st_s, st_n, wpB, List.set_cons_zero, List.set_cons_succ, Option.some.injEq, exists_eq_left', true_and, Bool.not_true, Bool.not_false, if_true, if_false, Bool.false_eq_true, exists_const, PV.ref.injEq, PV.str.injEq, PV.int.injEq, List.length_cons, List.length_nil])
/-! ### the Reader -/
/-- what tables are made of -/
def hardO : PO → Bool
  | .dic _ => true
  | .lst (.tup _ :: _) => true
  | .lst (.ref _ :: _) => true
  | .scr _ => true
  | _ => false
def rdrAt (S : Store) (n tb tx : Nat) (pss : List (List Txt)) (ds : List Date) (ts : List Txt) : Prop :=
  S[n]? = some (.ins 0 [(0, .ref tb), (1, .ref tx)]) ∧ tabsAt S tb pss ds ∧ S[tx]? = some (.lst (ts.map PV.str)) ∧ (1 ≤ pss.length ∧ pss.length ≤ 1000) ∧ ts.length ≤ 1000
/-- a table stays while other things change -/
theorem tab_hard {b c : Nat} {S S' : Store} {n : Nat} {w : Date → Txt} {ds : List Date} (e : ∀ (m : Nat) (o : PO), hardO o = true → S[m]? = some o → S'[m]? = some o) (h : tabAt b c S n w ds) : tabAt b c S' n w ds := by
  obtain ⟨rs, h1, h2, h3, h4, h5, h6⟩ := h
  refine ⟨rs, e _ _ rfl h1, h2, h3, h4, h5, fun r hr => ⟨(h6 r hr).1, e _ _ ?_ (h6 r hr).2⟩⟩
  have hk : r.1 ∈ keysOf (ds.map w) := by rw [← h3]; exact List.mem_map.mpr ⟨r, hr, rfl⟩
  obtain ⟨d, hd, hw⟩ := List.mem_map.mp ((mem_keys _ _).mp hk)
  have hm : d ∈ ds.filter fun d => decide (w d = r.1) := List.mem_filter.mpr ⟨hd, decide_eq_true hw⟩
  cases hf : ds.filter fun d => decide (w d = r.1) with
  | nil => rw [hf] at hm; cases hm
  | cons x t => rfl
theorem tabs_hard {S S' : Store} {n : Nat} {pss : List (List Txt)} {ds : List Date} (e : ∀ (m : Nat) (o : PO), hardO o = true → S[m]? = some o → S'[m]? = some o) (h1 : 1 ≤ pss.length) (h : tabsAt S n pss ds) : tabsAt S' n pss ds := by
  obtain ⟨rs, g1, g2, g3⟩ := h
  refine ⟨rs, ?_, g2, fun i ps hi => let ⟨r, b, c, h4, h5⟩ := g3 i ps hi; ⟨r, b, c, h4, tab_hard e h5⟩⟩
  cases rs with
  | nil => rw [← g2] at h1; exact absurd h1 (by decide)
  | cons r t =>
    unfold PyI.getL at g1 ⊢
    split at g1
    · rename_i ys q
      cases g1
      rw [e n _ rfl q]
    · rename_i ys q
      cases g1
      rw [e n _ rfl q]
    · cases g1
theorem rdr_tabs {S : Store} {n tb tx : Nat} {pss : List (List Txt)} {ds : List Date} {ts : List Txt} (h : rdrAt S n tb tx pss ds ts) : tabsAt S tb pss ds := h.2.1
theorem rdr_ext {S S' : Store} {n tb tx : Nat} {pss : List (List Txt)} {ds : List Date} {ts : List Txt} (e : Ext S S') (h : rdrAt S n tb tx pss ds ts) : rdrAt S' n tb tx pss ds ts :=
  ⟨e _ _ h.1, tabs_ext e h.2.1, e _ _ h.2.2.1, h.2.2.2⟩
theorem onl_hard {w : Nat} {S S' : Store} (e : Onl w S S') (h : ∀ o, S[w]? = some o → hardO o = false) (m : Nat) (o : PO) (ho : hardO o = true) (g : S[m]? = some o) : S'[m]? = some o := by
  refine e.2 m o (fun z => ?_) g
  subst z
  rw [h o g] at ho
  cases ho
/-- something that is no part of a table is changed -/
theorem rdr_w {S S' : Store} {w n tb tx : Nat} {pss : List (List Txt)} {ds : List Date} {ts : List Txt} (e : Onl w S S') (h : rdrAt S n tb tx pss ds ts) (h1 : w ≠ n) (h3 : w ≠ tx) (h2 : ∀ o, S[w]? = some o → hardO o = false) : rdrAt S' n tb tx pss ds ts :=
  ⟨e.2 _ _ (fun z => h1 z.symm) h.1, tabs_hard (onl_hard e h2) h.2.2.2.1.1 h.2.1, e.2 _ _ (fun z => h3 z.symm) h.2.2.1, h.2.2.2⟩
theorem hard_txs {S : Store} {w : Nat} {l : List Txt} (g : S[w]? = some (.lst (l.map PV.str))) (o : PO) (h : S[w]? = some o) : hardO o = false := by
  rw [g] at h
  cases h
  cases l <;> rfl
/-- another list of texts is changed -/
theorem rdr_onl {S S' : Store} {w n tb tx : Nat} {pss : List (List Txt)} {ds : List Date} {ts l : List Txt} (e : Onl w S S') (h : rdrAt S n tb tx pss ds ts) (g : S[w]? = some (.lst (l.map PV.str))) (h3 : w ≠ tx) : rdrAt S' n tb tx pss ds ts :=
  rdr_w e h (fun z => by rw [z, h.1] at g; cases g) h3 (hard_txs g)
/-- a new list is changed -/
theorem rdr_new {S S' : Store} {w n tb tx : Nat} {pss : List (List Txt)} {ds : List Date} {ts : List Txt} (e : Onl w S S') (h : rdrAt S n tb tx pss ds ts) (hw : S.length ≤ w) : rdrAt S' n tb tx pss ds ts := by
  have hn := (List.getElem?_eq_some_iff.mp h.1).1
  have hx := (List.getElem?_eq_some_iff.mp h.2.2.1).1
  exact rdr_w e h (by omega) (by omega) fun o ho => absurd (List.getElem?_eq_some_iff.mp ho).1 (by omega)
/-- the town is changed -/
theorem rdr_tw {S S' : Store} {sc tw n tb tx : Nat} {pss : List (List Txt)} {ds : List Date} {ts : List Txt} (e : Onl tw S S') (t : TW S sc tw) (h : rdrAt S n tb tx pss ds ts) : rdrAt S' n tb tx pss ds ts := by
  obtain ⟨_, _, p, q, _, _, g⟩ := t
  refine rdr_w e h (fun z => by rw [z, h.1] at g; cases g) (fun z => ?_) fun o ho => by rw [g] at ho; cases ho; rfl
  have g2 := h.2.2.1
  rw [← z, g] at g2
  cases ts with
  | nil => cases g2
  | cons a r => simp at g2
/-- instances are no part of a table -/
theorem getL_keep {S S' : Store} (h : ∀ (m : Nat) (o : PO), S[m]? = some o → (∀ fs, o ≠ .ins 0 fs) → S'[m]? = some o) {n : Nat} {xs : List PV} (g : getL S n = some xs) : getL S' n = some xs := by
  unfold getL at g ⊢
  cases e : S[n]? with
  | none => rw [e] at g; cases g
  | some o =>
    rw [e] at g
    cases o with
    | lst ys => rw [h n _ e (fun fs => nofun)]; exact g
    | scr ys => rw [h n _ e (fun fs => nofun)]; exact g
    | dic ys => cases g
    | ldc ys => cases g
    | ins c fs => cases g
theorem tabs_keep {S S' : Store} (h : ∀ (m : Nat) (o : PO), S[m]? = some o → (∀ fs, o ≠ .ins 0 fs) → S'[m]? = some o) {n : Nat} {pss : List (List Txt)} {ds : List Date} (t : tabsAt S n pss ds) : tabsAt S' n pss ds := by
  obtain ⟨rs, h1, h2, h3⟩ := t
  refine ⟨rs, getL_keep h h1, h2, fun i ps hi => ?_⟩
  obtain ⟨r, b, c, h4, qs, g1, g2, g3, g4, g5, g6⟩ := h3 i ps hi
  exact ⟨r, b, c, h4, qs, h _ _ g1 (fun fs => nofun), g2, g3, g4, g5, fun x hx => ⟨(g6 x hx).1, h _ _ (g6 x hx).2 (fun fs => nofun)⟩⟩
def ct_rinit : Ct := fun vs S Q _ => ∃ (n : Nat) (pss : List (List Txt)) (a b : Int), vs = [.ref n, psV pss, .tup [.int a, .int b]] ∧ S[n]? = some (.ins 0 []) ∧ goodPs pss ∧ isSpan a b ∧
  ∀ S' tb tx, Onl n S S' → S.length ≤ tb → S.length ≤ tx → rdrAt S' n tb tx pss (datesIn a b) [] → Q .non S'
def ct_rcand : Ct := fun vs S Q _ => ∃ (n tb tx : Nat) (pss : List (List Txt)) (ds : List Date) (ts : List Txt), vs = [.ref n] ∧ rdrAt S n tb tx pss ds ts ∧
  ∀ S' k, Ext S S' → S.length ≤ k → S'[k]? = some (.lst ((fitsT pss ds ts).map natV)) → Q (.ref k) S'
def ct_rfeed : Ct := fun vs S Q _ => ∃ (n tb tx : Nat) (pss : List (List Txt)) (ds : List Date) (ts : List Txt) (t : Txt), vs = [.ref n, .str t] ∧ rdrAt S n tb tx pss ds ts ∧ ts.length < 1000 ∧
  ∀ S' k, Onl tx S S' → rdrAt S' n tb tx pss ds (ts ++ [t]) → S.length ≤ k → S'[k]? = some (.lst ((fitsT pss ds (ts ++ [t])).map natV)) → Q (.ref k) S'
def ct_rlen : Ct := fun vs S Q _ => ∃ (n tb tx : Nat) (pss : List (List Txt)) (ds : List Date) (ts : List Txt), vs = [.ref n] ∧ rdrAt S n tb tx pss ds ts ∧ Q (.int ts.length) S
section
variable {Γ : Sig} (C : Hlp Γ)
include C
theorem p_Reader_init (h36 : Γ.ct 36 = ct_need_patterns) : ∀ vs S Q R, ct_rinit vs S Q R → wpB Γ 4 b_Reader_init vs S Q R := by
  rintro vs S Q R ⟨n, pss, a, b, rfl, hn, hp, hs, q⟩
  unfold b_Reader_init
  walk_at "wp"
  rw [h36, C.need_span]
  refine ⟨pss, rfl, hp, fun S1 e1 => ?_⟩
  walk_at "wp"
  refine ⟨a, b, hs, rfl, fun S2 e2 => ?_⟩
  unfold psV
  walk_at "wp"
  have hl5 := hp.2.1
  have hnl := (List.getElem?_eq_some_iff.mp hn).1
  have k2 := (e1.trans e2).len
  refine comp_tabs C hs (goodPs_small hp) (by omega) (fun v => rfl) (fun v => rfl) fun S3 e3 hT => ?_
  have e13 := (e1.trans e2).trans e3
  have h3 := e13 _ _ hn
  have k3 := e3.len
  have hlt := (List.getElem?_eq_some_iff.mp h3).1
  refine ⟨_, [], rfl, h3, by decide, n, [(0, .ref S2.length)], rfl, ?_, by show 1 < 100; decide, ?_⟩
  · rw [List.getElem?_append_left (by rw [List.length_set]; exact hlt), List.getElem?_set_self hlt]
    rfl
  · refine q _ S2.length (S3.set n (.ins 0 [(0, .ref S2.length)])).length ?_ (by omega) (by rw [List.length_set]; omega) ?_
    · exact (((Ext.onl e13).set).trans (Ext.onl Ext.new)).set
    · have hm : (S3.set n (.ins 0 [(0, .ref S2.length)])).length = S3.length := List.length_set
      refine ⟨?_, ?_, ?_, ⟨hp.1, by omega⟩, by simp⟩
      · rw [List.getElem?_set_self (by rw [List.length_append, List.length_set]; omega)]
        rfl
      · refine tabs_keep (fun m o ho hi => ?_) hT
        have hmn : m ≠ n := fun z => by
          subst z
          rw [h3] at ho
          cases ho
          exact hi [] rfl
        have hml := (List.getElem?_eq_some_iff.mp ho).1
        rw [List.getElem?_set_ne (fun z => hmn z.symm), List.getElem?_append_left (by rw [List.length_set]; exact hml), List.getElem?_set_ne (fun z => hmn z.symm)]
        exact ho
      · rw [List.getElem?_set_ne (by rw [hm]; omega)]
        exact new_at
theorem p_Reader_candidates (h37 : Γ.ct 37 = ct_fitting_of) : ∀ vs S Q R, ct_rcand vs S Q R → wpB Γ 1 b_Reader_candidates vs S Q R := by
  rintro vs S Q R ⟨n, tb, tx, pss, ds, ts, rfl, hr, q⟩
  unfold b_Reader_candidates
  walk_at "wp"
  refine ⟨_, _, _, rfl, hr.1, rfl, _, _, _, rfl, hr.1, rfl, ?_⟩
  rw [h37]
  exact ⟨tb, .ref tx, pss, ds, ts, rfl, rdr_tabs hr, getL_lst hr.2.2.1, hr.2.2.2.1.2, hr.2.2.2.2, q⟩
theorem p_Reader_len : ∀ vs S Q R, ct_rlen vs S Q R → wpB Γ 1 b_Reader_len vs S Q R := by
  rintro vs S Q R ⟨n, tb, tx, pss, ds, ts, rfl, hr, q⟩
  unfold b_Reader_len
  walk_at "wp"
  refine ⟨_, _, _, rfl, hr.1, rfl, ?_⟩
  rw [l_lenr]
  refine .inl ⟨_, getL_lst hr.2.2.1, ?_⟩
  rw [List.length_map]
  exact q
theorem p_Reader_feed (h62 : Γ.ct 62 = ct_rcand) : ∀ vs S Q R, ct_rfeed vs S Q R → wpB Γ 2 b_Reader_feed vs S Q R := by
  rintro vs S Q R ⟨n, tb, tx, pss, ds, ts, t, rfl, hr, hl, q⟩
  unfold b_Reader_feed
  walk_at "wp"
  rw [C.need_text]
  refine ⟨t, rfl, ?_⟩
  walk_at "wp"
  refine ⟨_, _, _, rfl, hr.1, rfl, ?_⟩
  obtain ⟨r1, r2, r3, r4, r5⟩ := hr
  have hne : tx ≠ n := fun z => by subst z; rw [r1] at r3; cases r3
  have htl := (List.getElem?_eq_some_iff.mp r3).1
  rw [m_app]
  refine ⟨⟨tx, _, rfl, getL_lst r3⟩, _, r3, by rw [List.length_map]; unfold big; omega, ?_⟩
  have g1 : (S.set tx (.lst (ts.map PV.str ++ [.str t])))[n]? = some (.ins 0 [(0, .ref tb), (1, .ref tx)]) := by
    rw [List.getElem?_set_ne hne]
    exact r1
  have hr1 : rdrAt (S.set tx (.lst (ts.map PV.str ++ [.str t]))) n tb tx pss ds (ts ++ [t]) := by
    refine ⟨g1, tabs_hard (onl_hard (w := tx) Onl.refl.set (hard_txs r3)) r4.1 r2, ?_, r4, by simp; omega⟩
    rw [List.getElem?_set_self htl, List.map_append]
    rfl
  refine ⟨⟨n, _, rfl, g1⟩, ?_⟩
  rw [h62]
  exact ⟨n, tb, tx, pss, ds, ts ++ [t], rfl, hr1, fun S' k e hk g => q S' k ((Onl.set (o := .lst (ts.map PV.str ++ [.str t])) Onl.refl).trans (Ext.onl e)) (rdr_ext e hr1) (by rw [List.length_set] at hk; exact hk) g⟩
end
/-! ### the least and the greatest of dates -/
def minC (d : Date) (r : List Date) : Date := r.foldl (fun a y => if dcode y < dcode a then y else a) d
def maxC (d : Date) (r : List Date) : Date := r.foldl (fun a y => if dcode a < dcode y then y else a) d
theorem minC_spec : ∀ (r : List Date) (d : Date), minC d r ∈ d :: r ∧ ∀ q ∈ d :: r, dcode (minC d r) ≤ dcode q
  | [], d => ⟨List.mem_cons_self .., fun q hq => by rw [List.mem_singleton.mp hq]; exact Int.le_refl _⟩
  | y :: r, d => by
    have e : minC d (y :: r) = minC (if dcode y < dcode d then y else d) r := rfl
    rw [e]
    obtain ⟨h1, h2⟩ := minC_spec r (if dcode y < dcode d then y else d)
    constructor
    · rcases List.mem_cons.mp h1 with h | h
      · rw [h]
        split
        · simp
        · simp
      · simp [h]
    · intro q hq
      have hh := h2 _ (List.mem_cons_self ..)
      rcases List.mem_cons.mp hq with rfl | hq
      · refine Int.le_trans hh ?_
        split <;> omega
      · rcases List.mem_cons.mp hq with rfl | hq
        · refine Int.le_trans hh ?_
          split <;> omega
        · exact h2 q (List.mem_cons_of_mem _ hq)
theorem maxC_spec : ∀ (r : List Date) (d : Date), maxC d r ∈ d :: r ∧ ∀ q ∈ d :: r, dcode q ≤ dcode (maxC d r)
  | [], d => ⟨List.mem_cons_self .., fun q hq => by rw [List.mem_singleton.mp hq]; exact Int.le_refl _⟩
  | y :: r, d => by
    have e : maxC d (y :: r) = maxC (if dcode d < dcode y then y else d) r := rfl
    rw [e]
    obtain ⟨h1, h2⟩ := maxC_spec r (if dcode d < dcode y then y else d)
    constructor
    · rcases List.mem_cons.mp h1 with h | h
      · rw [h]
        split
        · simp
        · simp
      · simp [h]
    · intro q hq
      have hh := h2 _ (List.mem_cons_self ..)
      rcases List.mem_cons.mp hq with rfl | hq
      · refine Int.le_trans ?_ hh
        split <;> omega
      · rcases List.mem_cons.mp hq with rfl | hq
        · refine Int.le_trans ?_ hh
          split <;> omega
        · exact h2 q (List.mem_cons_of_mem _ hq)
theorem minDt_d : ∀ (r : List Date) (d : Date), (∀ q ∈ d :: r, isDate q) → minDt (dD d) (r.map dD) = dD (minC d r)
  | [], _, _ => rfl
  | y :: r, d, h => by
    have hd := h d (List.mem_cons_self ..)
    have hy := h y (List.mem_cons_of_mem _ (List.mem_cons_self ..))
    have e1 : minDt (dD d) ((y :: r).map dD) = minDt (if ltDt (dD y) (dD d) then dD y else dD d) (r.map dD) := rfl
    have e2 : minC d (y :: r) = minC (if dcode y < dcode d then y else d) r := rfl
    rw [e1, e2, lt_dD hy hd]
    by_cases hc : dcode y < dcode d
    · rw [if_pos (decide_eq_true hc), if_pos hc]
      exact minDt_d r y fun q hq => h q (by rcases List.mem_cons.mp hq with rfl | hq <;> simp [*])
    · rw [if_neg (by simpa using hc), if_neg hc]
      exact minDt_d r d fun q hq => h q (by rcases List.mem_cons.mp hq with rfl | hq <;> simp [*])
theorem maxDt_d : ∀ (r : List Date) (d : Date), (∀ q ∈ d :: r, isDate q) → maxDt (dD d) (r.map dD) = dD (maxC d r)
  | [], _, _ => rfl
  | y :: r, d, h => by
    have hd := h d (List.mem_cons_self ..)
    have hy := h y (List.mem_cons_of_mem _ (List.mem_cons_self ..))
    have e1 : maxDt (dD d) ((y :: r).map dD) = maxDt (if ltDt (dD d) (dD y) then dD y else dD d) (r.map dD) := rfl
    have e2 : maxC d (y :: r) = maxC (if dcode d < dcode y then y else d) r := rfl
    rw [e1, e2, lt_dD hd hy]
    by_cases hc : dcode d < dcode y
    · rw [if_pos (decide_eq_true hc), if_pos hc]
      exact maxDt_d r y fun q hq => h q (by rcases List.mem_cons.mp hq with rfl | hq <;> simp [*])
    · rw [if_neg (by simpa using hc), if_neg hc]
      exact maxDt_d r d fun q hq => h q (by rcases List.mem_cons.mp hq with rfl | hq <;> simp [*])
/-- the only date of a list of dates -/
def onlyL : List Date → Option Date
  | [] => none
  | d :: r => if (r.all fun q => decide (q = d)) = true then some d else none
theorem minmax_only (d : Date) (r : List Date) (h : ∀ q ∈ d :: r, isDate q) : decide (minC d r = maxC d r) = r.all fun q => decide (q = d) := by
  obtain ⟨a1, a2⟩ := minC_spec r d
  obtain ⟨b1, b2⟩ := maxC_spec r d
  cases hc : r.all fun q => decide (q = d) with
  | true =>
    have hall : ∀ q ∈ d :: r, q = d := fun q hq => (List.mem_cons.mp hq).elim id fun hq => by simpa using List.all_eq_true.mp hc q hq
    rw [hall _ a1, hall _ b1]
    simp
  | false =>
    refine decide_eq_false fun e => ?_
    rw [List.all_eq_false] at hc
    obtain ⟨q, hq, hne⟩ := hc
    refine hne (decide_eq_true ?_)
    have hqm : q ∈ d :: r := List.mem_cons_of_mem _ hq
    have hdm : d ∈ d :: r := List.mem_cons_self
    have k1 := a2 q hqm
    have k2 := b2 q hqm
    have k3 := a2 d hdm
    have k4 := b2 d hdm
    rw [e] at k1 k3
    exact dcode_inj (h q hqm) (h d hdm) (by omega)
theorem alike_dates (l : List Date) : alikeDt (l.map dD) := by
  intro x hx
  obtain ⟨p, hp, rfl⟩ := List.mem_map.mp hx
  refine ⟨fun y hy => ?_, fun e => by cases e⟩
  obtain ⟨q, hq, rfl⟩ := List.mem_map.mp hy
  exact alike_dD p q
/-- min(l), max(l) of a list of dates -/
theorem min_dates {S : Store} {n : Nat} {d : Date} {r : List Date} (g : getL S n = some ((d :: r).map dV)) (h : ∀ q ∈ d :: r, isDate q) {K : PV → Prop} (q : K (dV (minC d r))) :
    ∃ xs e es, getL S n = some xs ∧ DnL S 50 xs (e :: es) ∧ alikeDt (e :: es) ∧ ∀ (i : Nat) v, xs[i]? = some v → (e :: es)[i]? = some (minDt e es) → K v := by
  refine ⟨_, dD d, r.map dD, g, dn_dates (k := 49) (d :: r), alike_dates (d :: r), fun i v hv1 hv2 => ?_⟩
  rw [minDt_d r d h] at hv2
  rw [List.getElem?_map] at hv1
  obtain ⟨z, hz, rfl⟩ := Option.map_eq_some_iff.mp hv1
  have hz2 : (dD d :: r.map dD)[i]? = some (dD z) := by
    have : ((d :: r).map dD)[i]? = some (dD z) := by rw [List.getElem?_map, hz]; rfl
    exact this
  rw [hz2] at hv2
  rw [dD_inj (Option.some.inj hv2)]
  exact q
theorem max_dates {S : Store} {n : Nat} {d : Date} {r : List Date} (g : getL S n = some ((d :: r).map dV)) (h : ∀ q ∈ d :: r, isDate q) {K : PV → Prop} (q : K (dV (maxC d r))) :
    ∃ xs e es, getL S n = some xs ∧ DnL S 50 xs (e :: es) ∧ alikeDt (e :: es) ∧ ∀ (i : Nat) v, xs[i]? = some v → (e :: es)[i]? = some (maxDt e es) → K v := by
  refine ⟨_, dD d, r.map dD, g, dn_dates (k := 49) (d :: r), alike_dates (d :: r), fun i v hv1 hv2 => ?_⟩
  rw [maxDt_d r d h] at hv2
  rw [List.getElem?_map] at hv1
  obtain ⟨z, hz, rfl⟩ := Option.map_eq_some_iff.mp hv1
  have hz2 : (dD d :: r.map dD)[i]? = some (dD z) := by
    have : ((d :: r).map dD)[i]? = some (dD z) := by rw [List.getElem?_map, hz]; rfl
    exact this
  rw [hz2] at hv2
  rw [dD_inj (Option.some.inj hv2)]
  exact q
theorem date_eq (x y : Date) {S : Store} {Q : PQ} (q : Q (.bl (decide (x = y))) S) : cmpop .eq (dV x) (dV y) S Q := by
  refine ⟨_, _, dn_date x, dn_date y, ?_⟩
  rw [eqv_dD]
  exact q
/-! ### what a text is under some patterns -/
def readT (ps : List Txt) (ds : List Date) (t : Txt) : List Date := ds.filter fun d => decide (writtenT ps d = t)
def foundT (pss : List (List Txt)) (ds : List Date) (ks : List Nat) (t : Txt) : List Date := ks.flatMap fun i => readT (patAt pss i) ds t
def onlyT (pss : List (List Txt)) (ds : List Date) (ts : List Txt) (t : Txt) : Option Date := onlyL (foundT pss ds (fitsT pss ds ts) t)
theorem fitsT_lt {pss : List (List Txt)} {ds : List Date} {ts : List Txt} {i : Nat} (h : i ∈ fitsT pss ds ts) : i < pss.length := List.mem_range.mp (List.mem_filter.mp h).1
theorem fitsT_len (pss : List (List Txt)) (ds : List Date) (ts : List Txt) : (fitsT pss ds ts).length ≤ pss.length := by
  unfold fitsT
  have := List.length_filter_le (fun i => ts.all fun t => hasT (patAt pss i) ds t) (List.range pss.length)
  rw [List.length_range] at this
  exact this
theorem found_mem {pss : List (List Txt)} {ds : List Date} {ks : List Nat} {t : Txt} {d : Date} (h : d ∈ foundT pss ds ks t) : d ∈ ds := by
  obtain ⟨i, _, h⟩ := List.mem_flatMap.mp h
  exact (List.mem_filter.mp h).1
def ct_ronly : Ct := fun vs S Q _ => ∃ (n tb tx : Nat) (pss : List (List Txt)) (ds : List Date) (ts : List Txt) (t : Txt), vs = [.ref n, .str t] ∧ rdrAt S n tb tx pss ds ts ∧ ds.length ≤ 10000 ∧ (∀ d ∈ ds, isDate d) ∧
  ∀ S', Ext S S' → Q (optV (onlyT pss ds ts t)) S'
/-- the texts that are not certain -/
def uncT (pss : List (List Txt)) (ds : List Date) (ts : List Txt) : List Txt → List Txt → List Txt
  | acc, [] => acc
  | acc, t :: r => uncT pss ds ts (if t ∉ acc ∧ onlyT pss ds ts t = none then acc ++ [t] else acc) r
def ct_runc : Ct := fun vs S Q _ => ∃ (n tb tx : Nat) (pss : List (List Txt)) (ds : List Date) (ts : List Txt), vs = [.ref n] ∧ rdrAt S n tb tx pss ds ts ∧ ds.length ≤ 10000 ∧ (∀ d ∈ ds, isDate d) ∧
  ∀ S' k, Ext S S' → S.length ≤ k → S'[k]? = some (.lst ((uncT pss ds ts [] ts).map PV.str)) → Q (.ref k) S'
def ct_rcopy : Ct := fun vs S Q _ => ∃ (n tb tx : Nat) (pss : List (List Txt)) (ds : List Date) (ts : List Txt), vs = [.ref n] ∧ rdrAt S n tb tx pss ds ts ∧
  ∀ S' m ty, Ext S S' → S.length ≤ m → S.length ≤ ty → rdrAt S' m tb ty pss ds ts → Q (.ref m) S'
theorem uncT_snoc (pss : List (List Txt)) (ds : List Date) (ts : List Txt) (t : Txt) : ∀ (l acc : List Txt), uncT pss ds ts acc (l ++ [t]) = if t ∉ uncT pss ds ts acc l ∧ onlyT pss ds ts t = none then uncT pss ds ts acc l ++ [t] else uncT pss ds ts acc l
  | [], acc => rfl
  | x :: l, acc => by
    rw [List.cons_append, uncT, uncT]
    exact uncT_snoc pss ds ts t l _
theorem uncT_len (pss : List (List Txt)) (ds : List Date) (ts : List Txt) : ∀ (l acc : List Txt), (uncT pss ds ts acc l).length ≤ acc.length + l.length
  | [], acc => Nat.le_refl _
  | x :: l, acc => by
    rw [uncT]
    refine Nat.le_trans (uncT_len pss ds ts l _) ?_
    rw [List.length_cons]
    split
    · rw [List.length_append]; simp; omega
    · omega
section
variable {Γ : Sig} (C : Hlp Γ)
include C
theorem p_Reader_only (h62 : Γ.ct 62 = ct_rcand) : ∀ vs S Q R, ct_ronly vs S Q R → wpB Γ 4 b_Reader_only vs S Q R := by
  rintro vs S Q R ⟨n, tb, tx, pss, ds, ts, t, rfl, hr, hl, hd, q⟩
  unfold b_Reader_only
  walk_at "wp"
  have e0 : Ext S (S ++ [PO.lst []]) := Ext.new
  have hr0 := rdr_ext e0 hr
  refine ⟨⟨n, _, rfl, hr0.1⟩, ?_⟩
  rw [h62]
  refine ⟨n, tb, tx, pss, ds, ts, rfl, hr0, fun S1 k e1 hk g1 => ?_⟩
  walk_at "wp"
  have hr1 := rdr_ext e1 hr0
  have hn := (List.getElem?_eq_some_iff.mp hr.1).1
  have htx := (List.getElem?_eq_some_iff.mp hr.2.2.1).1
  have hF : S1[S.length]? = some (.lst []) := e1 _ _ new_at
  have hkS : S.length + 1 ≤ k := by rw [List.length_append] at hk; exact hk
  refine ⟨_, getL_lst g1, ?_⟩
  have h5 := hr.2.2.2.1.2
  refine ⟨fun i ρ' S' => Onl S.length S1 S' ∧ S'[S.length]? = some (.lst ((foundT pss ds ((fitsT pss ds ts).take i) t).map dV)) ∧ (foundT pss ds ((fitsT pss ds ts).take i) t).length ≤ 10000 * i ∧ ∃ x, ρ' = [some (.ref n), some (.str t), some (.ref S.length), x],
    ⟨Onl.refl, hF, Nat.zero_le _, _, rfl⟩, fun i ρ' S' w => w.1.getL (by omega) (getL_lst g1), ?_, ?_⟩
  · rintro i x ρ' S2 hx ⟨e2, g2, l2, x3, rfl⟩
    rw [List.getElem?_map] at hx
    obtain ⟨a, ha, rfl⟩ := Option.map_eq_some_iff.mp hx
    have hi := (List.getElem?_eq_some_iff.mp ha).1
    have hfl := fitsT_len pss ds ts
    have hlt := fitsT_lt (List.mem_of_getElem? ha)
    have hr2 := rdr_w e2 hr1 (by omega) (by omega) fun o ho => by rw [hF] at ho; cases ho; rfl
    obtain ⟨rs, t1, t2, t3⟩ := rdr_tabs hr2
    obtain ⟨r, b, c, hrr, htab⟩ := t3 a _ (patAt_lt hlt)
    obtain ⟨kvs, rr, k1, k2, k3⟩ := tab_getD htab t
    refine ⟨_, rfl, ?_⟩
    unfold natV
    walk_at "wp"
    refine ⟨⟨_, _, rfl, getL_lst g2⟩, _, _, _, rfl, hr2.1, rfl, ?_⟩
    walk_at "wp"
    refine ⟨_, .ref r, t1, at_nat _ _ (by omega) _ (by rw [Int.toNat_natCast, List.getElem?_map, hrr]; rfl), ?_⟩
    walk_at "wp"
    refine ⟨⟨_, _, rfl, getD_dic k1⟩, _, getD_dic (Ext.new _ _ k1), ?_⟩
    rw [k2]
    walk_at "wp"
    have hlenr : (readT (patAt pss a) ds t).length ≤ 10000 := Nat.le_trans (List.length_filter_le _ _) hl
    have e3 : Onl S.length S1 (S2 ++ [PO.lst []]) := e2.trans (Ext.onl Ext.new)
    have g3 := Ext.new (o := PO.lst []) _ _ g2
    have htk : (fitsT pss ds ts).take (i + 1) = (fitsT pss ds ts).take i ++ [a] := by rw [List.take_add_one, ha]; rfl
    have hfs : foundT pss ds ((fitsT pss ds ts).take (i + 1)) t = foundT pss ds ((fitsT pss ds ts).take i) t ++ readT (patAt pss a) ds t := by
      unfold foundT
      rw [htk, List.flatMap_append, List.flatMap_singleton]
    refine ⟨_, _, g3, k3, ?_, e3.set, ?_, ?_, _, rfl⟩
    · rw [List.length_map, List.length_map]
      have : (List.filter (fun d => decide (writtenT (patAt pss a) d = t)) ds).length ≤ 10000 := hlenr
      unfold big
      omega
    · rw [List.getElem?_set_self (List.getElem?_eq_some_iff.mp g3).1, hfs, List.map_append]
      rfl
    · rw [hfs, List.length_append]
      omega
  · rintro ρ' S2 ⟨e2, g2, l2, x3, rfl⟩
    rw [List.length_map, List.take_length] at g2
    have q1 : ∀ S', Ext S2 S' → Q (optV (onlyT pss ds ts t)) S' := fun S' e => q S' fun m o ho => e _ _ (e2.2 _ _ (by have := (List.getElem?_eq_some_iff.mp ho).1; omega) (e1 _ _ (e0 _ _ ho)))
    walk_at "wp"
    refine ⟨_, _, dn_datesR (getL_lst (Ext.new _ _ g2)), dn_nil (getL_lst new_at), ?_⟩
    rw [eqv_nil]
    have hmem : ∀ d ∈ foundT pss ds (fitsT pss ds ts) t, isDate d := fun d h => hd d (found_mem h)
    unfold onlyT at q1
    cases hf : foundT pss ds (fitsT pss ds ts) t with
    | nil =>
      rw [hf] at q1
      rw [if_neg (by decide)]
      try walk_at "wp"
      exact q1 _ Ext.new
    | cons d r =>
      rw [hf] at q1 g2 hmem
      rw [if_pos (by simp)]
      try walk_at "wp"
      have g3 := getL_lst (Ext.new (o := PO.lst []) _ _ g2)
      refine min_dates g3 hmem ?_
      try walk_at "wp"
      refine max_dates g3 hmem ?_
      refine date_eq _ _ ?_
      rw [minmax_only d r hmem]
      try walk_at "wp"
      have q1 : ∀ S', Ext S2 S' → Q (optV (if (r.all fun q => decide (q = d)) = true then some d else none)) S' := q1
      cases hall : r.all fun q => decide (q = d) with
      | true =>
        rw [hall] at q1
        rw [if_pos rfl]
        refine ⟨_, _, g3, rfl, ?_⟩
        exact q1 _ Ext.new
      | false =>
        rw [hall] at q1
        rw [if_neg (by decide)]
        exact q1 _ Ext.new
theorem p_Reader_certain (h63 : Γ.ct 63 = ct_ronly) : ∀ vs S Q R, ct_ronly vs S Q R → wpB Γ 2 b_Reader_certain vs S Q R := by
  rintro vs S Q R ⟨n, tb, tx, pss, ds, ts, t, rfl, hr, hl, hd, q⟩
  unfold b_Reader_certain
  walk_at "wp"
  rw [C.need_text]
  refine ⟨t, rfl, ?_⟩
  walk_at "wp"
  refine ⟨⟨n, _, rfl, hr.1⟩, ?_⟩
  rw [h63]
  exact ⟨n, tb, tx, pss, ds, ts, t, rfl, hr, hl, hd, q⟩
theorem p_Reader_uncertain (h63 : Γ.ct 63 = ct_ronly) : ∀ vs S Q R, ct_runc vs S Q R → wpB Γ 3 b_Reader_uncertain vs S Q R := by
  rintro vs S Q R ⟨n, tb, tx, pss, ds, ts, rfl, hr, hl, hd, q⟩
  unfold b_Reader_uncertain
  walk_at "wp"
  have e0 : Ext S (S ++ [PO.lst []]) := Ext.new
  have hr0 := rdr_ext e0 hr
  have hn := (List.getElem?_eq_some_iff.mp hr.1).1
  have htx := (List.getElem?_eq_some_iff.mp hr.2.2.1).1
  have hts := hr.2.2.2.2
  refine ⟨_, _, _, rfl, hr0.1, rfl, ?_⟩
  walk_at "wp"
  refine ⟨_, getL_lst hr0.2.2.1, ?_⟩
  refine ⟨fun i ρ' S' => Onl S.length (S ++ [PO.lst []]) S' ∧ S'[S.length]? = some (.lst ((uncT pss ds ts [] (ts.take i)).map PV.str)) ∧ ∃ x, ρ' = [some (.ref n), some (.ref S.length), x],
    ⟨Onl.refl, new_at, _, rfl⟩, fun i ρ' S' w => w.1.getL (by omega) (getL_lst hr0.2.2.1), ?_, ?_⟩
  · rintro i x ρ' S2 hx ⟨e2, g2, x2, rfl⟩
    rw [List.getElem?_map] at hx
    obtain ⟨t, ht, rfl⟩ := Option.map_eq_some_iff.mp hx
    have hi := (List.getElem?_eq_some_iff.mp ht).1
    have hr2 := rdr_w e2 hr0 (by omega) (by omega) fun o ho => by rw [new_at] at ho; cases ho; rfl
    have htk : ts.take (i + 1) = ts.take i ++ [t] := by rw [List.take_add_one, ht]; rfl
    have hul := uncT_len pss ds ts (ts.take i) []
    rw [List.length_take, List.length_nil] at hul
    refine ⟨_, rfl, ?_⟩
    walk_at "wp"
    rw [htk, uncT_snoc]
    refine Or.inl ⟨_, getL_lst g2, rfl, flat_strs _, ?_⟩
    rw [inP_str]
    by_cases hm : t ∈ uncT pss ds ts [] (ts.take i)
    · rw [decide_eq_true hm]
      try walk_at "wp"
      rw [if_neg (fun z => z.1 hm)]
      exact ⟨e2, g2, _, rfl⟩
    · rw [decide_eq_false hm]
      try walk_at "wp"
      refine ⟨⟨n, _, rfl, hr2.1⟩, ?_⟩
      rw [h63]
      refine ⟨n, tb, tx, pss, ds, ts, t, rfl, hr2, hl, hd, fun S3 e3 => ?_⟩
      walk_at "wp"
      rw [opt_is]
      cases ho : onlyT pss ds ts t with
      | none =>
        rw [if_pos ⟨hm, rfl⟩]
        simp only [Option.isNone_none, t_bl, if_true]
        have g3 := e3 _ _ g2
        refine ⟨⟨_, _, rfl, getL_lst g3⟩, _, g3, by rw [List.length_map]; unfold big; omega, (e2.trans e3.onl).set, ?_, _, rfl⟩
        rw [List.getElem?_set_self (List.getElem?_eq_some_iff.mp g3).1, List.map_append]
        rfl
      | some d =>
        rw [if_neg (fun z => by cases z.2)]
        simp only [Option.isNone_some, t_bl, Bool.false_eq_true, if_false]
        exact ⟨e2.trans e3.onl, e3 _ _ g2, _, rfl⟩
  · rintro ρ' S2 ⟨e2, g2, x2, rfl⟩
    rw [List.length_map, List.take_length] at g2
    walk_at "wp"
    refine q S2 S.length (fun m o ho => e2.2 _ _ (by have := (List.getElem?_eq_some_iff.mp ho).1; omega) (e0 _ _ ho)) (Nat.le_refl _) g2
theorem p_Reader_copy (h60 : Γ.ct 60 = ct_rinit) : ∀ vs S Q R, ct_rcopy vs S Q R → wpB Γ 2 b_Reader_copy vs S Q R := by
  rintro vs S Q R ⟨n, tb, tx, pss, ds, ts, rfl, hr, q⟩
  unfold b_Reader_copy
  walk_at "wp"
  have e0 : Ext S (S ++ [PO.ins 0 []]) := Ext.new
  have hgd : goodPs [[[68]]] := ⟨by decide, by decide, fun ps hps => by
    rw [List.mem_singleton.mp hps]
    exact good_of (by decide) (by decide) (by simp [okPart, fieldT]) (by decide)⟩
  have hn := (List.getElem?_eq_some_iff.mp hr.1).1
  have htx := (List.getElem?_eq_some_iff.mp hr.2.2.1).1
  rw [h60]
  refine ⟨S.length, [[[68]]], 2000, 2000, rfl, new_at, hgd, by unfold isSpan; omega, fun S1 tb' tx' e1 hb hx hr1 => ?_⟩
  have e01 : Ext S S1 := fun m o ho => e1.2 _ _ (by have := (List.getElem?_eq_some_iff.mp ho).1; omega) (e0 _ _ ho)
  have hrr := rdr_ext e01 hr
  rw [List.length_append] at hb hx
  simp only [List.length_cons, List.length_nil] at hb hx
  refine ⟨rfl, ?_⟩
  try walk_at "wp"
  have hS1 := (List.getElem?_eq_some_iff.mp hr1.1).1
  refine ⟨n, _, _, rfl, hrr.1, rfl, S.length, _, rfl, hr1.1, by show 2 < 100; decide, ?_⟩
  try walk_at "wp"
  have e2 : Ext S (S1.set S.length (.ins 0 (putFd 0 (.ref tb) [(0, .ref tb'), (1, .ref tx')]))) := e01.set (Nat.le_refl _)
  have hr2 := rdr_ext e2 hr
  refine ⟨n, _, _, rfl, hr2.1, rfl, ?_⟩
  try walk_at "wp"
  refine ⟨_, getL_lst hr2.2.2.1, S.length, _, rfl, Ext.new _ _ (List.getElem?_set_self hS1), by show 2 < 100; decide, ?_⟩
  have hS2 : S.length < (S1.set S.length (.ins 0 (putFd 0 (.ref tb) [(0, .ref tb'), (1, .ref tx')])) ++ [PO.lst (ts.map PV.str)]).length := by rw [List.length_append, List.length_set]; omega
  refine q _ S.length (S1.set S.length (.ins 0 (putFd 0 (.ref tb) [(0, .ref tb'), (1, .ref tx')]))).length ((e2.trans Ext.new).set (Nat.le_refl _)) (Nat.le_refl _) (by rw [List.length_set]; omega) ?_
  have e3 : Ext S ((S1.set S.length (.ins 0 (putFd 0 (.ref tb) [(0, .ref tb'), (1, .ref tx')])) ++ [PO.lst (ts.map PV.str)]).set S.length (.ins 0 (putFd 1 (.ref (S1.set S.length (.ins 0 (putFd 0 (.ref tb) [(0, .ref tb'), (1, .ref tx')]))).length) (putFd 0 (.ref tb) [(0, .ref tb'), (1, .ref tx')])))) := (e2.trans Ext.new).set (Nat.le_refl _)
  refine ⟨?_, ?_, ?_, hr.2.2.2⟩
  · rw [List.getElem?_set_self hS2]
    rfl
  · exact tabs_ext e3 hr.2.1
  · rw [List.getElem?_set_ne (by rw [List.length_set]; omega)]
    exact new_at
end
end PyI
set_option autoImplicit false
set_option linter.all false
set_option Elab.async false
set_option maxRecDepth 100000
set_option maxHeartbeats 4000000
namespace PyI
local macro_rules | `(tactic| walk_at "wp") => `(tactic| simp only [e_var, e_glb, e_int, e_str, e_bl, e_non, e_bin, e_cmp, e_chain, e_neg, e_and, e_or, e_not, e_ite, e_tup, e_lst, e_dic0, e_sub, e_slice, wo_nil, wo_int, wo_var, wo_bin, wo_neg, wo_blt, wo_call, wo_sub, e_lrg, e_lng, e_rev, e_call, e_blt, e_meth, e_comp, e_fld, e_newc, e_mcl, e_lenc, e_orv, e_selc, a_nil, a_cons,
  s_pass, s_seq, s_nm, s_tp, s_par, s_aug, s_setsub, s_augsub, s_ex, s_ret, s_retn, s_ite, s_whl, s_for, s_brk, s_cnt, s_rse, s_tri, s_setfld,
  b_add, b_adds, b_addr, b_addt, b_sub, b_mul, b_mulr, b_muls, b_mult, b_div, b_mod, b_pow, c_eq, c_eqs, c_eqr, c_eqt, c_eqn, c_ne, c_nes, c_ner, c_net, c_nen, c_lt, c_le, c_gt, c_ge, c_ltt, c_let, c_gtt, c_get, c_lts, c_les, c_gts, c_ges, c_isbb, c_isnn, c_isbn, c_isin, c_issn, c_istn, c_isrn, c_nsbb, c_nsnn, c_nsbn, c_nsin, c_nssn, c_nstn, c_nsrn,
  c_int, c_ins, c_inr, c_nit, c_nis, c_nir, n_int, i_tup, i_str, i_ref, i_dic, k_str, k_tup, k_ref, v_ref, v_tup, l_minD, l_maxD, l_min, l_max, z_vals, z_keys, z_enmt, z_zip3, l_lens, l_lent, l_lenr, l_str, l_int, l_dictP, l_isSeq_t, l_isSeq_r, l_isTup_r, l_isTup_i, l_tuplet, l_tupler, l_listt, l_listr, l_sum, l_all, l_any, l_isInt_i, l_isBool_i, l_isStr_s, l_isTup_t,
  m_starts, m_ins, m_split, m_part, m_popAt, y_popAt, y_ins, y_starts, y_split, y_part, m_app, m_ext, m_pop, m_join, m_alpha, m_sidx, m_get, m_setd, y_app, y_ext, y_pop, y_get, y_setd, y_str, y_alpha, y_sidx, t_bl, o_int, z_tup, z_ref, z_str, z_rng1, z_rng2, z_rng3, z_enm, z_zipt, z_zipr, w_ri, w_rs,
  at_0, at_1, at_2, at_3, gv_0, gv_s, sa_0, sa_s, st_nm, st_tp, wi_0, wi_s, st_0, st_s, st_n, wpB, List.set_cons_zero, List.set_cons_succ, Option.some.injEq, exists_eq_left', true_and, Bool.not_true, Bool.not_false, if_true, if_false, Bool.false_eq_true, exists_const, PV.ref.injEq, PV.str.injEq, PV.int.injEq, List.length_cons, List.length_nil])
/-! ### lists compared -/
theorem nats_eqvAll : ∀ l k : List Nat, Dt.eqvAll (l.map fun n => Dt.int ((n : Nat) : Int)) (k.map fun n => Dt.int ((n : Nat) : Int)) = decide (l = k)
  | [], [] => by simp [Dt.eqvAll]
  | [], y :: k => by simp [Dt.eqvAll]
  | x :: l, [] => by simp [Dt.eqvAll]
  | x :: l, y :: k => by
    rw [List.map_cons, List.map_cons]
    show ((((x : Nat) : Int) == ((y : Nat) : Int)) && Dt.eqvAll _ _) = _
    rw [nats_eqvAll l k]
    by_cases h : x = y
    · subst h
      simp
    · have : ¬ ((x : Nat) : Int) = ((y : Nat) : Int) := by omega
      simp [h, this]
theorem natl_eqv (l k : List Nat) : (Dt.lst (l.map fun n => Dt.int ((n : Nat) : Int))).eqv (.lst (k.map fun n => Dt.int ((n : Nat) : Int))) = decide (l = k) := nats_eqvAll l k
theorem natl_eq {S : Store} {m n : Nat} {l k : List Nat} {Q : PQ} (h1 : getL S m = some (l.map natV)) (h2 : getL S n = some (k.map natV)) (q : Q (.bl (decide (l = k))) S) : cmpop .eq (.ref m) (.ref n) S Q := by
  refine ⟨_, _, .lst h1 (dn_nats l), .lst h2 (dn_nats k), ?_⟩
  rw [natl_eqv]
  exact q
theorem natl_ne {S : Store} {m n : Nat} {l k : List Nat} {Q : PQ} (h1 : getL S m = some (l.map natV)) (h2 : getL S n = some (k.map natV)) (q : Q (.bl (!decide (l = k))) S) : cmpop .ne (.ref m) (.ref n) S Q := by
  refine ⟨_, _, .lst h1 (dn_nats l), .lst h2 (dn_nats k), ?_⟩
  rw [natl_eqv]
  exact q
theorem dates_eqvAll : ∀ l k : List Date, Dt.eqvAll (l.map dD) (k.map dD) = decide (l = k)
  | [], [] => by simp [Dt.eqvAll]
  | [], y :: k => by simp [Dt.eqvAll]
  | x :: l, [] => by simp [Dt.eqvAll]
  | x :: l, y :: k => by
    rw [List.map_cons, List.map_cons]
    show ((dD x).eqv (dD y) && Dt.eqvAll _ _) = _
    rw [dates_eqvAll l k, eqv_dD]
    by_cases h : x = y
    · subst h
      simp
    · simp [h]
theorem datl_eqv (l k : List Date) : (Dt.lst (l.map dD)).eqv (.lst (k.map dD)) = decide (l = k) := dates_eqvAll l k
theorem datl_eq {S : Store} {m n : Nat} {l k : List Date} {Q : PQ} (h1 : getL S m = some (l.map dV)) (h2 : getL S n = some (k.map dV)) (q : Q (.bl (decide (l = k))) S) : cmpop .eq (.ref m) (.ref n) S Q := by
  refine ⟨_, _, dn_datesR h1, dn_datesR h2, ?_⟩
  rw [datl_eqv]
  exact q
theorem datl_ne {S : Store} {m n : Nat} {l k : List Date} {Q : PQ} (h1 : getL S m = some (l.map dV)) (h2 : getL S n = some (k.map dV)) (q : Q (.bl (!decide (l = k))) S) : cmpop .ne (.ref m) (.ref n) S Q := by
  refine ⟨_, _, dn_datesR h1, dn_datesR h2, ?_⟩
  rw [datl_eqv]
  exact q
theorem strs_eqvAll : ∀ l k : List Txt, Dt.eqvAll (l.map Dt.str) (k.map Dt.str) = decide (l = k)
  | [], [] => by simp [Dt.eqvAll]
  | [], y :: k => by simp [Dt.eqvAll]
  | x :: l, [] => by simp [Dt.eqvAll]
  | x :: l, y :: k => by
    rw [List.map_cons, List.map_cons]
    show ((x == y) && Dt.eqvAll _ _) = _
    rw [strs_eqvAll l k]
    by_cases h : x = y
    · subst h
      simp
    · simp [h]
theorem txl_eqv (l k : List Txt) : (Dt.lst (l.map Dt.str)).eqv (.lst (k.map Dt.str)) = decide (l = k) := strs_eqvAll l k
theorem txl_eq {S : Store} {m n : Nat} {l k : List Txt} {Q : PQ} (h1 : getL S m = some (l.map PV.str)) (h2 : getL S n = some (k.map PV.str)) (t1 : ∀ t ∈ l, txtOk t) (t2 : ∀ t ∈ k, txtOk t) (q : Q (.bl (decide (l = k))) S) : cmpop .eq (.ref m) (.ref n) S Q := by
  refine ⟨_, _, .lst h1 (dn_strs l t1), .lst h2 (dn_strs k t2), ?_⟩
  rw [txl_eqv]
  exact q
theorem txl_ne {S : Store} {m n : Nat} {l k : List Txt} {Q : PQ} (h1 : getL S m = some (l.map PV.str)) (h2 : getL S n = some (k.map PV.str)) (t1 : ∀ t ∈ l, txtOk t) (t2 : ∀ t ∈ k, txtOk t) (q : Q (.bl (!decide (l = k))) S) : cmpop .ne (.ref m) (.ref n) S Q := by
  refine ⟨_, _, .lst h1 (dn_strs l t1), .lst h2 (dn_strs k t2), ?_⟩
  rw [txl_eqv]
  exact q
theorem d_lt {x y : Date} {S : Store} {Q : PQ} (hx : isDate x) (hy : isDate y) (q : Q (.bl (decide (dcode x < dcode y))) S) : cmpop .lt (dV x) (dV y) S Q := by
  refine ⟨dD x, dD y, dn_date x, dn_date y, alike_dD x y, by unfold dD; simp, ?_⟩
  show Q (.bl (ltDt (dD x) (dD y))) S
  rw [lt_dD hx hy]
  exact q
theorem ext_onl {S0 S S' : Store} {w : Nat} (a : Ext S0 S) (b : Onl w S S') (h : S0.length ≤ w) : Ext S0 S' := fun n o ho => b.2 n o (by have := (List.getElem?_eq_some_iff.mp ho).1; omega) (a n o ho)
/-! ### texts of dates are texts -/
theorem num_ok (n : Nat) (h : n < 2400) : ∀ c ∈ numT n, c < 128 := by
  have : ∀ k : Fin 2400, (numT k.1).all (fun c => decide (c < 128)) = true := by decide +kernel
  intro c hc
  have := List.all_eq_true.mp (this ⟨n, h⟩) c hc
  simpa using this
theorem piece_ok (p : Txt) (d : Date) (hd : isDate d) (hp : okPart p) : ∀ c ∈ pieceT p d, c < 128 := by
  have hl : ∀ q ∈ sepT ++ moNames ++ wdNames, ∀ c ∈ q, c < 128 := by decide +kernel
  unfold pieceT
  split
  · rename_i hf
    rcases hp with hp | hp
    · rw [show isFld p = true from decide_eq_true hp] at hf; cases hf
    · exact hl p (by simp [hp])
  · split
    · exact hl _ (List.mem_append_left _ (List.mem_append_right _ (mo_mem d hd)))
    · split
      · exact hl _ (List.mem_append_right _ (wd_mem d))
      · have hv := valN_bd p d hd
        have hc := num_ok (valN p d).toNat (by omega)
        unfold padT
        intro c hc'
        rcases List.mem_append.mp hc' with h | h
        · rw [(List.mem_replicate.mp h).2]; decide
        · exact hc c h
theorem wr_ok (ps : List Txt) (d : Date) (hd : isDate d) (hp : ∀ p ∈ ps, okPart p) : txtOk (writtenT ps d) := by
  intro c hc
  obtain ⟨l, h1, h2⟩ := List.mem_flatten.mp hc
  obtain ⟨p, h3, rfl⟩ := List.mem_map.mp h1
  exact Nat.lt_trans (piece_ok p d hd (hp p h3) c h2) (by decide)
/-! ### readers, further -/
theorem onlyL_cons (d : Date) (r : List Date) : onlyL (d :: r) = if (r.all fun q => decide (q = d)) = true then some d else none := rfl
theorem tw_hard {S : Store} {sc tw : Nat} (t : TW S sc tw) (o : PO) (h : S[tw]? = some o) : hardO o = false := by
  obtain ⟨_, _, p, q, _, _, g⟩ := t
  rw [g] at h
  cases h
  rfl
theorem fits_nil (pss : List (List Txt)) (ds : List Date) : fitsT pss ds [] = List.range pss.length := by
  unfold fitsT
  simp
theorem fits_snoc (pss : List (List Txt)) (ds : List Date) (ts : List Txt) (t : Txt) : fitsT pss ds (ts ++ [t]) = (fitsT pss ds ts).filter fun i => hasT (patAt pss i) ds t := by
  unfold fitsT
  rw [List.filter_filter]
  refine List.filter_congr fun i _ => ?_
  rw [List.all_append]
  simp [Bool.and_comm]
theorem l_isStr_n (S : Store) (Q : PQ) : bltop .isStr [.non] S Q = (True ∧ Q (.bl false) S) := rfl
/-- the text is not one: need_text's refusal -/
def ct_need_textR : Ct := fun vs S Q R => (∃ t : Txt, vs = [.str t] ∧ Q .non S) ∨ (vs = [.non] ∧ R 4 S)
end PyI
set_option autoImplicit false
set_option linter.all false
set_option Elab.async false
set_option maxRecDepth 100000
set_option maxHeartbeats 4000000
namespace PyI
local macro_rules | `(tactic| walk_at "wp") => `(tactic| simp only [e_var, e_glb, e_int, e_str, e_bl, e_non, e_bin, e_cmp, e_chain, e_neg, e_and, e_or, e_not, e_ite, e_tup, e_lst, e_dic0, e_sub, e_slice, wo_nil, wo_int, wo_var, wo_bin, wo_neg, wo_blt, wo_call, wo_sub, e_lrg, e_lng, e_rev, e_call, e_blt, e_meth, e_comp, e_fld, e_newc, e_mcl, e_lenc, e_orv, e_selc, a_nil, a_cons,
  s_pass, s_seq, s_nm, s_tp, s_par, s_aug, s_setsub, s_augsub, s_ex, s_ret, s_retn, s_ite, s_whl, s_for, s_brk, s_cnt, s_rse, s_tri, s_setfld,
  b_add, b_adds, b_addr, b_addt, b_sub, b_mul, b_mulr, b_muls, b_mult, b_div, b_mod, b_pow, c_eq, c_eqs, c_eqr, c_eqt, c_eqn, c_ne, c_nes, c_ner, c_net, c_nen, c_lt, c_le, c_gt, c_ge, c_ltt, c_let, c_gtt, c_get, c_lts, c_les, c_gts, c_ges, c_isbb, c_isnn, c_isbn, c_isin, c_issn, c_istn, c_isrn, c_nsbb, c_nsnn, c_nsbn, c_nsin, c_nssn, c_nstn, c_nsrn,
  c_int, c_ins, c_inr, c_nit, c_nis, c_nir, n_int, i_tup, i_str, i_ref, i_dic, k_str, k_tup, k_ref, v_ref, v_tup, l_minD, l_maxD, l_min, l_max, z_vals, z_keys, z_enmt, z_zip3, l_lens, l_lent, l_lenr, l_str, l_int, l_dictP, l_isSeq_t, l_isSeq_r, l_isTup_r, l_isTup_i, l_tuplet, l_tupler, l_listt, l_listr, l_sum, l_all, l_any, l_isInt_i, l_isBool_i, l_isStr_s, l_isTup_t,
  m_starts, m_ins, m_split, m_part, m_popAt, y_popAt, y_ins, y_starts, y_split, y_part, m_app, m_ext, m_pop, m_join, m_alpha, m_sidx, m_get, m_setd, y_app, y_ext, y_pop, y_get, y_setd, y_str, y_alpha, y_sidx, t_bl, o_int, z_tup, z_ref, z_str, z_rng1, z_rng2, z_rng3, z_enm, z_zipt, z_zipr, w_ri, w_rs,
  at_0, at_1, at_2, at_3, gv_0, gv_s, sa_0, sa_s, st_nm, st_tp, wi_0, wi_s, st_0, st_s, st_n, wpB, List.set_cons_zero, List.set_cons_succ, Option.some.injEq, exists_eq_left', true_and, Bool.not_true, Bool.not_false, if_true, if_false, Bool.false_eq_true, exists_const, PV.ref.injEq, PV.str.injEq, PV.int.injEq, List.length_cons, List.length_nil])
/-! ### the greedy reader, raising -/
def ct_greedy : Ct := fun vs S Q R => ∃ (ps : List Txt) (t : Txt), vs = [strV ps, .str t] ∧ goodPat ps ∧ t.length ≤ 100000 ∧
  (greedyT ps t = none → ∀ S', Ext S S' → R 5 S') ∧ ∀ l, greedyT ps t = some l → ∀ S' n, Ext S S' → S.length ≤ n → S'[n]? = some (.lst (l.map gv)) → Q (.ref n) S'
section
variable {Γ : Sig} (C : Hlp Γ)
include C
theorem p_greedy (h32 : Γ.ct 32 = ct_greedy_result) : ∀ vs S Q R, ct_greedy vs S Q R → wpB Γ 3 b_greedy vs S Q R := by
  rintro vs S Q R ⟨ps, t, rfl, hp, ht, qn, qs⟩
  unfold b_greedy
  walk_at "wp"
  rw [C.need_pattern]
  refine ⟨ps, rfl, hp, fun S1 e1 => ?_⟩
  walk_at "wp"
  rw [C.need_text]
  refine ⟨t, rfl, ?_⟩
  walk_at "wp"
  rw [h32]
  refine ⟨ps, t, rfl, hp, ht, fun hg S2 e2 => ?_, fun l hg S2 n e2 hn g2 => ?_⟩
  · walk_at "wp"
    exact qn hg S2 (e1.trans e2)
  · walk_at "wp"
    exact qs l hg S2 n (e1.trans e2) (Nat.le_trans e1.len hn) g2
end
end PyI
set_option autoImplicit false
set_option linter.all false
set_option Elab.async false
set_option maxRecDepth 100000
set_option maxHeartbeats 4000000
namespace PyI
local macro_rules | `(tactic| walk_at "wp") => `(tactic| simp only [e_var, e_glb, e_int, e_str, e_bl, e_non, e_bin, e_cmp, e_chain, e_neg, e_and, e_or, e_not, e_ite, e_tup, e_lst, e_dic0, e_sub, e_slice, wo_nil, wo_int, wo_var, wo_bin, wo_neg, wo_blt, wo_call, wo_sub, e_lrg, e_lng, e_rev, e_call, e_blt, e_meth, e_comp, e_fld, e_newc, e_mcl, e_lenc, e_orv, e_selc, a_nil, a_cons,
  s_pass, s_seq, s_nm, s_tp, s_par, s_aug, s_setsub, s_augsub, s_ex, s_ret, s_retn, s_ite, s_whl, s_for, s_brk, s_cnt, s_rse, s_tri, s_setfld,
  b_add, b_adds, b_addr, b_addt, b_sub, b_mul, b_mulr, b_muls, b_mult, b_div, b_mod, b_pow, c_eq, c_eqs, c_eqr, c_eqt, c_eqn, c_ne, c_nes, c_ner, c_net, c_nen, c_lt, c_le, c_gt, c_ge, c_ltt, c_let, c_gtt, c_get, c_lts, c_les, c_gts, c_ges, c_isbb, c_isnn, c_isbn, c_isin, c_issn, c_istn, c_isrn, c_nsbb, c_nsnn, c_nsbn, c_nsin, c_nssn, c_nstn, c_nsrn,
  c_int, c_ins, c_inr, c_nit, c_nis, c_nir, n_int, i_tup, i_str, i_ref, i_dic, k_str, k_tup, k_ref, v_ref, v_tup, l_minD, l_maxD, l_min, l_max, z_vals, z_keys, z_enmt, z_zip3, l_lens, l_lent, l_lenr, l_str, l_int, l_dictP, l_isSeq_t, l_isSeq_r, l_isTup_r, l_isTup_i, l_tuplet, l_tupler, l_listt, l_listr, l_sum, l_all, l_any, l_isInt_i, l_isBool_i, l_isStr_s, l_isTup_t,
  m_starts, m_ins, m_split, m_part, m_popAt, y_popAt, y_ins, y_starts, y_split, y_part, m_app, m_ext, m_pop, m_join, m_alpha, m_sidx, m_get, m_setd, y_app, y_ext, y_pop, y_get, y_setd, y_str, y_alpha, y_sidx, t_bl, o_int, z_tup, z_ref, z_str, z_rng1, z_rng2, z_rng3, z_enm, z_zipt, z_zipr, w_ri, w_rs,
  at_0, at_1, at_2, at_3, gv_0, gv_s, sa_0, sa_s, st_nm, st_tp, wi_0, wi_s, st_0, st_s, st_n, wpB, List.set_cons_zero, List.set_cons_succ, Option.some.injEq, exists_eq_left', true_and, Bool.not_true, Bool.not_false, if_true, if_false, Bool.false_eq_true, exists_const, PV.ref.injEq, PV.str.injEq, PV.int.injEq, List.length_cons, List.length_nil])
/-! ### one year's dates are those of another -/
def repY (y : Int) : Int := if isLong y then 2000 else 2001
def onY (y : Int) (d : Date) : Date := (y, d.2)
theorem rep_mem (y : Int) : repY y ∈ ([2000, 2001] : List Int) := by
  unfold repY
  split <;> simp
theorem long_rep (y : Int) : isLong (repY y) = isLong y := by
  unfold repY
  split
  · rename_i h; rw [h]; decide
  · rename_i h; rw [Bool.not_eq_true] at h; rw [h]; decide
theorem mlen_long {y z : Int} (h : isLong y = isLong z) (m : Int) : mlen y m = mlen z m := by unfold mlen; rw [h]
theorem dates_onY {y z : Int} (h : isLong y = isLong z) : datesIn y y = (datesIn z z).map (onY y) := by
  rw [datesIn_one, datesIn_one]
  unfold datesY
  rw [List.map_flatMap]
  congr 1
  funext m
  rw [mlen_long h, List.map_map]
  rfl
theorem dates_year {y : Int} {d : Date} (h : d ∈ datesIn y y) : d.1 = y := by
  rw [datesIn_one] at h
  unfold datesY at h
  obtain ⟨m, _, h⟩ := List.mem_flatMap.mp h
  obtain ⟨k, _, rfl⟩ := List.mem_map.mp h
  rfl
theorem dates_rep (y : Int) : datesIn y y = (datesIn (repY y) (repY y)).map (onY y) := dates_onY (long_rep y).symm
theorem piy_onY {y : Int} {d : Date} (h : isLong y = isLong d.1) : piy (onY y d) = piy d := by
  unfold piy onY
  simp only
  congr 2
  apply List.map_congr_left
  intro m _
  exact mlen_long h m
/-- parts that do not ask for the year -/
def yearless (p : Txt) : Prop := p ≠ [89, 89] ∧ p ≠ [89, 89, 89, 89] ∧ p ≠ [87, 68]
theorem valN_onY {p : Txt} {y : Int} {d : Date} (h : isLong y = isLong d.1) (hf : isFld p = true) (hp : yearless p) (hm : p ≠ [77, 79, 78]) : valN p (onY y d) = valN p d := by
  have hm2 : p ∈ fieldT := of_decide_eq_true hf
  simp only [fieldT, List.mem_cons, List.not_mem_nil, or_false] at hm2
  unfold valN
  rw [piy_onY h]
  rcases hm2 with rfl | rfl | rfl | rfl | rfl | rfl | rfl | rfl | rfl | rfl
  all_goals first | rfl | exact absurd rfl hp.1 | exact absurd rfl hp.2.1 | exact absurd rfl hp.2.2 | exact absurd rfl hm
theorem piece_onY {p : Txt} {y : Int} {d : Date} (h : isLong y = isLong d.1) (hp : yearless p) : pieceT p (onY y d) = pieceT p d := by
  unfold pieceT
  cases hf : isFld p with
  | false => rfl
  | true =>
    by_cases hm : p = [77, 79, 78]
    · simp only [hm, if_true]; rfl
    · simp only [hm, hp.2.2, if_false, valN_onY h hf hp hm]
theorem wr_onY {ps : List Txt} {y : Int} {d : Date} (h : isLong y = isLong d.1) (hp : ∀ p ∈ ps, yearless p) : writtenT ps (onY y d) = writtenT ps d := by
  unfold writtenT
  congr 1
  apply List.map_congr_left
  intro p hm
  exact piece_onY h (hp p hm)
theorem rep_long {y : Int} {d : Date} (h : d ∈ datesIn (repY y) (repY y)) : isLong y = isLong d.1 := by rw [dates_year h, long_rep]
theorem onY_inj {y z : Int} {d e : Date} (h1 : d.1 = z) (h2 : e.1 = z) (h : onY y d = onY y e) : d = e := by
  obtain ⟨a, b⟩ := d
  obtain ⟨a', b'⟩ := e
  simp only at h1 h2
  unfold onY at h
  simp only [Prod.mk.injEq, true_and] at h
  rw [h1, h2, h]
/-! ### what is told of dates, told of others -/
def prM (f : Date → Date) (p : Date × Date) : Date × Date := (f p.1, f p.2)
theorem find_rel {α : Type} {p q : α → Bool} {l : List α} (h : ∀ x ∈ l, p x = q x) : l.find? p = l.find? q := by
  induction l with
  | nil => rfl
  | cons x r ih =>
    rw [List.find?_cons, List.find?_cons, h x List.mem_cons_self, ih fun z hz => h z (List.mem_cons_of_mem _ hz)]
theorem clashG_rel {w v : Date → Txt} {f : Date → Date} : ∀ (l pre : List Date), (∀ x ∈ pre ++ l, ∀ z ∈ pre ++ l, (w (f x) = w (f z) ↔ v x = v z)) → clashG w (pre.map f) (l.map f) = (clashG v pre l).map (prM f)
  | [], _, _ => rfl
  | d :: r, pre, h => by
    rw [List.map_cons, clashG, clashG, List.find?_map]
    have : pre.find? ((fun x => decide (w x = w (f d))) ∘ f) = pre.find? fun x => decide (v x = v d) := find_rel fun x hx => by
      show decide (w (f x) = w (f d)) = decide (v x = v d)
      rw [decide_eq_decide]
      exact h x (List.mem_append_left _ hx) d (List.mem_append_right _ List.mem_cons_self)
    rw [this]
    cases hf : pre.find? fun x => decide (v x = v d) with
    | some x => rfl
    | none =>
      show clashG w (pre.map f ++ [f d]) (r.map f) = _
      rw [← clashG_rel r (pre ++ [d]) (by rw [List.append_assoc]; exact h), List.map_append]
      rfl
theorem clashT_rel {w v : Date → Txt} {f : Date → Date} {l : List Date} (h : ∀ x ∈ l, ∀ z ∈ l, (w (f x) = w (f z) ↔ v x = v z)) : clashT w (l.map f) = (clashT v l).map (prM f) := clashG_rel l [] h
theorem unsT_rel {w v : Date → Txt} {f : Date → Date} : ∀ l : List Date, (∀ x ∈ l, ∀ z ∈ l, (w (f x) < w (f z) ↔ v x < v z)) → unsT w (l.map f) = (unsT v l).map f
  | [], _ => rfl
  | [_], _ => rfl
  | x :: y :: r, h => by
    have ih := unsT_rel (y :: r) fun a ha b hb => h a (List.mem_cons_of_mem _ ha) b (List.mem_cons_of_mem _ hb)
    rw [List.map_cons, List.map_cons, unsT_cons, unsT_cons]
    rw [List.map_cons] at ih
    have h1 := h x List.mem_cons_self y (List.mem_cons_of_mem _ List.mem_cons_self)
    by_cases hlt : v x < v y
    · rw [if_pos hlt, if_pos (h1.mpr hlt)]; exact ih
    · rw [if_neg hlt, if_neg (fun z => hlt (h1.mp z))]; rfl
theorem filter_relM {f : Date → Date} {p q : Date → Bool} {l : List Date} (h : ∀ x ∈ l, p (f x) = q x) : (l.map f).filter p = (l.filter q).map f := by
  rw [List.filter_map]
  congr 1
  exact List.filter_congr fun x hx => h x hx
theorem readT_rel {ps : List Txt} {t : Txt} {v : Date → Txt} {s : Txt} {f : Date → Date} {l : List Date} (h : ∀ x ∈ l, (writtenT ps (f x) = t ↔ v x = s)) : readT ps (l.map f) t = (l.filter fun x => decide (v x = s)).map f :=
  filter_relM fun x hx => by rw [decide_eq_decide]; exact h x hx
theorem findSome_rel {α β γ : Type} {f : α → α} {p : α → Option β} {q : α → Option γ} {g : γ → β} {l : List α} (h : ∀ x ∈ l, p (f x) = (q x).map g) : (l.map f).findSome? p = (l.findSome? q).map g := by
  induction l with
  | nil => rfl
  | cons x r ih =>
    rw [List.map_cons, List.findSome?_cons, List.findSome?_cons, h x List.mem_cons_self]
    cases q x with
    | some y => rfl
    | none => exact ih fun z hz => h z (List.mem_cons_of_mem _ hz)
theorem confT_rel {ps qs ps' qs' : List Txt} {f : Date → Date} {l : List Date} (h : ∀ x ∈ l, ∀ z ∈ l, (writtenT qs (f x) = writtenT ps (f z) ↔ writtenT qs' x = writtenT ps' z)) (hi : ∀ x ∈ l, ∀ z ∈ l, f x = f z → x = z) : confT ps qs (l.map f) = (confT ps' qs' l).map (prM f) := by
  unfold confT
  refine findSome_rel fun d hd => ?_
  have e : othT qs (writtenT ps (f d)) (f d) (l.map f) = (othT qs' (writtenT ps' d) d l).map f := by
    unfold othT
    rw [filter_relM (q := fun x => decide (writtenT qs' x = writtenT ps' d)) (fun x hx => by rw [decide_eq_decide]; exact h x hx d hd)]
    refine filter_relM fun x hx => ?_
    have hx := (List.mem_filter.mp hx).1
    congr 1
    rw [decide_eq_decide]
    exact ⟨fun z => hi x hx d hd z, fun z => by rw [z]⟩
  rw [e, List.head?_map, Option.map_map, Option.map_map]
  rfl
theorem hasT_rel {ps : List Txt} {t : Txt} {v : Date → Txt} {s : Txt} {f : Date → Date} {l : List Date} (h : ∀ x ∈ l, (writtenT ps (f x) = t ↔ v x = s)) : hasT ps (l.map f) t = decide (s ∈ l.map v) := by
  unfold hasT
  rw [decide_eq_decide, List.map_map]
  constructor
  · intro hm
    obtain ⟨x, hx, e⟩ := List.mem_map.mp hm
    exact List.mem_map.mpr ⟨x, hx, (h x hx).mp e⟩
  · intro hm
    obtain ⟨x, hx, e⟩ := List.mem_map.mp hm
    exact List.mem_map.mpr ⟨x, hx, (h x hx).mpr e⟩
theorem patAt_two (p q : List Txt) : patAt [p, q] 0 = p ∧ patAt [p, q] 1 = q := ⟨rfl, rfl⟩
theorem tellT_rel {p q p' q' : List Txt} {f : Date → Date} {l : List Date} (h1 : ∀ x ∈ l, ∀ z ∈ l, (writtenT q (f x) = writtenT p (f z) ↔ writtenT q' x = writtenT p' z)) : tellT [p, q] (l.map f) = (tellT [p', q'] l).map f := by
  unfold tellT
  rw [List.find?_map]
  congr 1
  refine find_rel fun d hd => ?_
  have e1 : hasT q (l.map f) (writtenT p (f d)) = hasT q' l (writtenT p' d) := hasT_rel fun x hx => h1 x hx d hd
  have e2 : hasT p (l.map f) (writtenT q (f d)) = hasT p' l (writtenT q' d) := hasT_rel fun x hx => by
    constructor
    · intro z; exact ((h1 d hd x hx).mp z.symm).symm
    · intro z; exact ((h1 d hd x hx).mpr z.symm).symm
  have key : ∀ (a b : List Txt) (ds : List Date) (e : Date), tellB [a, b] ds e = (!hasT b ds (writtenT a e) && !hasT a ds (writtenT b e)) := by
    intro a b ds e
    unfold tellB
    have hr : List.range ([a, b] : List (List Txt)).length = [0, 1] := rfl
    rw [hr]
    simp [patAt_two]
  show tellB [p, q] (l.map f) (f d) = tellB [p', q'] l d
  rw [key, key, e1, e2]
/-! ### no clash, by reading the text -/
theorem clash_dec {w : Date → Txt} {ds : List Date} {y : Int} (dec : Txt → Int × Int) (hy : ∀ d ∈ ds, d.1 = y) (h : (ds.all fun d => decide (dec (w d) = d.2)) = true) : clashT w ds = none ↔ ds.Nodup := by
  rw [clash_none_iff]
  have hd : ∀ d ∈ ds, dec (w d) = d.2 := fun d hm => by simpa using List.all_eq_true.mp h d hm
  constructor
  · intro hn
    exact List.Pairwise.of_map w (fun _ _ hne e => hne (congrArg w e)) hn
  · intro hn
    refine map_nodup hn fun x hx z hz hne e => hne ?_
    have h1 := hd x hx
    rw [← e, hd z hz] at h1
    exact Prod.ext ((hy z hz).trans (hy x hx).symm) h1
theorem dates_nodup {a b : Int} (h : isSpan a b) : (datesIn a b).Nodup := nodup_of_sorted (datesIn_sorted h)
theorem clash_no {w : Date → Txt} {y : Int} (hs : isSpan y y) (dec : Txt → Int × Int) (h : ((datesIn y y).all fun d => decide (dec (w d) = d.2)) = true) : clashT w (datesIn y y) = none :=
  (clash_dec dec (fun _ h => dates_year h) h).mpr (dates_nodup hs)
/-- the first clash, by its place -/
theorem clash_at {w : Date → Txt} {y : Int} (hs : isSpan y y) {i : Nat} {x z : Date} (dec : Txt → Int × Int) (h : (((datesIn y y).take i).all fun d => decide (dec (w d) = d.2)) = true) (hz : (datesIn y y)[i]? = some z) (hx : ((datesIn y y).take i).find? (fun d => decide (w d = w z)) = some x) : clashT w (datesIn y y) = some (x, z) := by
  have h1 : clashT w ((datesIn y y).take i) = none := (clash_dec dec (fun _ hm => dates_year (List.mem_of_mem_take hm)) h).mpr ((dates_nodup hs).sublist (List.take_sublist _ _))
  have hi := (List.getElem?_eq_some_iff.mp hz).1
  have e : datesIn y y = (datesIn y y).take i ++ z :: (datesIn y y).drop (i + 1) := by
    rw [← (List.getElem?_eq_some_iff.mp hz).2, ← List.drop_eq_getElem_cons hi, List.take_append_drop]
  rw [e]
  unfold clashT at h1 ⊢
  rw [clashG_app, h1]
  show clashG w ([] ++ (datesIn y y).take i) (z :: _) = _
  rw [List.nil_append, clashG, hx]
theorem span_one {y : Int} (h : 1600 ≤ y ∧ y ≤ 2399) : isSpan y y := by unfold isSpan; omega
theorem rep_span {r : Int} (h : r ∈ ([2000, 2001] : List Int)) : isSpan r r := by
  simp only [List.mem_cons, List.not_mem_nil, or_false] at h
  rcases h with rfl | rfl <;> (unfold isSpan; omega)
/-! ### texts that share a beginning or an end -/
theorem lt_left (s a b : Txt) : s ++ a < s ++ b ↔ a < b := by
  induction s with
  | nil => exact Iff.rfl
  | cons x s ih =>
    rw [List.cons_append, List.cons_append, List.cons_lt_cons_iff]
    constructor
    · rintro (h | ⟨_, h⟩)
      · exact absurd h (Nat.lt_irrefl _)
      · exact ih.mp h
    · intro h
      exact .inr ⟨rfl, ih.mpr h⟩
theorem lt_head {a b : Nat} (h : a < b) (x y : Txt) : a :: x < b :: y := List.cons_lt_cons_iff.mpr (.inl h)
theorem lt_tail {a : Nat} {x y : Txt} (h : x < y) : a :: x < a :: y := List.cons_lt_cons_iff.mpr (.inr ⟨rfl, h⟩)
theorem nlt_head {a b : Nat} (h : b < a) (x y : Txt) : ¬ a :: x < b :: y := fun z => by
  rcases List.cons_lt_cons_iff.mp z with z | ⟨z, _⟩
  · omega
  · omega
theorem nlt_tail {a : Nat} {x y : Txt} (h : ¬ x < y) : ¬ a :: x < a :: y := fun z => by
  rcases List.cons_lt_cons_iff.mp z with z | ⟨_, z⟩
  · omega
  · exact h z
end PyI
set_option autoImplicit false
set_option linter.all false
set_option Elab.async false
set_option maxRecDepth 100000
set_option maxHeartbeats 4000000
namespace PyI
local macro_rules | `(tactic| walk_at "wp") => `(tactic| simp only [e_var, e_glb, e_int, e_str, e_bl, e_non, e_bin, e_cmp, e_chain, e_neg, e_and, e_or, e_not, e_ite, e_tup, e_lst, e_dic0, e_sub, e_slice, wo_nil, wo_int, wo_var, wo_bin, wo_neg, wo_blt, wo_call, wo_sub, e_lrg, e_lng, e_rev, e_call, e_blt, e_meth, e_comp, e_fld, e_newc, e_mcl, e_lenc, e_orv, e_selc, a_nil, a_cons,
  s_pass, s_seq, s_nm, s_tp, s_par, s_aug, s_setsub, s_augsub, s_ex, s_ret, s_retn, s_ite, s_whl, s_for, s_brk, s_cnt, s_rse, s_tri, s_setfld,
  b_add, b_adds, b_addr, b_addt, b_sub, b_mul, b_mulr, b_muls, b_mult, b_div, b_mod, b_pow, c_eq, c_eqs, c_eqr, c_eqt, c_eqn, c_ne, c_nes, c_ner, c_net, c_nen, c_lt, c_le, c_gt, c_ge, c_ltt, c_let, c_gtt, c_get, c_lts, c_les, c_gts, c_ges, c_isbb, c_isnn, c_isbn, c_isin, c_issn, c_istn, c_isrn, c_nsbb, c_nsnn, c_nsbn, c_nsin, c_nssn, c_nstn, c_nsrn,
  c_int, c_ins, c_inr, c_nit, c_nis, c_nir, n_int, i_tup, i_str, i_ref, i_dic, k_str, k_tup, k_ref, v_ref, v_tup, l_minD, l_maxD, l_min, l_max, z_vals, z_keys, z_enmt, z_zip3, l_lens, l_lent, l_lenr, l_str, l_int, l_dictP, l_isSeq_t, l_isSeq_r, l_isTup_r, l_isTup_i, l_tuplet, l_tupler, l_listt, l_listr, l_sum, l_all, l_any, l_isInt_i, l_isBool_i, l_isStr_s, l_isTup_t,
  m_starts, m_ins, m_split, m_part, m_popAt, y_popAt, y_ins, y_starts, y_split, y_part, m_app, m_ext, m_pop, m_join, m_alpha, m_sidx, m_get, m_setd, y_app, y_ext, y_pop, y_get, y_setd, y_str, y_alpha, y_sidx, t_bl, o_int, z_tup, z_ref, z_str, z_rng1, z_rng2, z_rng3, z_enm, z_zipt, z_zipr, w_ri, w_rs,
  at_0, at_1, at_2, at_3, gv_0, gv_s, sa_0, sa_s, st_nm, st_tp, wi_0, wi_s, st_0, st_s, st_n, wpB, List.set_cons_zero, List.set_cons_succ, Option.some.injEq, exists_eq_left', true_and, Bool.not_true, Bool.not_false, if_true, if_false, Bool.false_eq_true, exists_const, PV.ref.injEq, PV.str.injEq, PV.int.injEq, List.length_cons, List.length_nil])
/-! ### what is known of each year -/
theorem pc_D (d : Date) : pieceT [68] d = padT 1 d.2.2.toNat := rfl
theorem pc_M (d : Date) : pieceT [77] d = padT 1 d.2.1.toNat := rfl
theorem pc_DD (d : Date) : pieceT [68, 68] d = padT 2 d.2.2.toNat := rfl
theorem pc_MM (d : Date) : pieceT [77, 77] d = padT 2 d.2.1.toNat := rfl
theorem pc_Y4 (d : Date) : pieceT [89, 89, 89, 89] d = padT 4 d.1.toNat := rfl
theorem pc_Y2 (d : Date) : pieceT [89, 89] d = padT 2 (d.1 % 100).toNat := rfl
theorem pc_J (d : Date) : pieceT [74] d = padT 1 (piy d).toNat := rfl
theorem pc_J3 (d : Date) : pieceT [74, 74, 74] d = padT 3 (piy d).toNat := rfl
theorem pc_lit {p : Txt} (h : isFld p = false) (d : Date) : pieceT p d = p := by unfold pieceT; rw [if_pos h]
theorem wr_cons (p : Txt) (ps : List Txt) (d : Date) : writtenT (p :: ps) d = pieceT p d ++ writtenT ps d := rfl
theorem wr_nil (d : Date) : writtenT [] d = [] := rfl
theorem pad1_inj {a b : Nat} (ha : a < 32) (hb : b < 32) (h : padT 1 a = padT 1 b) : a = b := by
  have : ∀ a < 32, ∀ b < 32, padT 1 a = padT 1 b → a = b := by decide +kernel
  exact this a ha b hb h
theorem pad1_dig {a : Nat} (ha : a < 32) : ∀ x ∈ padT 1 a, digB x = true := by
  have : ∀ a < 32, ∀ x ∈ padT 1 a, digB x = true := by decide +kernel
  exact this a ha
theorem date_small {y : Int} (h : 1600 ≤ y ∧ y ≤ 2399) {d : Date} (hd : d ∈ datesIn y y) : 1 ≤ d.2.1 ∧ d.2.1 ≤ 12 ∧ 1 ≤ d.2.2 ∧ d.2.2 ≤ 31 := by
  have := (datesIn_date (span_one h) hd).1
  unfold isDate mlen at this
  refine ⟨this.2.2.1, this.2.2.2.1, this.2.2.2.2.1, ?_⟩
  have h := this.2.2.2.2.2
  split at h
  · split at h <;> omega
  · split at h <;> omega
/-- a mark of one character that is no field and no digit -/
def markB (c : Nat) : Bool := !isFld [c] && !digB c
def firstP (c : Nat) : List Txt := [[68], [c], [77], [c], [89, 89, 89, 89]]
def secondP (c : Nat) : List Txt := [[77], [c], [68], [c], [89, 89, 89, 89]]
theorem mark_fld {c : Nat} (h : markB c = true) : isFld [c] = false := by
  unfold markB at h
  rw [Bool.and_eq_true, Bool.not_eq_true', Bool.not_eq_true'] at h
  exact h.1
theorem mark_dig {c : Nat} (h : markB c = true) : digB c = false := by
  unfold markB at h
  rw [Bool.and_eq_true, Bool.not_eq_true', Bool.not_eq_true'] at h
  exact h.2
theorem wr_first {c : Nat} (h : markB c = true) (d : Date) : writtenT (firstP c) d = padT 1 d.2.2.toNat ++ c :: (padT 1 d.2.1.toNat ++ c :: padT 4 d.1.toNat) := by
  unfold firstP
  rw [wr_cons, wr_cons, wr_cons, wr_cons, wr_cons, wr_nil, pc_D, pc_M, pc_Y4, pc_lit (mark_fld h), List.append_nil]
  rfl
theorem wr_second {c : Nat} (h : markB c = true) (d : Date) : writtenT (secondP c) d = padT 1 d.2.1.toNat ++ c :: (padT 1 d.2.2.toNat ++ c :: padT 4 d.1.toNat) := by
  unfold secondP
  rw [wr_cons, wr_cons, wr_cons, wr_cons, wr_cons, wr_nil, pc_D, pc_M, pc_Y4, pc_lit (mark_fld h), List.append_nil]
  rfl
theorem two_cut {c a b a' b' : Nat} {r r' : Txt} (h : markB c = true) (ha : a < 32) (hb : b < 32) (ha' : a' < 32) (hb' : b' < 32) (e : padT 1 a ++ c :: (padT 1 b ++ c :: r) = padT 1 a' ++ c :: (padT 1 b' ++ c :: r')) : a = a' ∧ b = b' ∧ r = r' := by
  have nc : ∀ n, n < 32 → ∀ x ∈ padT 1 n, x ≠ c := fun n hn x hx e => by
    have := pad1_dig hn x hx
    rw [e, mark_dig h] at this
    cases this
  obtain ⟨e1, e2⟩ := cut_inj (nc a ha) (nc a' ha') e
  obtain ⟨e3, e4⟩ := cut_inj (nc b hb) (nc b' hb') e2
  exact ⟨pad1_inj ha ha' e1, pad1_inj hb hb' e3, e4⟩
section
variable {y : Int} (hy : 1600 ≤ y ∧ y ≤ 2399) {c : Nat} (hc : markB c = true)
include hy hc
theorem first_eq {x z : Date} (hx : x ∈ datesIn y y) (hz : z ∈ datesIn y y) : writtenT (firstP c) x = writtenT (firstP c) z ↔ x = z := by
  refine ⟨fun e => ?_, fun e => by rw [e]⟩
  rw [wr_first hc, wr_first hc] at e
  have h1 := date_small hy hx
  have h2 := date_small hy hz
  obtain ⟨a, b, _⟩ := two_cut hc (by omega) (by omega) (by omega) (by omega) e
  exact Prod.ext ((dates_year hx).trans (dates_year hz).symm) (Prod.ext (by omega) (by omega))
theorem second_eq {x z : Date} (hx : x ∈ datesIn y y) (hz : z ∈ datesIn y y) : writtenT (secondP c) x = writtenT (secondP c) z ↔ x = z := by
  refine ⟨fun e => ?_, fun e => by rw [e]⟩
  rw [wr_second hc, wr_second hc] at e
  have h1 := date_small hy hx
  have h2 := date_small hy hz
  obtain ⟨a, b, _⟩ := two_cut hc (by omega) (by omega) (by omega) (by omega) e
  exact Prod.ext ((dates_year hx).trans (dates_year hz).symm) (Prod.ext (by omega) (by omega))
theorem both_eq {x z : Date} (hx : x ∈ datesIn y y) (hz : z ∈ datesIn y y) : writtenT (secondP c) x = writtenT (firstP c) z ↔ x.2.1 = z.2.2 ∧ x.2.2 = z.2.1 := by
  rw [wr_first hc, wr_second hc]
  have h1 := date_small hy hx
  have h2 := date_small hy hz
  constructor
  · intro e
    obtain ⟨a, b, _⟩ := two_cut hc (by omega) (by omega) (by omega) (by omega) e
    omega
  · rintro ⟨a, b⟩
    rw [a, b, dates_year hx, dates_year hz]
end
/-! #### the other date is this one with day and month changed -/
def swB (x z : Date) : Bool := decide (x.2.1 = z.2.2) && decide (x.2.2 = z.2.1)
def confR (r : Date → Date → Bool) (ds : List Date) : Option (Date × Date) := ds.findSome? fun d => ((ds.filter fun x => r x d).filter fun x => !decide (x = d)).head?.map fun e => (d, e)
theorem conf_r {ps qs : List Txt} {r : Date → Date → Bool} {f : Date → Date} {l : List Date} (h : ∀ x ∈ l, ∀ z ∈ l, decide (writtenT qs (f x) = writtenT ps (f z)) = r x z) (hi : ∀ x ∈ l, ∀ z ∈ l, f x = f z → x = z) : confT ps qs (l.map f) = (confR r l).map (prM f) := by
  unfold confT confR
  refine findSome_rel fun d hd => ?_
  have e : othT qs (writtenT ps (f d)) (f d) (l.map f) = ((l.filter fun x => r x d).filter fun x => !decide (x = d)).map f := by
    unfold othT
    rw [filter_relM (q := fun x => r x d) (fun x hx => h x hx d hd)]
    refine filter_relM fun x hx => ?_
    have hx := (List.mem_filter.mp hx).1
    congr 1
    rw [decide_eq_decide]
    exact ⟨fun z => hi x hx d hd z, fun z => by rw [z]⟩
  rw [e, List.head?_map, Option.map_map, Option.map_map]
  rfl
def tellR (r : Date → Date → Bool) (ds : List Date) : Option Date := ds.find? fun d => !(ds.any fun x => r x d) && !(ds.any fun x => r d x)
theorem any_r {ps : List Txt} {t : Txt} {r : Date → Bool} {f : Date → Date} {l : List Date} (h : ∀ x ∈ l, decide (writtenT ps (f x) = t) = r x) : hasT ps (l.map f) t = l.any r := by
  unfold hasT
  rw [Bool.eq_iff_iff, decide_eq_true_iff, List.any_eq_true, List.map_map]
  constructor
  · intro hm
    obtain ⟨x, hx, e⟩ := List.mem_map.mp hm
    exact ⟨x, hx, by rw [← h x hx]; exact decide_eq_true e⟩
  · rintro ⟨x, hx, e⟩
    exact List.mem_map.mpr ⟨x, hx, by rw [← h x hx] at e; exact of_decide_eq_true e⟩
theorem tell_two (a b : List Txt) (ds : List Date) (e : Date) : tellB [a, b] ds e = (!hasT b ds (writtenT a e) && !hasT a ds (writtenT b e)) := by
  unfold tellB
  have hr : List.range ([a, b] : List (List Txt)).length = [0, 1] := rfl
  rw [hr]
  simp [patAt_two]
theorem tell_r {p q : List Txt} {r : Date → Date → Bool} {f : Date → Date} {l : List Date} (h : ∀ x ∈ l, ∀ z ∈ l, decide (writtenT q (f x) = writtenT p (f z)) = r x z) : tellT [p, q] (l.map f) = (tellR r l).map f := by
  unfold tellT tellR
  rw [List.find?_map]
  congr 1
  refine find_rel fun d hd => ?_
  show tellB [p, q] (l.map f) (f d) = _
  rw [tell_two, any_r (r := fun x => r x d) fun x hx => h x hx d hd, any_r (r := fun x => r d x) fun x hx => by
    rw [← h d hd x hx, decide_eq_decide]
    exact eq_comm]
theorem onY_mem {y : Int} {x : Date} (h : x ∈ datesIn (repY y) (repY y)) : onY y x ∈ datesIn y y := by
  rw [dates_rep]
  exact List.mem_map_of_mem h
theorem onY_rep_inj {y : Int} : ∀ x ∈ datesIn (repY y) (repY y), ∀ z ∈ datesIn (repY y) (repY y), onY y x = onY y z → x = z := fun _ hx _ hz h => onY_inj (dates_year hx) (dates_year hz) h
theorem rep_all {P : Int → Prop} (h0 : P 2000) (h1 : P 2001) (y : Int) : P (repY y) := by
  have := rep_mem y
  simp only [List.mem_cons, List.not_mem_nil, or_false] at this
  rcases this with e | e <;> rw [e]
  · exact h0
  · exact h1
theorem sw_conf (y : Int) : confR swB (datesIn (repY y) (repY y)) = some ((repY y, 1, 2), (repY y, 2, 1)) := rep_all (P := fun r => confR swB (datesIn r r) = some ((r, 1, 2), (r, 2, 1))) (by decide +kernel) (by decide +kernel) y
theorem sw_tell (y : Int) : tellR swB (datesIn (repY y) (repY y)) = some (repY y, 1, 13) := rep_all (P := fun r => tellR swB (datesIn r r) = some (r, 1, 13)) (by decide +kernel) (by decide +kernel) y
section
variable {y : Int} (hy : 1600 ≤ y ∧ y ≤ 2399) {c : Nat} (hc : markB c = true)
include hy hc
theorem sw_rel : ∀ x ∈ datesIn (repY y) (repY y), ∀ z ∈ datesIn (repY y) (repY y), decide (writtenT (secondP c) (onY y x) = writtenT (firstP c) (onY y z)) = swB x z := by
  intro x hx z hz
  unfold swB
  rw [← Bool.decide_and, decide_eq_decide, both_eq hy hc (onY_mem hx) (onY_mem hz)]
  rfl
theorem sw_rel2 : ∀ x ∈ datesIn (repY y) (repY y), ∀ z ∈ datesIn (repY y) (repY y), decide (writtenT (firstP c) (onY y x) = writtenT (secondP c) (onY y z)) = swB x z := by
  intro x hx z hz
  unfold swB
  rw [← Bool.decide_and, decide_eq_decide, eq_comm, both_eq hy hc (onY_mem hz) (onY_mem hx)]
  unfold onY
  constructor
  · rintro ⟨a, b⟩; exact ⟨b.symm, a.symm⟩
  · rintro ⟨a, b⟩; exact ⟨b.symm, a.symm⟩
theorem k_conf : confT (firstP c) (secondP c) (datesIn y y) = some ((y, 1, 2), (y, 2, 1)) := by
  rw [dates_rep, conf_r (sw_rel hy hc) onY_rep_inj, sw_conf]
  rfl
theorem k_conf2 : confT (secondP c) (firstP c) (datesIn y y) = some ((y, 1, 2), (y, 2, 1)) := by
  rw [dates_rep, conf_r (sw_rel2 hy hc) onY_rep_inj, sw_conf]
  rfl
theorem k_tell : tellT [firstP c, secondP c] (datesIn y y) = some (y, 1, 13) := by
  rw [dates_rep, tell_r (sw_rel hy hc), sw_tell]
  rfl
theorem k_clash1 : clashT (writtenT (firstP c)) (datesIn y y) = none :=
  (clash_none_iff _ _).mpr (map_nodup (dates_nodup (span_one hy)) fun _ hx _ hz hne e => hne ((first_eq hy hc hz hx).mp e))
theorem k_clash2 : clashT (writtenT (secondP c)) (datesIn y y) = none :=
  (clash_none_iff _ _).mpr (map_nodup (dates_nodup (span_one hy)) fun _ hx _ hz hne e => hne ((second_eq hy hc hz hx).mp e))
theorem k_conf1 : confT (firstP c) (firstP c) (datesIn y y) = none := by
  have := clash_isNone (ps := firstP c) (datesIn_sorted (span_one hy))
  rw [k_clash1 hy hc] at this
  exact Option.isNone_iff_eq_none.mp this
end
end PyI
set_option autoImplicit false
set_option linter.all false
set_option Elab.async false
set_option maxRecDepth 100000
set_option maxHeartbeats 4000000
namespace PyI
local macro_rules | `(tactic| walk_at "wp") => `(tactic| simp only [e_var, e_glb, e_int, e_str, e_bl, e_non, e_bin, e_cmp, e_chain, e_neg, e_and, e_or, e_not, e_ite, e_tup, e_lst, e_dic0, e_sub, e_slice, wo_nil, wo_int, wo_var, wo_bin, wo_neg, wo_blt, wo_call, wo_sub, e_lrg, e_lng, e_rev, e_call, e_blt, e_meth, e_comp, e_fld, e_newc, e_mcl, e_lenc, e_orv, e_selc, a_nil, a_cons,
  s_pass, s_seq, s_nm, s_tp, s_par, s_aug, s_setsub, s_augsub, s_ex, s_ret, s_retn, s_ite, s_whl, s_for, s_brk, s_cnt, s_rse, s_tri, s_setfld,
  b_add, b_adds, b_addr, b_addt, b_sub, b_mul, b_mulr, b_muls, b_mult, b_div, b_mod, b_pow, c_eq, c_eqs, c_eqr, c_eqt, c_eqn, c_ne, c_nes, c_ner, c_net, c_nen, c_lt, c_le, c_gt, c_ge, c_ltt, c_let, c_gtt, c_get, c_lts, c_les, c_gts, c_ges, c_isbb, c_isnn, c_isbn, c_isin, c_issn, c_istn, c_isrn, c_nsbb, c_nsnn, c_nsbn, c_nsin, c_nssn, c_nstn, c_nsrn,
  c_int, c_ins, c_inr, c_nit, c_nis, c_nir, n_int, i_tup, i_str, i_ref, i_dic, k_str, k_tup, k_ref, v_ref, v_tup, l_minD, l_maxD, l_min, l_max, z_vals, z_keys, z_enmt, z_zip3, l_lens, l_lent, l_lenr, l_str, l_int, l_dictP, l_isSeq_t, l_isSeq_r, l_isTup_r, l_isTup_i, l_tuplet, l_tupler, l_listt, l_listr, l_sum, l_all, l_any, l_isInt_i, l_isBool_i, l_isStr_s, l_isTup_t,
  m_starts, m_ins, m_split, m_part, m_popAt, y_popAt, y_ins, y_starts, y_split, y_part, m_app, m_ext, m_pop, m_join, m_alpha, m_sidx, m_get, m_setd, y_app, y_ext, y_pop, y_get, y_setd, y_str, y_alpha, y_sidx, t_bl, o_int, z_tup, z_ref, z_str, z_rng1, z_rng2, z_rng3, z_enm, z_zipt, z_zipr, w_ri, w_rs,
  at_0, at_1, at_2, at_3, gv_0, gv_s, sa_0, sa_s, st_nm, st_tp, wi_0, wi_s, st_0, st_s, st_n, wpB, List.set_cons_zero, List.set_cons_succ, Option.some.injEq, exists_eq_left', true_and, Bool.not_true, Bool.not_false, if_true, if_false, Bool.false_eq_true, exists_const, PV.ref.injEq, PV.str.injEq, PV.int.injEq, List.length_cons, List.length_nil])
/-! ### what is known of each year, further -/
theorem month1 (y : Int) : ∃ r, datesIn y y = (irange 1 32).map (fun k => ((y, 1, k) : Date)) ++ r := by
  rw [datesIn_one]
  refine ⟨(irange 2 13).flatMap fun m => (irange 1 (mlen y m + 1)).map fun d => (y, m, d), ?_⟩
  unfold datesY
  rw [show irange 1 13 = 1 :: irange 2 13 from rfl, List.flatMap_cons]
  rfl
theorem head10 (y : Int) : ∃ r, datesIn y y = (y, 1, 1) :: (y, 1, 2) :: (y, 1, 3) :: (y, 1, 4) :: (y, 1, 5) :: (y, 1, 6) :: (y, 1, 7) :: (y, 1, 8) :: (y, 1, 9) :: (y, 1, 10) :: r := by
  obtain ⟨r, h⟩ := month1 y
  exact ⟨(irange 11 32).map (fun k => ((y, 1, k) : Date)) ++ r, by rw [h]; rfl⟩
section
variable {y : Int} (hy : 1600 ≤ y ∧ y ≤ 2399)
include hy
theorem mem_first : (y, 1, 1) ∈ datesIn y y := by
  obtain ⟨r, h⟩ := head10 y
  rw [h]; exact List.mem_cons_self
omit hy in
/-- nine texts that go up, the tenth below -/
theorem uns_nine {w : Date → Txt} {y : Int} (t : Nat → Txt) (hw : ∀ k : Nat, k < 10 → w (y, 1, ((k + 1 : Nat) : Int)) = t k) (hlt : ∀ k < 8, t k < t (k + 1)) (hn : ¬ t 8 < t 9) : unsT w (datesIn y y) = some (y, 1, 9) := by
  obtain ⟨r, h⟩ := head10 y
  have e0 := hw 0 (by omega); have e1 := hw 1 (by omega); have e2 := hw 2 (by omega); have e3 := hw 3 (by omega); have e4 := hw 4 (by omega)
  have e5 := hw 5 (by omega); have e6 := hw 6 (by omega); have e7 := hw 7 (by omega); have e8 := hw 8 (by omega); have e9 := hw 9 (by omega)
  rw [h]
  rw [unsT_cons, if_pos (show w (y, 1, 1) < w (y, 1, 2) from e0 ▸ e1 ▸ hlt 0 (by omega))]
  rw [unsT_cons, if_pos (show w (y, 1, 2) < w (y, 1, 3) from e1 ▸ e2 ▸ hlt 1 (by omega))]
  rw [unsT_cons, if_pos (show w (y, 1, 3) < w (y, 1, 4) from e2 ▸ e3 ▸ hlt 2 (by omega))]
  rw [unsT_cons, if_pos (show w (y, 1, 4) < w (y, 1, 5) from e3 ▸ e4 ▸ hlt 3 (by omega))]
  rw [unsT_cons, if_pos (show w (y, 1, 5) < w (y, 1, 6) from e4 ▸ e5 ▸ hlt 4 (by omega))]
  rw [unsT_cons, if_pos (show w (y, 1, 6) < w (y, 1, 7) from e5 ▸ e6 ▸ hlt 5 (by omega))]
  rw [unsT_cons, if_pos (show w (y, 1, 7) < w (y, 1, 8) from e6 ▸ e7 ▸ hlt 6 (by omega))]
  rw [unsT_cons, if_pos (show w (y, 1, 8) < w (y, 1, 9) from e7 ▸ e8 ▸ hlt 7 (by omega))]
  rw [unsT_cons, if_neg (show ¬ w (y, 1, 9) < w (y, 1, 10) from e8 ▸ e9 ▸ hn)]
theorem k_uns1 {c : Nat} (hc : markB c = true) : unsT (writtenT (firstP c)) (datesIn y y) = some (y, 1, 9) := by
  refine uns_nine (fun k => padT 1 (k + 1) ++ c :: (padT 1 1 ++ c :: padT 4 y.toNat)) (fun k _ => ?_) (fun k hk => ?_) ?_
  · rw [wr_first hc]; rfl
  · rcases (show k = 0 ∨ k = 1 ∨ k = 2 ∨ k = 3 ∨ k = 4 ∨ k = 5 ∨ k = 6 ∨ k = 7 by omega) with rfl | rfl | rfl | rfl | rfl | rfl | rfl | rfl <;> exact lt_head (by decide) _ _
  · exact nlt_head (by decide) _ _
theorem k_uns2 {c : Nat} (hc : markB c = true) : unsT (writtenT (secondP c)) (datesIn y y) = some (y, 1, 9) := by
  refine uns_nine (fun k => 49 :: c :: (padT 1 (k + 1) ++ c :: padT 4 y.toNat)) (fun k _ => ?_) (fun k hk => ?_) ?_
  · rw [wr_second hc]
    show padT 1 (Int.toNat 1) ++ _ = _
    rw [show padT 1 (Int.toNat 1) = [49] from by decide +kernel]; rfl
  · rcases (show k = 0 ∨ k = 1 ∨ k = 2 ∨ k = 3 ∨ k = 4 ∨ k = 5 ∨ k = 6 ∨ k = 7 by omega) with rfl | rfl | rfl | rfl | rfl | rfl | rfl | rfl <;> exact lt_tail (lt_tail (lt_head (by decide) _ _))
  · exact nlt_tail (nlt_tail (nlt_head (by decide) _ _))
theorem pad1_len {a : Nat} (h1 : 1 ≤ a) (ha : a < 32) : 1 ≤ (padT 1 a).length ∧ (padT 1 a).length ≤ 2 := by
  have : ∀ a < 32, 1 ≤ (padT 1 a).length ∧ (padT 1 a).length ≤ 2 := by decide +kernel
  exact this a ha
theorem pad4_len : (padT 4 y.toNat).length = 4 := by
  have : ∀ n < 2400, (padT 4 n).length = 4 := by decide +kernel
  exact this y.toNat (by omega)
theorem mem_oct : (y, 10, 10) ∈ datesIn y y := by
  rw [dates_rep]
  exact List.mem_map.mpr ⟨(repY y, 10, 10), rep_all (P := fun r => (r, 10, 10) ∈ datesIn r r) (by decide +kernel) (by decide +kernel) y, rfl⟩
theorem k_width {c : Nat} (hc : markB c = true) {m n : Int} (h1 : m ∈ lensT (writtenT (firstP c)) (datesIn y y)) (h2 : ∀ x ∈ lensT (writtenT (firstP c)) (datesIn y y), m ≤ x) (h3 : n ∈ lensT (writtenT (firstP c)) (datesIn y y)) (h4 : ∀ x ∈ lensT (writtenT (firstP c)) (datesIn y y), x ≤ n) : m = 8 ∧ n = 10 := by
  have len : ∀ d, (writtenT (firstP c) d).length = (padT 1 d.2.2.toNat).length + (padT 1 d.2.1.toNat).length + (padT 4 d.1.toNat).length + 2 := fun d => by
    rw [wr_first hc, List.length_append, List.length_cons, List.length_append, List.length_cons]; omega
  have h4y := pad4_len hy
  have bnd : ∀ x ∈ lensT (writtenT (firstP c)) (datesIn y y), 8 ≤ x ∧ x ≤ 10 := fun x hx => by
    obtain ⟨d, hd, rfl⟩ := List.mem_map.mp hx
    have hs := date_small hy hd
    have a := pad1_len hy (a := d.2.2.toNat) (by omega) (by omega)
    have b := pad1_len hy (a := d.2.1.toNat) (by omega) (by omega)
    have e : (padT 4 d.1.toNat).length = 4 := by rw [dates_year hd]; exact h4y
    have := len d
    omega
  have l8 : (8 : Int) ∈ lensT (writtenT (firstP c)) (datesIn y y) := List.mem_map.mpr ⟨_, mem_first hy, by
    rw [len]
    show (((padT 1 1).length + (padT 1 1).length + (padT 4 y.toNat).length + 2 : Nat) : Int) = 8
    rw [h4y]; decide⟩
  have l10 : (10 : Int) ∈ lensT (writtenT (firstP c)) (datesIn y y) := List.mem_map.mpr ⟨_, mem_oct hy, by
    rw [len]
    show (((padT 1 10).length + (padT 1 10).length + (padT 4 y.toNat).length + 2 : Nat) : Int) = 10
    rw [h4y]; decide⟩
  have := h2 _ l8
  have := h4 _ l10
  have := bnd _ h1
  have := bnd _ h3
  omega
end
/-! #### patterns that do not ask for the year -/
def ylB (ps : List Txt) : Bool := ps.all fun p => decide (p ≠ [89, 89] ∧ p ≠ [89, 89, 89, 89] ∧ p ≠ [87, 68])
theorem yl_of {ps : List Txt} (h : ylB ps = true) : ∀ p ∈ ps, yearless p := fun p hp => by simpa [yearless] using List.all_eq_true.mp h p hp
theorem wr_yl {ps : List Txt} (h : ylB ps = true) {y : Int} {x : Date} (hx : x ∈ datesIn (repY y) (repY y)) : writtenT ps (onY y x) = writtenT ps x := wr_onY (rep_long hx) (yl_of h)
theorem clash_yl {ps : List Txt} (h : ylB ps = true) (y : Int) : clashT (writtenT ps) (datesIn y y) = (clashT (writtenT ps) (datesIn (repY y) (repY y))).map (prM (onY y)) := by
  rw [dates_rep y]
  exact clashT_rel fun x hx z hz => by rw [wr_yl h hx, wr_yl h hz]
theorem uns_yl {ps : List Txt} (h : ylB ps = true) (y : Int) : unsT (writtenT ps) (datesIn y y) = (unsT (writtenT ps) (datesIn (repY y) (repY y))).map (onY y) := by
  rw [dates_rep y]
  exact unsT_rel _ fun x hx z hz => by rw [wr_yl h hx, wr_yl h hz]
theorem read_yl {ps : List Txt} (h : ylB ps = true) (y : Int) (t : Txt) : ((datesIn y y).filter fun d => decide (writtenT ps d = t)) = ((datesIn (repY y) (repY y)).filter fun d => decide (writtenT ps d = t)).map (onY y) := by
  rw [dates_rep y]
  exact filter_relM fun x hx => by rw [wr_yl h hx]
theorem k_uns_J (y : Int) : unsT (writtenT [[74]]) (datesIn y y) = some (y, 1, 9) := by
  rw [uns_yl (by decide), rep_all (P := fun r => unsT (writtenT [[74]]) (datesIn r r) = some (r, 1, 9)) (by decide +kernel) (by decide +kernel) y]
  rfl
theorem k_uns_MONDD (y : Int) : unsT (writtenT [[77, 79, 78], [68, 68]]) (datesIn y y) = some (y, 1, 31) := by
  rw [uns_yl (by decide), rep_all (P := fun r => unsT (writtenT [[77, 79, 78], [68, 68]]) (datesIn r r) = some (r, 1, 31)) (by decide +kernel) (by decide +kernel) y]
  rfl
theorem k_uns_DDMM (y : Int) : unsT (writtenT [[68, 68], [77, 77]]) (datesIn y y) = some (y, 1, 31) := by
  rw [uns_yl (by decide), rep_all (P := fun r => unsT (writtenT [[68, 68], [77, 77]]) (datesIn r r) = some (r, 1, 31)) (by decide +kernel) (by decide +kernel) y]
  rfl
theorem k_uns_MMDD (y : Int) : unsT (writtenT [[77, 77], [68, 68]]) (datesIn y y) = none := by
  rw [uns_yl (by decide), rep_all (P := fun r => unsT (writtenT [[77, 77], [68, 68]]) (datesIn r r) = none) (by decide +kernel) (by decide +kernel) y]
  rfl
theorem k_uns_YJ (y : Int) : unsT (writtenT [[89, 89, 89, 89], [74, 74, 74]]) (datesIn y y) = none := by
  rw [dates_rep y, unsT_rel (v := writtenT [[74, 74, 74]]) _ fun x hx z hz => ?_, rep_all (P := fun r => unsT (writtenT [[74, 74, 74]]) (datesIn r r) = none) (by decide +kernel) (by decide +kernel) y]
  · rfl
  · rw [wr_cons, wr_cons [89, 89, 89, 89], pc_Y4, pc_Y4]
    show padT 4 y.toNat ++ _ < padT 4 y.toNat ++ _ ↔ _
    rw [lt_left, wr_yl (by decide) hx, wr_yl (by decide) hz]
theorem k_JJJ (y : Int) : ((datesIn y y).filter fun d => decide (writtenT [[74, 74, 74]] d = [51, 54, 54])) = if isLong y then [(y, 12, 31)] else [] := by
  rw [read_yl (by decide), ← long_rep y, rep_all (P := fun r => ((datesIn r r).filter fun d => decide (writtenT [[74, 74, 74]] d = [51, 54, 54])) = if isLong r then [(r, 12, 31)] else []) (by decide +kernel) (by decide +kernel) y]
  split <;> rfl
theorem k_DDMON (y : Int) : ((datesIn y y).filter fun d => decide (writtenT [[68, 68], [77, 79, 78]] d = [50, 57, 102, 101, 98])) = if isLong y then [(y, 2, 29)] else [] := by
  rw [read_yl (by decide), ← long_rep y, rep_all (P := fun r => ((datesIn r r).filter fun d => decide (writtenT [[68, 68], [77, 79, 78]] d = [50, 57, 102, 101, 98])) = if isLong r then [(r, 2, 29)] else []) (by decide +kernel) (by decide +kernel) y]
  split <;> rfl
theorem k_len (y : Int) : (datesIn y y).length = if isLong y then 366 else 365 := by
  rw [dates_rep, List.length_map, ← long_rep y]
  exact rep_all (P := fun r => (datesIn r r).length = if isLong r then 366 else 365) (by decide +kernel) (by decide +kernel) y
theorem k_mis_DM (y : Int) : misT [[68], [77]] (datesIn y y) = some (y, 1, 1) := by
  obtain ⟨r, h⟩ := head10 y
  rw [h]
  unfold misT
  have hB : misB [[68], [77]] (y, 1, 1) = true := by
    unfold misB
    have e : writtenT [[68], [77]] (y, 1, 1) = padT 1 (Int.toNat 1) ++ (padT 1 (Int.toNat 1) ++ []) := rfl
    rw [e, show padT 1 (Int.toNat 1) ++ (padT 1 (Int.toNat 1) ++ []) = [49, 49] from by decide +kernel, show greedyT [[68], [77]] [49, 49] = none from by decide +kernel]
    rfl
  rw [List.find?_cons, hB]
theorem k_mis_JY {y : Int} (hy : 1600 ≤ y ∧ y ≤ 2399) : misT [[74], [89, 89, 89, 89]] (datesIn y y) = some (y, 1, 1) := by
  obtain ⟨r, h⟩ := head10 y
  rw [h]
  unfold misT
  have hB : misB [[74], [89, 89, 89, 89]] (y, 1, 1) = true := by
    have : (List.range 800).all (fun n => misB [[74], [89, 89, 89, 89]] (((1600 + n : Nat) : Int), 1, 1)) = true := by decide +kernel
    have := List.all_eq_true.mp this (y - 1600).toNat (List.mem_range.mpr (by omega))
    rw [show ((1600 + (y - 1600).toNat : Nat) : Int) = y by omega] at this
    exact this
  rw [List.find?_cons, hB]
/-! #### two digits are taken whole -/
theorem take_two {p : Txt} (hp : p = [68, 68] ∨ p = [77, 77] ∨ p = [89, 89]) {n : Nat} (hn : n < 100) (rest : Txt) : takeT p (padT 2 n ++ rest) = some (some (.inl (n : Int)), 2) := by
  obtain ⟨a, b, e, ha, hb, hv⟩ : ∃ a b, padT 2 n = [a, b] ∧ digB a = true ∧ digB b = true ∧ PySem.NumText.digitsVal [a, b] = n := by
    have : ∀ n < 100, (padT 2 n).length = 2 ∧ (padT 2 n).all digB = true ∧ PySem.NumText.digitsVal (padT 2 n) = n := by decide +kernel
    obtain ⟨h1, h2, h3⟩ := this n hn
    match h : padT 2 n, h1 with
    | [a, b], _ =>
      rw [h] at h2 h3
      simp only [List.all_cons, List.all_nil, Bool.and_true, Bool.and_eq_true] at h2
      exact ⟨a, b, rfl, h2.1, h2.2, h3⟩
  have hl : lngN p = 2 := by rcases hp with rfl | rfl | rfl <;> rfl
  have hf : isFld p = true := by rcases hp with rfl | rfl | rfl <;> rfl
  have h1 : p ≠ [77, 79, 78] := by rcases hp with rfl | rfl | rfl <;> decide
  have h2 : p ≠ [87, 68] := by rcases hp with rfl | rfl | rfl <;> decide
  have hr : runT 2 ([a, b] ++ rest) = [a, b] := by
    unfold runT
    show List.takeWhile digB [a, b] = _
    rw [List.takeWhile_cons, if_pos ha, List.takeWhile_cons, if_pos hb]
    rfl
  unfold takeT
  rw [hf, if_neg (by decide), if_neg h1, if_neg h2, hl, e, hr, if_neg (by simp), hv]
  rfl
theorem k_mis_DMY {y : Int} (hy : 1600 ≤ y ∧ y ≤ 2399) : misT [[68, 68], [77, 77], [89, 89]] (datesIn y y) = none := by
  unfold misT
  rw [List.find?_eq_none]
  intro d hd
  have hs := date_small hy hd
  have hm : 0 ≤ d.1 % 100 ∧ d.1 % 100 < 100 := ⟨Int.emod_nonneg _ (by decide), Int.emod_lt_of_pos _ (by decide)⟩
  unfold misB
  have e : writtenT [[68, 68], [77, 77], [89, 89]] d = padT 2 d.2.2.toNat ++ (padT 2 d.2.1.toNat ++ (padT 2 (d.1 % 100).toNat ++ [])) := by
    rw [wr_cons, wr_cons, wr_cons, wr_nil, pc_DD, pc_MM, pc_Y2]
  have l2 : ∀ n < 100, (padT 2 n).length = 2 := by decide +kernel
  have dr : ∀ (n : Nat) (r : Txt), n < 100 → (padT 2 n ++ r).drop 2 = r := fun n r hn => by
    have := List.drop_left (l₁ := padT 2 n) (l₂ := r)
    rwa [l2 n hn] at this
  have step : ∀ (p : Txt) (ps : List Txt) (n : Nat) (r : Txt), (p = [68, 68] ∨ p = [77, 77] ∨ p = [89, 89]) → n < 100 → greedyT (p :: ps) (padT 2 n ++ r) = (greedyT ps r).map fun l => .inl (n : Int) :: l := fun p ps n r hp hn => by
    rw [greedyT_cons, take_two hp hn]
    simp only
    rw [dr n r hn]
    rfl
  have hg : greedyT [[68, 68], [77, 77], [89, 89]] (writtenT [[68, 68], [77, 77], [89, 89]] d) = some (dueT [[68, 68], [77, 77], [89, 89]] d) := by
    rw [e, step _ _ _ _ (.inl rfl) (by omega), step _ _ _ _ (.inr (.inl rfl)) (by omega), step _ _ _ _ (.inr (.inr rfl)) (by omega), greedyT_nil, if_pos rfl]
    have hdue : dueT [[68, 68], [77, 77], [89, 89]] d = [.inl d.2.2, .inl d.2.1, .inl (d.1 % 100)] := rfl
    rw [hdue]
    have e1 : (d.2.2.toNat : Int) = d.2.2 := by omega
    have e2 : (d.2.1.toNat : Int) = d.2.1 := by omega
    have e3 : ((d.1 % 100).toNat : Int) = d.1 % 100 := by omega
    rw [e1, e2, e3]
    rfl
  rw [hg]
  simp
end PyI
set_option autoImplicit false
set_option linter.all false
set_option Elab.async false
set_option maxRecDepth 100000
set_option maxHeartbeats 4000000
namespace PyI
local macro_rules | `(tactic| walk_at "wp") => `(tactic| simp only [e_var, e_glb, e_int, e_str, e_bl, e_non, e_bin, e_cmp, e_chain, e_neg, e_and, e_or, e_not, e_ite, e_tup, e_lst, e_dic0, e_sub, e_slice, wo_nil, wo_int, wo_var, wo_bin, wo_neg, wo_blt, wo_call, wo_sub, e_lrg, e_lng, e_rev, e_call, e_blt, e_meth, e_comp, e_fld, e_newc, e_mcl, e_lenc, e_orv, e_selc, a_nil, a_cons,
  s_pass, s_seq, s_nm, s_tp, s_par, s_aug, s_setsub, s_augsub, s_ex, s_ret, s_retn, s_ite, s_whl, s_for, s_brk, s_cnt, s_rse, s_tri, s_setfld,
  b_add, b_adds, b_addr, b_addt, b_sub, b_mul, b_mulr, b_muls, b_mult, b_div, b_mod, b_pow, c_eq, c_eqs, c_eqr, c_eqt, c_eqn, c_ne, c_nes, c_ner, c_net, c_nen, c_lt, c_le, c_gt, c_ge, c_ltt, c_let, c_gtt, c_get, c_lts, c_les, c_gts, c_ges, c_isbb, c_isnn, c_isbn, c_isin, c_issn, c_istn, c_isrn, c_nsbb, c_nsnn, c_nsbn, c_nsin, c_nssn, c_nstn, c_nsrn,
  c_int, c_ins, c_inr, c_nit, c_nis, c_nir, n_int, i_tup, i_str, i_ref, i_dic, k_str, k_tup, k_ref, v_ref, v_tup, l_minD, l_maxD, l_min, l_max, z_vals, z_keys, z_enmt, z_zip3, l_lens, l_lent, l_lenr, l_str, l_int, l_dictP, l_isSeq_t, l_isSeq_r, l_isTup_r, l_isTup_i, l_tuplet, l_tupler, l_listt, l_listr, l_sum, l_all, l_any, l_isInt_i, l_isBool_i, l_isStr_s, l_isTup_t,
  m_starts, m_ins, m_split, m_part, m_popAt, y_popAt, y_ins, y_starts, y_split, y_part, m_app, m_ext, m_pop, m_join, m_alpha, m_sidx, m_get, m_setd, y_app, y_ext, y_pop, y_get, y_setd, y_str, y_alpha, y_sidx, t_bl, o_int, z_tup, z_ref, z_str, z_rng1, z_rng2, z_rng3, z_enm, z_zipt, z_zipr, w_ri, w_rs,
  at_0, at_1, at_2, at_3, gv_0, gv_s, sa_0, sa_s, st_nm, st_tp, wi_0, wi_s, st_0, st_s, st_n, wpB, List.set_cons_zero, List.set_cons_succ, Option.some.injEq, exists_eq_left', true_and, Bool.not_true, Bool.not_false, if_true, if_false, Bool.false_eq_true, exists_const, PV.ref.injEq, PV.str.injEq, PV.int.injEq, List.length_cons, List.length_nil])
/-! ### clashes of each year -/
theorem clash_some {w : Date → Txt} {ds : List Date} {x z : Date} (hx : x ∈ ds) (hz : z ∈ ds) (hne : x ≠ z) (e : w x = w z) : (clashT w ds).isNone = false := by
  cases h : clashT w ds with
  | some p => rfl
  | none =>
    have hn := (clash_none_iff _ _).mp h
    exfalso
    clear h
    revert hx hz hn
    induction ds with
    | nil => intro hx; cases hx
    | cons d r ih =>
      intro hx hz hn
      rw [List.map_cons, List.nodup_cons] at hn
      rcases List.mem_cons.mp hx with h1 | h1
      · rcases List.mem_cons.mp hz with h2 | h2
        · exact hne (h1.trans h2.symm)
        · exact hn.1 (List.mem_map.mpr ⟨z, h2, by rw [← e, h1]⟩)
      · rcases List.mem_cons.mp hz with h2 | h2
        · exact hn.1 (List.mem_map.mpr ⟨x, h1, by rw [e, h2]⟩)
        · exact ih h1 h2 hn.2
def numV (t : Txt) : Int := (PySem.NumText.digitsVal t : Nat)
/-- day, month .. of what D M wrote, ahead of November -/
def decDM (t : Txt) : Int × Int := if t.getLast? = some 48 then (10, numV t.dropLast.dropLast) else (numV (t.drop (t.length - 1)), numV t.dropLast)
def decMD (t : Txt) : Int × Int := if t.take 2 = [49, 48] ∧ 3 ≤ t.length then (10, numV (t.drop 2)) else (numV (t.take 1), numV (t.drop 1))
def decDDM (t : Txt) : Int × Int := (numV (t.drop 2), numV (t.take 2))
def decMMD (t : Txt) : Int × Int := (numV (t.take 2), numV (t.drop 2))
def decDMON (t : Txt) : Int × Int := (((moNames.findIdx? fun m => decide (m = t.drop (t.length - 3))).getD 0 + 1 : Nat), numV (t.take (t.length - 3)))
def novAt (r : Int) : Nat := if r = 2000 then 305 else 304
theorem rep_sp (y : Int) : isSpan (repY y) (repY y) := rep_span (rep_mem y)
theorem k_clash_DM (y : Int) : clashT (writtenT [[68], [77]]) (datesIn y y) = some ((y, 1, 11), (y, 11, 1)) := by
  rw [clash_yl (by decide), clash_at (rep_sp y) (i := novAt (repY y)) (x := (repY y, 1, 11)) (z := (repY y, 11, 1)) decDM]
  · rfl
  · exact rep_all (P := fun r => (((datesIn r r).take (novAt r)).all fun d => decide (decDM (writtenT [[68], [77]] d) = d.2)) = true) (by decide +kernel) (by decide +kernel) y
  · exact rep_all (P := fun r => (datesIn r r)[novAt r]? = some (r, 11, 1)) (by decide +kernel) (by decide +kernel) y
  · exact rep_all (P := fun r => ((datesIn r r).take (novAt r)).find? (fun d => decide (writtenT [[68], [77]] d = writtenT [[68], [77]] (r, 11, 1))) = some (r, 1, 11)) (by decide +kernel) (by decide +kernel) y
theorem k_clash_MD (y : Int) : clashT (writtenT [[77], [68]]) (datesIn y y) = some ((y, 1, 11), (y, 11, 1)) := by
  rw [clash_yl (by decide), clash_at (rep_sp y) (i := novAt (repY y)) (x := (repY y, 1, 11)) (z := (repY y, 11, 1)) decMD]
  · rfl
  · exact rep_all (P := fun r => (((datesIn r r).take (novAt r)).all fun d => decide (decMD (writtenT [[77], [68]] d) = d.2)) = true) (by decide +kernel) (by decide +kernel) y
  · exact rep_all (P := fun r => (datesIn r r)[novAt r]? = some (r, 11, 1)) (by decide +kernel) (by decide +kernel) y
  · exact rep_all (P := fun r => ((datesIn r r).take (novAt r)).find? (fun d => decide (writtenT [[77], [68]] d = writtenT [[77], [68]] (r, 11, 1))) = some (r, 1, 11)) (by decide +kernel) (by decide +kernel) y
theorem k_clash_DDM (y : Int) : clashT (writtenT [[68, 68], [77]]) (datesIn y y) = none := by
  rw [clash_yl (by decide), clash_no (rep_sp y) decDDM (rep_all (P := fun r => ((datesIn r r).all fun d => decide (decDDM (writtenT [[68, 68], [77]] d) = d.2)) = true) (by decide +kernel) (by decide +kernel) y)]
  rfl
theorem k_clash_MMD (y : Int) : clashT (writtenT [[77, 77], [68]]) (datesIn y y) = none := by
  rw [clash_yl (by decide), clash_no (rep_sp y) decMMD (rep_all (P := fun r => ((datesIn r r).all fun d => decide (decMMD (writtenT [[77, 77], [68]] d) = d.2)) = true) (by decide +kernel) (by decide +kernel) y)]
  rfl
theorem k_clash_DMON (y : Int) : clashT (writtenT [[68], [77, 79, 78]]) (datesIn y y) = none := by
  rw [clash_yl (by decide), clash_no (rep_sp y) decDMON (rep_all (P := fun r => ((datesIn r r).all fun d => decide (decDMON (writtenT [[68], [77, 79, 78]] d) = d.2)) = true) (by decide +kernel) (by decide +kernel) y)]
  rfl
/-! #### bars -/
section
variable {y : Int} (hy : 1600 ≤ y ∧ y ≤ 2399)
include hy
omit hy in
theorem mem_at (y : Int) {m d : Int} (h0 : ((2000, m, d) : Date) ∈ datesIn 2000 2000) (h1 : ((2001, m, d) : Date) ∈ datesIn 2001 2001) : ((y, m, d) : Date) ∈ datesIn y y := by
  rw [dates_rep]
  exact List.mem_map.mpr ⟨(repY y, m, d), rep_all (P := fun r => ((r, m, d) : Date) ∈ datesIn r r) h0 h1 y, rfl⟩
theorem two_ne {p q : Date} (h : p.2 ≠ q.2) : p ≠ q := fun e => h (by rw [e])
theorem wr_last {c : Nat} (hc : markB c = true) (d : Date) : writtenT [[68], [c], [77]] d = padT 1 d.2.2.toNat ++ c :: padT 1 d.2.1.toNat := by
  rw [wr_cons, wr_cons, wr_cons, wr_nil, pc_D, pc_M, pc_lit (mark_fld hc), List.append_nil]
  rfl
theorem nc1 {c n : Nat} (hc : markB c = true) (hn : n < 32) : ∀ x ∈ padT 1 n, x ≠ c := fun x hx e => by
  have := pad1_dig hn x hx
  rw [e, mark_dig hc] at this
  cases this
theorem k_cl_DbM : clashT (writtenT [[68], barT, [77]]) (datesIn y y) = none := by
  refine (clash_none_iff _ _).mpr (map_nodup (dates_nodup (span_one hy)) fun x hx z hz hne e => hne ?_)
  have hc : markB 124 = true := by decide
  have h1 := date_small hy hx
  have h2 := date_small hy hz
  unfold barT at e
  rw [wr_last hy hc, wr_last hy hc] at e
  obtain ⟨a, b⟩ := cut_inj (nc1 hy hc (by omega)) (nc1 hy hc (by omega)) e
  have a := pad1_inj (by omega) (by omega) a
  have b := pad1_inj (by omega) (by omega) b
  exact Prod.ext ((dates_year hz).trans (dates_year hx).symm) (Prod.ext (by omega) (by omega))
theorem k_bars_DM : barsT [[68], [77]] (datesIn y y) = some [0] := by
  unfold barsT
  have h1 := k_cl_DbM hy
  have h2 := k_clash_DM y
  have e1 : withB [[68], [77]] (List.range (([[68], [77]] : List Txt).length - 1)) = [[68], barT, [77]] := rfl
  have e3 : ((List.range (([[68], [77]] : List Txt).length - 1)).flatMap fun n => choT (([[68], [77]] : List Txt).length - 1) n 0) = [[]] := rfl
  have e2 : withB [[68], [77]] [] = [[68], [77]] := rfl
  rw [e1, h1, if_neg (by simp), e3, List.find?_cons, e2, h2]
  rfl
theorem wr_same {ps : List Txt} {x z : Date} (h : ps.map (fun p => pieceT p x) = ps.map fun p => pieceT p z) : writtenT ps x = writtenT ps z := by
  unfold writtenT
  rw [h]
/-- year, mark or not, and what follows -/
theorem k_cl_YbMbD : clashT (writtenT [[89, 89, 89, 89], barT, [77], barT, [68]]) (datesIn y y) = none := by
  refine (clash_none_iff _ _).mpr (map_nodup (dates_nodup (span_one hy)) fun x hx z hz hne e => hne ?_)
  have hc : markB 124 = true := by decide
  have h1 := date_small hy hx
  have h2 := date_small hy hz
  rw [wr_cons, wr_cons, wr_cons, wr_cons, wr_cons, wr_nil, wr_cons, wr_cons, wr_cons, wr_cons, wr_cons, wr_nil, pc_Y4, pc_Y4, pc_D, pc_D, pc_M, pc_M, pc_lit (by decide), pc_lit (by decide), dates_year hx, dates_year hz] at e
  have e := List.append_cancel_left (List.append_cancel_left e)
  rw [List.append_nil, List.append_nil] at e
  obtain ⟨a, b⟩ := cut_inj (c := 124) (nc1 hy hc (by omega)) (nc1 hy hc (by omega)) e
  have a := pad1_inj (by omega) (by omega) a
  have b := pad1_inj (by omega) (by omega) b
  exact Prod.ext ((dates_year hz).trans (dates_year hx).symm) (Prod.ext (by omega) (by omega))
theorem k_cl_YMbD : clashT (writtenT [[89, 89, 89, 89], [77], barT, [68]]) (datesIn y y) = none := by
  refine (clash_none_iff _ _).mpr (map_nodup (dates_nodup (span_one hy)) fun x hx z hz hne e => hne ?_)
  have hc : markB 124 = true := by decide
  have h1 := date_small hy hx
  have h2 := date_small hy hz
  rw [wr_cons, wr_cons, wr_cons, wr_cons, wr_nil, wr_cons, wr_cons, wr_cons, wr_cons, wr_nil, pc_Y4, pc_Y4, pc_D, pc_D, pc_M, pc_M, pc_lit (by decide), pc_lit (by decide), dates_year hx, dates_year hz] at e
  have e := List.append_cancel_left e
  rw [List.append_nil, List.append_nil] at e
  obtain ⟨a, b⟩ := cut_inj (c := 124) (nc1 hy hc (by omega)) (nc1 hy hc (by omega)) e
  have a := pad1_inj (by omega) (by omega) a
  have b := pad1_inj (by omega) (by omega) b
  exact Prod.ext ((dates_year hz).trans (dates_year hx).symm) (Prod.ext (by omega) (by omega))
theorem k_cl_YMD : (clashT (writtenT [[89, 89, 89, 89], [77], [68]]) (datesIn y y)).isNone = false := by
  refine clash_some (x := (y, 1, 11)) (z := (y, 11, 1)) (mem_at y (by decide +kernel) (by decide +kernel)) (mem_at y (by decide +kernel) (by decide +kernel)) (two_ne hy (by simp)) ?_
  show padT 4 y.toNat ++ (padT 1 (Int.toNat 1) ++ (padT 1 (Int.toNat 11) ++ [])) = padT 4 y.toNat ++ (padT 1 (Int.toNat 11) ++ (padT 1 (Int.toNat 1) ++ []))
  congr 1
theorem k_cl_YbMD : (clashT (writtenT [[89, 89, 89, 89], barT, [77], [68]]) (datesIn y y)).isNone = false := by
  refine clash_some (x := (y, 1, 11)) (z := (y, 11, 1)) (mem_at y (by decide +kernel) (by decide +kernel)) (mem_at y (by decide +kernel) (by decide +kernel)) (two_ne hy (by simp)) ?_
  show padT 4 y.toNat ++ (barT ++ (padT 1 (Int.toNat 1) ++ (padT 1 (Int.toNat 11) ++ []))) = padT 4 y.toNat ++ (barT ++ (padT 1 (Int.toNat 11) ++ (padT 1 (Int.toNat 1) ++ [])))
  congr 1
theorem k_bars_YMD : barsT [[89, 89, 89, 89], [77], [68]] (datesIn y y) = some [1] := by
  unfold barsT
  have e1 : withB [[89, 89, 89, 89], [77], [68]] (List.range (([[89, 89, 89, 89], [77], [68]] : List Txt).length - 1)) = [[89, 89, 89, 89], barT, [77], barT, [68]] := rfl
  have e3 : ((List.range (([[89, 89, 89, 89], [77], [68]] : List Txt).length - 1)).flatMap fun n => choT (([[89, 89, 89, 89], [77], [68]] : List Txt).length - 1) n 0) = [[], [0], [1]] := rfl
  have e4 : withB [[89, 89, 89, 89], [77], [68]] [] = [[89, 89, 89, 89], [77], [68]] := rfl
  have e5 : withB [[89, 89, 89, 89], [77], [68]] [0] = [[89, 89, 89, 89], barT, [77], [68]] := rfl
  have e6 : withB [[89, 89, 89, 89], [77], [68]] [1] = [[89, 89, 89, 89], [77], barT, [68]] := rfl
  rw [e1, k_cl_YbMbD hy, if_neg (by simp), e3, List.find?_cons, e4, k_cl_YMD hy]
  simp only
  rw [List.find?_cons, e5, k_cl_YbMD hy]
  simp only
  rw [List.find?_cons, e6, k_cl_YMbD hy]
  rfl
theorem k_bars_DY : barsT [[68, 68], [89, 89]] (datesIn y y) = none := by
  unfold barsT
  have e1 : withB [[68, 68], [89, 89]] (List.range (([[68, 68], [89, 89]] : List Txt).length - 1)) = [[68, 68], barT, [89, 89]] := rfl
  have h : (clashT (writtenT [[68, 68], barT, [89, 89]]) (datesIn y y)).isNone = false :=
    clash_some (x := (y, 1, 1)) (z := (y, 2, 1)) (mem_at y (by decide +kernel) (by decide +kernel)) (mem_at y (by decide +kernel) (by decide +kernel)) (two_ne hy (by simp)) rfl
  rw [e1, if_pos h]
end
/-! #### weekdays -/
def wkC (y : Int) : Int := (365 * (y - 1) + (y - 1) / 4 - (y - 1) / 100 + (y - 1) / 400) % 7
theorem wkC_at (y : Int) : 0 ≤ wkC y ∧ wkC y < 7 := ⟨Int.emod_nonneg _ (by decide), Int.emod_lt_of_pos _ (by decide)⟩
theorem wdNo_c (d : Date) : wdNo d = (wkC d.1 + piy d - 1) % 7 := by
  unfold wdNo wkC
  omega
theorem wd_name {i : Nat} (h : i < 7) : wdNames.getD i [] = [115, 97, 116] ↔ i = 5 := by
  rcases (show i = 0 ∨ i = 1 ∨ i = 2 ∨ i = 3 ∨ i = 4 ∨ i = 5 ∨ i = 6 by omega) with rfl | rfl | rfl | rfl | rfl | rfl | rfl <;> decide
/-- what wdOf gives in a year, from that year's own number -/
def wkT (c : Int) (d : Date) : Txt := wdNames.getD ((c + piy d - 1) % 7).toNat []
theorem wdOf_c (y : Int) {x : Date} (hx : x ∈ datesIn (repY y) (repY y)) : pieceT [87, 68] (onY y x) = wkT (wkC y) x := by
  show wdOf (onY y x) = _
  unfold wdOf wkT
  rw [wdNo_c, piy_onY (rep_long hx)]
  rfl
def wkMON (c : Int) (ds : List Date) : List Date := ds.filter fun d => decide (wkT c d ++ (moOf d ++ []) = [115, 97, 116, 102, 101, 98])
theorem k_week (y : Int) : ((datesIn y y).filter fun d => decide (writtenT [[87, 68], [77, 79, 78]] d = [115, 97, 116, 102, 101, 98])) = (wkMON (wkC y) (datesIn (repY y) (repY y))).map (onY y) := by
  rw [dates_rep y]
  exact filter_relM fun x hx => by
    rw [wr_cons, wr_cons, wr_nil, wdOf_c y hx]
    rfl
def weekB (l : List Date) : Bool := decide (l.length = 4 ∨ l.length = 5) && (l.zip (l.drop 1)).all fun p => decide (p.1.2.2 + 7 = p.2.2.2)
theorem week_rep (y c : Int) (hc : 0 ≤ c ∧ c < 7) : weekB (wkMON c (datesIn (repY y) (repY y))) = true := by
  refine rep_all (P := fun r => weekB (wkMON c (datesIn r r)) = true) ?_ ?_ y
  · have : ∀ i < 7, weekB (wkMON ((i : Nat) : Int) (datesIn 2000 2000)) = true := by decide +kernel
    have := this c.toNat (by omega)
    rwa [Int.toNat_of_nonneg hc.1] at this
  · have : ∀ i < 7, weekB (wkMON ((i : Nat) : Int) (datesIn 2001 2001)) = true := by decide +kernel
    have := this c.toNat (by omega)
    rwa [Int.toNat_of_nonneg hc.1] at this
theorem week_len (y : Int) : (((wkMON (wkC y) (datesIn (repY y) (repY y))).map (onY y)).length = 4 ∨ ((wkMON (wkC y) (datesIn (repY y) (repY y))).map (onY y)).length = 5) ∧ ∀ p ∈ ((wkMON (wkC y) (datesIn (repY y) (repY y))).map (onY y)).zip (((wkMON (wkC y) (datesIn (repY y) (repY y))).map (onY y)).drop 1), p.1.2.2 + 7 = p.2.2.2 := by
  have h := week_rep y _ (wkC_at y)
  unfold weekB at h
  rw [Bool.and_eq_true] at h
  rw [List.length_map]
  refine ⟨of_decide_eq_true h.1, ?_⟩
  rw [← List.map_drop, List.zip_map]
  intro p hp
  obtain ⟨q, hq, rfl⟩ := List.mem_map.mp hp
  exact of_decide_eq_true (List.all_eq_true.mp h.2 q hq)
theorem wd_seven {c : Int} (hc : 0 ≤ c ∧ c < 7) : clashT (wkT c) [(2001, 1, 1), (2001, 1, 2), (2001, 1, 3), (2001, 1, 4), (2001, 1, 5), (2001, 1, 6), (2001, 1, 7), (2001, 1, 8)] = some ((2001, 1, 1), (2001, 1, 8)) := by
  have : ∀ i < 7, clashT (wkT ((i : Nat) : Int)) [(2001, 1, 1), (2001, 1, 2), (2001, 1, 3), (2001, 1, 4), (2001, 1, 5), (2001, 1, 6), (2001, 1, 7), (2001, 1, 8)] = some ((2001, 1, 1), (2001, 1, 8)) := by decide +kernel
  have := this c.toNat (by omega)
  rwa [Int.toNat_of_nonneg hc.1] at this
theorem wd_eight {c : Int} (hc : 0 ≤ c ∧ c < 7) : clashT (wkT c) [(2000, 1, 1), (2000, 1, 2), (2000, 1, 3), (2000, 1, 4), (2000, 1, 5), (2000, 1, 6), (2000, 1, 7), (2000, 1, 8)] = some ((2000, 1, 1), (2000, 1, 8)) := by
  have : ∀ i < 7, clashT (wkT ((i : Nat) : Int)) [(2000, 1, 1), (2000, 1, 2), (2000, 1, 3), (2000, 1, 4), (2000, 1, 5), (2000, 1, 6), (2000, 1, 7), (2000, 1, 8)] = some ((2000, 1, 1), (2000, 1, 8)) := by decide +kernel
  have := this c.toNat (by omega)
  rwa [Int.toNat_of_nonneg hc.1] at this
theorem clash_front {w : Date → Txt} {l : List Date} {p : Date × Date} (h : clashT w l = some p) (r : List Date) : clashT w (l ++ r) = some p := by
  unfold clashT at h ⊢
  rw [clashG_app, h]
  rfl
theorem k_clash_WD (y : Int) : clashT (writtenT [[87, 68]]) (datesIn y y) = some ((y, 1, 1), (y, 1, 8)) := by
  rw [dates_rep y, clashT_rel (v := wkT (wkC y)) fun x hx z hz => by rw [wr_cons, wr_nil, wr_cons, wr_nil, List.append_nil, List.append_nil, wdOf_c y hx, wdOf_c y hz]]
  have := rep_all (P := fun r => clashT (wkT (wkC y)) (datesIn r r) = some ((r, 1, 1), (r, 1, 8))) (clash_front (l := [(2000, 1, 1), (2000, 1, 2), (2000, 1, 3), (2000, 1, 4), (2000, 1, 5), (2000, 1, 6), (2000, 1, 7), (2000, 1, 8)]) (wd_eight (wkC_at y)) ((datesIn 2000 2000).drop 8)) (clash_front (l := [(2001, 1, 1), (2001, 1, 2), (2001, 1, 3), (2001, 1, 4), (2001, 1, 5), (2001, 1, 6), (2001, 1, 7), (2001, 1, 8)]) (wd_seven (wkC_at y)) ((datesIn 2001 2001).drop 8)) y
  rw [this]
  rfl
end PyI
set_option autoImplicit false
set_option linter.all false
set_option Elab.async false
set_option maxRecDepth 100000
set_option maxHeartbeats 4000000
namespace PyI
local macro_rules | `(tactic| walk_at "wp") => `(tactic| simp only [e_var, e_glb, e_int, e_str, e_bl, e_non, e_bin, e_cmp, e_chain, e_neg, e_and, e_or, e_not, e_ite, e_tup, e_lst, e_dic0, e_sub, e_slice, wo_nil, wo_int, wo_var, wo_bin, wo_neg, wo_blt, wo_call, wo_sub, e_lrg, e_lng, e_rev, e_call, e_blt, e_meth, e_comp, e_fld, e_newc, e_mcl, e_lenc, e_orv, e_selc, a_nil, a_cons,
  s_pass, s_seq, s_nm, s_tp, s_par, s_aug, s_setsub, s_augsub, s_ex, s_ret, s_retn, s_ite, s_whl, s_for, s_brk, s_cnt, s_rse, s_tri, s_setfld,
  b_add, b_adds, b_addr, b_addt, b_sub, b_mul, b_mulr, b_muls, b_mult, b_div, b_mod, b_pow, c_eq, c_eqs, c_eqr, c_eqt, c_eqn, c_ne, c_nes, c_ner, c_net, c_nen, c_lt, c_le, c_gt, c_ge, c_ltt, c_let, c_gtt, c_get, c_lts, c_les, c_gts, c_ges, c_isbb, c_isnn, c_isbn, c_isin, c_issn, c_istn, c_isrn, c_nsbb, c_nsnn, c_nsbn, c_nsin, c_nssn, c_nstn, c_nsrn,
  c_int, c_ins, c_inr, c_nit, c_nis, c_nir, n_int, i_tup, i_str, i_ref, i_dic, k_str, k_tup, k_ref, v_ref, v_tup, l_minD, l_maxD, l_min, l_max, z_vals, z_keys, z_enmt, z_zip3, l_lens, l_lent, l_lenr, l_str, l_int, l_dictP, l_isSeq_t, l_isSeq_r, l_isTup_r, l_isTup_i, l_tuplet, l_tupler, l_listt, l_listr, l_sum, l_all, l_any, l_isInt_i, l_isBool_i, l_isStr_s, l_isTup_t,
  m_starts, m_ins, m_split, m_part, m_popAt, y_popAt, y_ins, y_starts, y_split, y_part, m_app, m_ext, m_pop, m_join, m_alpha, m_sidx, m_get, m_setd, y_app, y_ext, y_pop, y_get, y_setd, y_str, y_alpha, y_sidx, t_bl, o_int, z_tup, z_ref, z_str, z_rng1, z_rng2, z_rng3, z_enm, z_zipt, z_zipr, w_ri, w_rs,
  at_0, at_1, at_2, at_3, gv_0, gv_s, sa_0, sa_s, st_nm, st_tp, wi_0, wi_s, st_0, st_s, st_n, wpB, List.set_cons_zero, List.set_cons_succ, Option.some.injEq, exists_eq_left', true_and, Bool.not_true, Bool.not_false, if_true, if_false, Bool.false_eq_true, exists_const, PV.ref.injEq, PV.str.injEq, PV.int.injEq, List.length_cons, List.length_nil])
/-! ### comparing answers that are alike -/
def goodB (ps : List Txt) : Bool := decide (ps.length ≤ 1000 ∧ ∀ p ∈ ps, p.length ≤ 1000) && patB ps
theorem good_by {ps : List Txt} (h : goodB ps = true) : goodPat ps := by
  unfold goodB at h
  rw [Bool.and_eq_true, decide_eq_true_iff] at h
  exact h
theorem mark_of {c : Nat} (h : c ∈ ([47, 45, 46, 32, 58] : List Nat)) : markB c = true ∧ goodPat (firstP c) ∧ goodPat (secondP c) := by
  simp only [List.mem_cons, List.not_mem_nil, or_false] at h
  rcases h with rfl | rfl | rfl | rfl | rfl <;> exact ⟨by decide, good_by (by decide +kernel), good_by (by decide +kernel)⟩
theorem ne_same {S : Store} {x : List PV} {d : Dt} {K : PQ} (h : Dn S 60 (.tup x) d) (q : K (.bl false) S) : cmpop .ne (.tup x) (.tup x) S K := by
  show ∃ d e, Dn S 60 (.tup x) d ∧ Dn S 60 (.tup x) e ∧ K (.bl (!d.eqv e)) S
  refine ⟨_, _, h, h, ?_⟩
  rw [eqv_refl]; exact q
theorem eq_same {S : Store} {x : List PV} {d : Dt} {K : PQ} (h : Dn S 60 (.tup x) d) (q : K (.bl true) S) : cmpop .eq (.tup x) (.tup x) S K := by
  show ∃ d e, Dn S 60 (.tup x) d ∧ Dn S 60 (.tup x) e ∧ K (.bl (d.eqv e)) S
  refine ⟨_, _, h, h, ?_⟩
  rw [eqv_refl]; exact q
theorem ne_pr {S : Store} {p : Date × Date} {K : PQ} (q : K (.bl false) S) : cmpop .ne (pairV (some p)) (.tup [dV p.1, dV p.2]) S K := ne_same (dn_pair (some p)) q
theorem eq_pr {S : Store} {p : Date × Date} {K : PQ} (q : K (.bl true) S) : cmpop .eq (pairV (some p)) (.tup [dV p.1, dV p.2]) S K := eq_same (dn_pair (some p)) q
theorem ne_dt {S : Store} {d : Date} {K : PQ} (q : K (.bl false) S) : cmpop .ne (optV (some d)) (dV d) S K := ne_same (dn_opt (some d)) q
theorem ne_lst {S : Store} {n m : Nat} {l : List PV} {d : List Dt} {K : PQ} (h1 : getL S n = some l) (h2 : getL S m = some l) (hd : DnL S 59 l d) (q : K (.bl false) S) : cmpop .ne (.ref n) (.ref m) S K := by
  show ∃ d e, Dn S 60 (.ref n) d ∧ Dn S 60 (.ref m) e ∧ K (.bl (!d.eqv e)) S
  refine ⟨_, _, .lst h1 hd, .lst h2 hd, ?_⟩
  rw [eqv_refl]; exact q
theorem tst_bl {f : Bool → Store → Prop} {b : Bool} {S : Store} (h : f b S) : tst f (.bl b) S := h
end PyI
set_option autoImplicit false
set_option linter.all false
set_option Elab.async false
set_option maxRecDepth 100000
set_option maxHeartbeats 4000000
namespace PyI
local macro_rules | `(tactic| walk_at "wp") => `(tactic| simp only [e_var, e_glb, e_int, e_str, e_bl, e_non, e_bin, e_cmp, e_chain, e_neg, e_and, e_or, e_not, e_ite, e_tup, e_lst, e_dic0, e_sub, e_slice, wo_nil, wo_int, wo_var, wo_bin, wo_neg, wo_blt, wo_call, wo_sub, e_lrg, e_lng, e_rev, e_call, e_blt, e_meth, e_comp, e_fld, e_newc, e_mcl, e_lenc, e_orv, e_selc, a_nil, a_cons,
  s_pass, s_seq, s_nm, s_tp, s_par, s_aug, s_setsub, s_augsub, s_ex, s_ret, s_retn, s_ite, s_whl, s_for, s_brk, s_cnt, s_rse, s_tri, s_setfld,
  b_add, b_adds, b_addr, b_addt, b_sub, b_mul, b_mulr, b_muls, b_mult, b_div, b_mod, b_pow, c_eq, c_eqs, c_eqr, c_eqt, c_eqn, c_ne, c_nes, c_ner, c_net, c_nen, c_lt, c_le, c_gt, c_ge, c_ltt, c_let, c_gtt, c_get, c_lts, c_les, c_gts, c_ges, c_isbb, c_isnn, c_isbn, c_isin, c_issn, c_istn, c_isrn, c_nsbb, c_nsnn, c_nsbn, c_nsin, c_nssn, c_nstn, c_nsrn,
  c_int, c_ins, c_inr, c_nit, c_nis, c_nir, n_int, i_tup, i_str, i_ref, i_dic, k_str, k_tup, k_ref, v_ref, v_tup, l_minD, l_maxD, l_min, l_max, z_vals, z_keys, z_enmt, z_zip3, l_lens, l_lent, l_lenr, l_str, l_int, l_dictP, l_isSeq_t, l_isSeq_r, l_isTup_r, l_isTup_i, l_tuplet, l_tupler, l_listt, l_listr, l_sum, l_all, l_any, l_isInt_i, l_isBool_i, l_isStr_s, l_isTup_t,
  m_starts, m_ins, m_split, m_part, m_popAt, y_popAt, y_ins, y_starts, y_split, y_part, m_app, m_ext, m_pop, m_join, m_alpha, m_sidx, m_get, m_setd, y_app, y_ext, y_pop, y_get, y_setd, y_str, y_alpha, y_sidx, t_bl, o_int, z_tup, z_ref, z_str, z_rng1, z_rng2, z_rng3, z_enm, z_zipt, z_zipr, w_ri, w_rs,
  at_0, at_1, at_2, at_3, gv_0, gv_s, sa_0, sa_s, st_nm, st_tp, wi_0, wi_s, st_0, st_s, st_n, wpB, List.set_cons_zero, List.set_cons_succ, Option.some.injEq, exists_eq_left', true_and, Bool.not_true, Bool.not_false, if_true, if_false, Bool.false_eq_true, exists_const, PV.ref.injEq, PV.str.injEq, PV.int.injEq, List.length_cons, List.length_nil])
def ct_orders : Ct := fun vs S Q _ => ∃ (y : Int) (c : Nat), vs = [.int y, .str [c]] ∧ (1600 ≤ y ∧ y ≤ 2399) ∧ c ∈ ([47, 45, 46, 32, 58] : List Nat) ∧ ∀ S', Ext S S' → Q (.bl true) S'
theorem zipW_dates : ∀ a b : List Date, zipW (a.map dV) (b.map dV) = (a.zip b).map fun p => .tup [dV p.1, dV p.2]
  | [], _ => rfl
  | _ :: _, [] => rfl
  | x :: a, y :: b => by
    rw [List.map_cons, List.map_cons, List.zip_cons_cons, List.map_cons, ← zipW_dates a b]
    rfl
def wkV : PV → PV
  | .tup [.tup [_, _, .int i], .tup [_, _, .int j]] => .bl (decide (i + 7 = j))
  | _ => .non
section
variable {Γ : Sig} (C : Hlp Γ)
include C
theorem p_law_orders_k11 (h25 : Γ.ct 25 = ct_clash) (h26 : Γ.ct 26 = ct_unsorted) (h27 : Γ.ct 27 = ct_widths) (h35 : Γ.ct 35 = ct_confused) (h40 : Γ.ct 40 = ct_telling) : ∀ vs S Q R, ct_orders vs S Q R → wpB Γ 6 b_law_orders_k11 vs S Q R := by
  rintro vs S Q R ⟨y, c, rfl, hy, hc, q⟩
  obtain ⟨hm, g1, g2⟩ := mark_of hc
  have hs := span_one hy
  unfold b_law_orders_k11
  walk_at "wp"
  rw [h35]
  refine ⟨firstP c, secondP c, y, y, rfl, hs, g1, g2, fun S1 e1 => ?_⟩
  rw [k_conf hy hm]
  refine ne_pr ?_
  walk_at "wp"
  rw [h40]
  refine ⟨[firstP c, secondP c], y, y, rfl, ⟨by simp, by simp, fun p hp => ?_⟩, hs, fun S2 e2 => ?_⟩
  · rcases List.mem_cons.mp hp with rfl | hp
    · exact g1
    · rw [List.mem_singleton.mp hp]; exact g2
  rw [k_tell hy hm]
  refine ne_dt ?_
  walk_at "wp"
  refine ⟨secondP c, firstP c, y, y, rfl, hs, g2, g1, fun S3 e3 => ?_⟩
  rw [k_conf2 hy hm]
  refine ne_pr ?_
  walk_at "wp"
  refine ⟨firstP c, firstP c, y, y, rfl, hs, g1, g1, fun S4 e4 => ?_⟩
  rw [k_conf1 hy hm]
  walk_at "wp"
  rw [show pairV none = PV.non from rfl]
  walk_at "wp"
  rw [h26]
  refine ⟨firstP c, y, y, rfl, hs, g1, fun S5 e5 => ?_⟩
  rw [k_uns1 hy hm]
  refine ne_dt ?_
  walk_at "wp"
  refine ⟨secondP c, y, y, rfl, hs, g2, fun S6 e6 => ?_⟩
  rw [k_uns2 hy hm]
  refine ne_dt ?_
  walk_at "wp"
  refine comp_map (fun _ => .non) (fun _ _ => trivial) (by show 2 < big; decide) (fun x S' hx ex => ?_) fun S7 e7 h7 => ?_
  · refine ⟨_, rfl, fun Q1 q1 => ?_⟩
    have hx : x = strV (firstP c) ∨ x = strV (secondP c) := by
      rcases List.mem_cons.mp hx with h | h
      · exact .inl h
      · exact .inr (List.mem_singleton.mp h)
    walk_at "wp"
    rw [h25]
    rcases hx with rfl | rfl
    · refine ⟨firstP c, y, y, rfl, hs, g1, fun S8 e8 => ?_⟩
      rw [k_clash1 hy hm]
      exact q1 _ e8
    · refine ⟨secondP c, y, y, rfl, hs, g2, fun S8 e8 => ?_⟩
      rw [k_clash2 hy hm]
      exact q1 _ e8
  walk_at "wp"
  refine ⟨_, _, .lst (getL_lst (Ext.new _ _ h7)) (.cons .non (.cons .non .nil)), .lst (getL_lst new_at) (.cons .non (.cons .non .nil)), ?_⟩
  rw [eqv_refl]
  walk_at "wp"
  rw [h27]
  refine ⟨firstP c, y, y, rfl, hs, g1, fun S9 m n e9 w1 w2 w3 w4 => ?_⟩
  obtain ⟨rfl, rfl⟩ := k_width hy hm w1 w2 w3 w4
  exact eq_same (.tup (.cons (.int _) (.cons (.int _) .nil))) (q _ (((((((e1.trans e2).trans e3).trans e4).trans e5).trans e6).trans e7).trans (Ext.new.trans e9)))
section
variable (h25 : Γ.ct 25 = ct_clash) (h26 : Γ.ct 26 = ct_unsorted) (h30 : Γ.ct 30 = ct_bars) (h34 : Γ.ct 34 = ct_misread)
variable {y : Int} (hy : 1600 ≤ y ∧ y ≤ 2399) {Q : PQ} {R : PR} (q : ∀ S', Q (.bl true) S') {x0 x1 x4 x5 x6 x7 x8 : Option PV}
include h25 h26 h30 h34 hy q
theorem k11_t18 (S : Store) : wpS Γ b_law_k11_t18 [x0, x1, some (.int y), some (.tup [.int y, .int y]), x4, x5, x6, x7, x8] S ⟨fun _ S' => Q .non S', Q, fun _ _ => False, fun _ _ => False, R⟩ := by
  have hs := span_one hy
  unfold b_law_k11_t18
  walk_at "wp"
  rw [C.readings]
  refine ⟨[[87, 68], [77, 79, 78]], y, y, [115, 97, 116, 102, 101, 98], rfl, hs, good_by (by decide +kernel), fun S1 n e1 hn g1 => ?_⟩
  rw [k_week y] at g1
  obtain ⟨w1, w2⟩ := week_len y
  generalize (wkMON (wkC y) (datesIn (repY y) (repY y))).map (onY y) = l at *
  walk_at "wp"
  refine .inl ⟨_, getL_lst g1, ?_⟩
  have hin : inP (.int ((l.map dV).length : Nat)) [.int 4, .int 5] = true := by
    rw [List.length_map]
    rcases w1 with e | e <;> rw [e] <;> rfl
  rw [hin]
  refine ⟨rfl, rfl, ?_⟩
  rw [if_neg (by decide)]
  refine ⟨_, getL_lst g1, _, _, getL_lst (Ext.new _ _ g1), getL_lst new_at, ?_⟩
  rw [cut_one, ← List.map_drop, zipW_dates]
  refine comp_map wkV (fun S' e' => ⟨getL_lst (e' _ _ (Ext.new _ _ g1)), getL_lst (e' _ _ new_at)⟩) (by rw [List.length_map, List.length_zip]; unfold big; omega) (fun x S' hx ex => ?_) fun S2 e2 g2 => ?_
  · obtain ⟨p, hp, rfl⟩ := List.mem_map.mp hx
    refine ⟨_, rfl, fun Q1 q1 => ?_⟩
    unfold dV
    walk_at "wp"
    exact q1 _ Ext.refl
  have hall : ((l.zip (l.drop 1)).map fun p => (.tup [dV p.1, dV p.2] : PV)).map wkV = ((l.zip (l.drop 1)).map fun _ => true).map PV.bl := by
    rw [List.map_map, List.map_map]
    apply List.map_congr_left
    intro p hp
    show PV.bl (decide (p.1.2.2 + 7 = p.2.2.2)) = .bl true
    rw [decide_eq_true (w2 p hp)]
  rw [hall] at g2
  walk_at "wp"
  refine ⟨_, getL_lst g2, ?_⟩
  rw [show ((l.zip (l.drop 1)).map fun _ => true).all id = true by rw [List.all_map]; simp]
  walk_at "wp"
  rw [h25]
  refine ⟨[[87, 68]], y, y, rfl, hs, good_by (by decide +kernel), fun S3 e3 => ?_⟩
  rw [k_clash_WD y]
  exact eq_pr (q _)
theorem k11_t15 (S : Store) : wpS Γ b_law_k11_t15 [x0, x1, some (.int y), some (.tup [.int y, .int y]), some (.bl (isLong y)), x5, x6, x7, x8] S ⟨fun _ S' => Q .non S', Q, fun _ _ => False, fun _ _ => False, R⟩ := by
  have hs := span_one hy
  unfold b_law_k11_t15
  walk_at "wp"
  rw [C.readings]
  refine ⟨[[74, 74, 74]], y, y, [51, 54, 54], rfl, hs, good_by (by decide +kernel), fun S1 n e1 hn g1 => ?_⟩
  rw [k_JJJ y] at g1
  walk_at "wp"
  have fin : ∀ (S2 S3 : Store) (n2 : Nat) {x4 : Option PV} {l : List PV} {d : List Dt} {x}, S2[n2]? = some (.lst l) → DnL (S2 ++ [.lst l]) 59 l d → cmpop .ne (.ref n2) (.ref S2.length) (S2 ++ [.lst l]) (tst fun k S1 => if k = true then Q (.bl false) S1 else
      wpS Γ b_law_k11_t18 [x0, x1, some (.int y), some (.tup [.int y, .int y]), x4, x, x6, x7, x8] S1 ⟨fun _ S' => Q .non S', Q, fun _ _ => False, fun _ _ => False, R⟩) := by
    intro S2 S3 n2 x4 l d x h1 hd
    exact ne_lst (getL_lst (Ext.new _ _ h1)) (getL_lst new_at) hd (tst_bl (by rw [if_neg (by decide)]; exact k11_t18 C h25 h26 h30 h34 hy q _))
  cases hl : isLong y with
  | true =>
    rw [hl] at g1
    simp only [if_true]
    refine ⟨_, _, .lst (getL_lst (Ext.new _ _ g1)) (dn_dates [(y, 12, 31)]), .lst (getL_lst new_at) (dn_dates [(y, 12, 31)]), ?_⟩
    rw [eqv_refl, if_neg (by decide)]
    refine ⟨[[68, 68], [77, 79, 78]], y, y, [50, 57, 102, 101, 98], rfl, hs, good_by (by decide +kernel), fun S3 n3 e3 hn3 g3 => ?_⟩
    rw [k_DDMON y, hl] at g3
    exact fin S3 S3 n3 g3 (dn_dates [(y, 2, 29)])
  | false =>
    rw [hl] at g1
    simp only [Bool.false_eq_true, if_false]
    refine ⟨_, _, .lst (getL_lst (Ext.new _ _ g1)) (dn_dates []), .lst (getL_lst new_at) (dn_dates []), ?_⟩
    rw [eqv_refl, if_neg (by decide)]
    refine ⟨[[68, 68], [77, 79, 78]], y, y, [50, 57, 102, 101, 98], rfl, hs, good_by (by decide +kernel), fun S3 n3 e3 hn3 g3 => ?_⟩
    rw [k_DDMON y, hl] at g3
    exact fin S3 S3 n3 g3 (dn_dates [])
theorem k11_t13 (S : Store) : wpS Γ b_law_k11_t13 [x0, x1, some (.int y), some (.tup [.int y, .int y]), some (.bl (isLong y)), x5, x6, x7, x8] S ⟨fun _ S' => Q .non S', Q, fun _ _ => False, fun _ _ => False, R⟩ := by
  have hs := span_one hy
  unfold b_law_k11_t13
  walk_at "wp"
  rw [h30]
  refine ⟨[[68], [77]], y, y, rfl, hs, good_by (by decide +kernel), fun h => (by rw [k_bars_DM hy] at h; cases h), fun l h S1 n e1 hn g1 => ?_⟩
  rw [k_bars_DM hy] at h
  obtain rfl := Option.some.inj h
  refine ne_lst (getL_lst (Ext.new _ _ g1)) (getL_lst new_at) (dn_nats [0]) (tst_bl ?_)
  walk_at "wp"
  refine ⟨[[89, 89, 89, 89], [77], [68]], y, y, rfl, hs, good_by (by decide +kernel), fun h => (by rw [k_bars_YMD hy] at h; cases h), fun l h S2 n2 e2 hn2 g2 => ?_⟩
  rw [k_bars_YMD hy] at h
  obtain rfl := Option.some.inj h
  refine ne_lst (getL_lst (Ext.new _ _ g2)) (getL_lst new_at) (dn_nats [1]) (tst_bl ?_)
  walk_at "wp"
  refine ⟨[[68, 68], [89, 89]], y, y, rfl, hs, good_by (by decide +kernel), fun h S3 e3 => ?_, fun l h => by rw [k_bars_DY hy] at h; cases h⟩
  walk_at "wp"
  exact k11_t15 C h25 h26 h30 h34 hy q _
theorem k11_t11 (S : Store) : wpS Γ b_law_k11_t11 [x0, x1, some (.int y), some (.tup [.int y, .int y]), some (.bl (isLong y)), x5, x6, x7, x8] S ⟨fun _ S' => Q .non S', Q, fun _ _ => False, fun _ _ => False, R⟩ := by
  have hs := span_one hy
  unfold b_law_k11_t11
  walk_at "wp"
  rw [h34]
  refine ⟨[[68], [77]], y, y, rfl, hs, good_by (by decide +kernel), fun S1 e1 => ?_⟩
  rw [k_mis_DM y]
  refine ne_dt (tst_bl ?_)
  walk_at "wp"
  refine ⟨[[68, 68], [77, 77], [89, 89]], y, y, rfl, hs, good_by (by decide +kernel), fun S2 e2 => ?_⟩
  rw [k_mis_DMY hy, show optV none = PV.non from rfl]
  walk_at "wp"
  refine ⟨[[74], [89, 89, 89, 89]], y, y, rfl, hs, good_by (by decide +kernel), fun S3 e3 => ?_⟩
  rw [k_mis_JY hy]
  refine ne_dt (tst_bl ?_)
  walk_at "wp"
  exact k11_t13 C h25 h26 h30 h34 hy q _
theorem k11_t8 (S : Store) : wpS Γ b_law_k11_t8 [x0, x1, some (.int y), some (.tup [.int y, .int y]), some (.bl (isLong y)), x5, x6, x7, x8] S ⟨fun _ S' => Q .non S', Q, fun _ _ => False, fun _ _ => False, R⟩ := by
  have hs := span_one hy
  unfold b_law_k11_t8
  walk_at "wp"
  rw [h26]
  refine ⟨[[77, 77], [68, 68]], y, y, rfl, hs, good_by (by decide +kernel), fun S1 e1 => ?_⟩
  rw [k_uns_MMDD y, show optV none = PV.non from rfl]
  walk_at "wp"
  refine ⟨[[89, 89, 89, 89], [74, 74, 74]], y, y, rfl, hs, good_by (by decide +kernel), fun S2 e2 => ?_⟩
  rw [k_uns_YJ y, show optV none = PV.non from rfl]
  walk_at "wp"
  refine ⟨[[74]], y, y, rfl, hs, good_by (by decide +kernel), fun S3 e3 => ?_⟩
  rw [k_uns_J y]
  refine ne_dt (tst_bl ?_)
  walk_at "wp"
  refine ⟨[[77, 79, 78], [68, 68]], y, y, rfl, hs, good_by (by decide +kernel), fun S4 e4 => ?_⟩
  rw [k_uns_MONDD y]
  refine ne_dt (tst_bl ?_)
  walk_at "wp"
  refine ⟨[[68, 68], [77, 77]], y, y, rfl, hs, good_by (by decide +kernel), fun S5 e5 => ?_⟩
  rw [k_uns_DDMM y]
  refine ne_dt (tst_bl ?_)
  walk_at "wp"
  exact k11_t11 C h25 h26 h30 h34 hy q _
theorem k11_t6 (S : Store) : wpS Γ b_law_k11_t6 [x0, x1, some (.int y), some (.tup [.int y, .int y]), some (.bl (isLong y)), x5, x6, x7, x8] S ⟨fun _ S' => Q .non S', Q, fun _ _ => False, fun _ _ => False, R⟩ := by
  have hs := span_one hy
  unfold b_law_k11_t6
  walk_at "wp"
  rw [h25]
  refine ⟨[[68, 68], [77]], y, y, rfl, hs, good_by (by decide +kernel), fun S1 e1 => ?_⟩
  rw [k_clash_DDM y, show pairV none = PV.non from rfl]
  walk_at "wp"
  refine ⟨[[77, 77], [68]], y, y, rfl, hs, good_by (by decide +kernel), fun S2 e2 => ?_⟩
  rw [k_clash_MMD y, show pairV none = PV.non from rfl]
  walk_at "wp"
  refine ⟨[[68], [77, 79, 78]], y, y, rfl, hs, good_by (by decide +kernel), fun S3 e3 => ?_⟩
  rw [k_clash_DMON y, show pairV none = PV.non from rfl]
  walk_at "wp"
  exact k11_t8 C h25 h26 h30 h34 hy q _
theorem k11_t4 (S : Store) : wpS Γ b_law_k11_t4 [x0, x1, some (.int y), some (.tup [.int y, .int y]), some (.bl (isLong y)), x5, x6, x7, x8] S ⟨fun _ S' => Q .non S', Q, fun _ _ => False, fun _ _ => False, R⟩ := by
  have hs := span_one hy
  unfold b_law_k11_t4
  walk_at "wp"
  rw [h25]
  refine ⟨[[68], [77]], y, y, rfl, hs, good_by (by decide +kernel), fun S1 e1 => ?_⟩
  rw [k_clash_DM y]
  refine ne_pr (tst_bl ?_)
  walk_at "wp"
  refine ⟨[[77], [68]], y, y, rfl, hs, good_by (by decide +kernel), fun S2 e2 => ?_⟩
  rw [k_clash_MD y]
  refine ne_pr (tst_bl ?_)
  walk_at "wp"
  exact k11_t6 C h25 h26 h30 h34 hy q _
omit hy in
theorem k11_t2 (h200 : Γ.ct 200 = ct_orders) {y : Int} (hy : 1600 ≤ y ∧ y ≤ 2399) (S : Store) (t : TW S 0 1) : wpS Γ b_law_k11_t2 [some (.ref 0), some (.ref 1), some (.int y), none, none, none, none, none, none] S ⟨fun _ S' => Q .non S', Q, fun _ _ => False, fun _ _ => False, R⟩ := by
  have hs := span_one hy
  unfold b_law_k11_t2
  walk_at "wp"
  rw [C.rows]
  refine ⟨y, y, rfl, hs, fun S1 n e1 hn g1 => ?_⟩
  walk_at "wp"
  refine .inl ⟨_, getL_lst g1, ?_⟩
  rw [List.length_map, show decide (((datesIn y y).length : Int) = 366) = isLong y by
    rw [k_len]
    cases isLong y <;> rfl]
  rw [C.pick]
  have t1 := t.ext e1
  refine ⟨0, 1, _, _, rfl, t1.ext Ext.new, ⟨by have := t1.lt; omega, getL_lst new_at⟩, by show 0 < 4; decide, by show 4 < _; decide, fun S3 x e3 t3 hx => ?_⟩
  have hx : ∃ c, x = .str [c] ∧ c ∈ ([47, 45, 46, 32, 58] : List Nat) := by
    have hx : x ∈ [PV.str [47], .str [45], .str [46], .str [32]] := hx
    simp only [List.mem_cons, List.not_mem_nil, or_false] at hx
    rcases hx with rfl | rfl | rfl | rfl <;> exact ⟨_, rfl, by decide⟩
  obtain ⟨c, rfl, hc⟩ := hx
  rw [h200]
  refine ⟨y, c, rfl, hy, hc, fun S4 e4 => ?_⟩
  walk_at "wp"
  exact k11_t4 C h25 h26 h30 h34 hy q _
end
theorem p_law_k11 (h25 : Γ.ct 25 = ct_clash) (h26 : Γ.ct 26 = ct_unsorted) (h30 : Γ.ct 30 = ct_bars) (h34 : Γ.ct 34 = ct_misread) (h200 : Γ.ct 200 = ct_orders) : ∀ vs S Q R, ctLaw 63 vs S Q R → wpB Γ 9 b_law_k11 vs S Q R := by
  rintro vs S Q R ⟨ns, rfl, rfl, hn, q⟩
  unfold b_law_k11
  walk_at "wp"
  rw [C.draw]
  refine ⟨0, 1, 800, rfl, tw_start ns hn, by decide, by decide, fun S1 r e1 t1 r0 r1 => ?_⟩
  walk_at "wp"
  exact k11_t2 C h25 h26 h30 h34 q h200 (by omega) _ t1
end
def G : Sig := ⟨fun n => match n with
  | 0 => ct_is_count | 1 => ct_is_long | 2 => ct_month_length | 3 => ct_is_date | 4 => ct_is_span | 5 => ct_need_date | 6 => ct_need_span | 7 => ct_place_in_year | 8 => ct_weekday_of | 9 => ct_weekday_of | 10 => ct_place_in_year | 11 => ct_dates_in | 12 => ct_dates_in
  | 13 => ct_is_literal | 14 => ct_is_pattern | 15 => ct_need_pattern | 16 => ct_need_text | 17 => ct_padded | 18 => ct_value_of | 19 => ct_piece | 20 => ct_written | 21 => ct_write | 22 => ct_table | 23 => ct_readings
  | 100 => ct_draw | 101 => ct_pick | 102 => ct_pattern | 103 => ct_span | 104 => ct_days | 105 => ct_rows | 106 => ct_lwd | 107 => ct_lwrite
  | 24 => ct_clash_of | 25 => ct_clash | 26 => ct_unsorted | 27 => ct_widths
  | 28 => ct_with_bars | 29 => ct_choices | 30 => ct_bars
  | 31 => ct_taken | 32 => ct_greedy_result | 33 => ct_greedy | 34 => ct_misread
  | 35 => ct_confused
  | 36 => ct_need_patterns | 37 => ct_fitting_of | 38 => ct_fitting | 39 => ct_is_telling | 40 => ct_telling
  | 60 => ct_rinit | 61 => ct_rfeed | 62 => ct_rcand | 63 => ct_ronly | 64 => ct_ronly | 65 => ct_runc | 66 => ct_rcopy | 67 => ct_rlen
  | 200 => ct_orders
  | 999 => ctLaw 63
  | _ => fun _ _ _ _ => False, glT⟩
theorem hH : Hlp G where
  gl := rfl
  is_count := rfl
  is_long := rfl
  month_length := rfl
  is_date := rfl
  is_span := rfl
  need_date := rfl
  need_span := rfl
  place_in_year := rfl
  weekday_of := rfl
  weekday := rfl
  day_of_year := rfl
  dates_in := rfl
  dates := rfl
  is_literal := rfl
  is_pattern := rfl
  need_pattern := rfl
  need_text := rfl
  padded := rfl
  value_of := rfl
  piece := rfl
  written := rfl
  write := rfl
  table := rfl
  readings := rfl
  draw := rfl
  pick := rfl
  pattern := rfl
  span := rfl
  days := rfl
  rows := rfl
  lwd := rfl
  lwrite := rfl

end PyI
set_option linter.all false
set_option maxRecDepth 100000
set_option maxHeartbeats 4000000
set_option Elab.async false
namespace PyI
open PySem PySem.Spec PyProof.Rows L2
def topS (i : Nat) : Stmt := PySem.Challenge.pw_datepattern_k11_whole_known_dates.main.body.getD i (.Pass ⟨0, 0, 0, 0⟩)
abbrev glsA : List (Str × Nat) := [(("FIRST" : Str), 0), (("LAST" : Str), 1), (("YEARS" : Str), 2), (("WEEKDAYS" : Str), 3), (("MONTHS" : Str), 4), (("FIELDS" : Str), 5), (("LITERAL" : Str), 6), (("PARTS" : Str), 7), (("DIGITS" : Str), 9), (("MOST" : Str), 8), (("LONGEST" : Str), 10)]
abbrev T0 : List (Str × (Nat × Nat)) := []
abbrev M0 : List (Str × (Nat × Nat)) := []
def inC (s : Stmt) (j : Nat) : Stmt := match s with
  | .ClassDef _ _ _ body _ _ _ _ _ _ _ => body.getD j (.Pass ⟨0, 0, 0, 0⟩)
  | s => s
abbrev M1 : List (Str × (Nat × Nat)) := M0
abbrev T1 : List (Str × (Nat × Nat)) := (("is_count" : Str), (0, 3)) :: T0
abbrev M2 : List (Str × (Nat × Nat)) := M1
abbrev T2 : List (Str × (Nat × Nat)) := (("is_long" : Str), (1, 1)) :: T1
abbrev M3 : List (Str × (Nat × Nat)) := M2
abbrev T3 : List (Str × (Nat × Nat)) := (("month_length" : Str), (2, 2)) :: T2
abbrev M4 : List (Str × (Nat × Nat)) := M3
abbrev T4 : List (Str × (Nat × Nat)) := (("is_span" : Str), (4, 1)) :: T3
abbrev M5 : List (Str × (Nat × Nat)) := M4
abbrev T5 : List (Str × (Nat × Nat)) := (("need_span" : Str), (6, 1)) :: T4
abbrev M6 : List (Str × (Nat × Nat)) := M5
abbrev T6 : List (Str × (Nat × Nat)) := (("place_in_year" : Str), (7, 1)) :: T5
abbrev M7 : List (Str × (Nat × Nat)) := M6
abbrev T7 : List (Str × (Nat × Nat)) := (("weekday_of" : Str), (8, 1)) :: T6
abbrev M8 : List (Str × (Nat × Nat)) := M7
abbrev T8 : List (Str × (Nat × Nat)) := (("dates_in" : Str), (11, 1)) :: T7
abbrev M9 : List (Str × (Nat × Nat)) := M8
abbrev T9 : List (Str × (Nat × Nat)) := (("is_literal" : Str), (13, 1)) :: T8
abbrev M10 : List (Str × (Nat × Nat)) := M9
abbrev T10 : List (Str × (Nat × Nat)) := (("is_pattern" : Str), (14, 1)) :: T9
abbrev M11 : List (Str × (Nat × Nat)) := M10
abbrev T11 : List (Str × (Nat × Nat)) := (("need_pattern" : Str), (15, 1)) :: T10
abbrev M12 : List (Str × (Nat × Nat)) := M11
abbrev T12 : List (Str × (Nat × Nat)) := (("need_text" : Str), (16, 1)) :: T11
abbrev M13 : List (Str × (Nat × Nat)) := M12
abbrev T13 : List (Str × (Nat × Nat)) := (("padded" : Str), (17, 2)) :: T12
abbrev M14 : List (Str × (Nat × Nat)) := M13
abbrev T14 : List (Str × (Nat × Nat)) := (("value_of" : Str), (18, 2)) :: T13
abbrev M15 : List (Str × (Nat × Nat)) := M14
abbrev T15 : List (Str × (Nat × Nat)) := (("piece" : Str), (19, 2)) :: T14
abbrev M16 : List (Str × (Nat × Nat)) := M15
abbrev T16 : List (Str × (Nat × Nat)) := (("written" : Str), (20, 2)) :: T15
abbrev M17 : List (Str × (Nat × Nat)) := M16
abbrev T17 : List (Str × (Nat × Nat)) := (("table" : Str), (22, 2)) :: T16
abbrev M18 : List (Str × (Nat × Nat)) := M17
abbrev T18 : List (Str × (Nat × Nat)) := (("readings" : Str), (23, 3)) :: T17
abbrev M19 : List (Str × (Nat × Nat)) := M18
abbrev T19 : List (Str × (Nat × Nat)) := (("clash_of" : Str), (24, 2)) :: T18
abbrev M20 : List (Str × (Nat × Nat)) := M19
abbrev T20 : List (Str × (Nat × Nat)) := (("clash" : Str), (25, 2)) :: T19
abbrev M21 : List (Str × (Nat × Nat)) := M20
abbrev T21 : List (Str × (Nat × Nat)) := (("unsorted" : Str), (26, 2)) :: T20
abbrev M22 : List (Str × (Nat × Nat)) := M21
abbrev T22 : List (Str × (Nat × Nat)) := (("widths" : Str), (27, 2)) :: T21
abbrev M23 : List (Str × (Nat × Nat)) := M22
abbrev T23 : List (Str × (Nat × Nat)) := (("with_bars" : Str), (28, 2)) :: T22
abbrev M24 : List (Str × (Nat × Nat)) := M23
abbrev T24 : List (Str × (Nat × Nat)) := (("choices" : Str), (29, 3)) :: T23
abbrev M25 : List (Str × (Nat × Nat)) := M24
abbrev T25 : List (Str × (Nat × Nat)) := (("bars" : Str), (30, 2)) :: T24
abbrev M26 : List (Str × (Nat × Nat)) := M25
abbrev T26 : List (Str × (Nat × Nat)) := (("taken" : Str), (31, 3)) :: T25
abbrev M27 : List (Str × (Nat × Nat)) := M26
abbrev T27 : List (Str × (Nat × Nat)) := (("greedy_result" : Str), (32, 2)) :: T26
abbrev M28 : List (Str × (Nat × Nat)) := M27
abbrev T28 : List (Str × (Nat × Nat)) := (("misread" : Str), (34, 2)) :: T27
abbrev M29 : List (Str × (Nat × Nat)) := M28
abbrev T29 : List (Str × (Nat × Nat)) := (("confused" : Str), (35, 3)) :: T28
abbrev M30 : List (Str × (Nat × Nat)) := M29
abbrev T30 : List (Str × (Nat × Nat)) := (("need_patterns" : Str), (36, 1)) :: T29
abbrev M31 : List (Str × (Nat × Nat)) := M30
abbrev T31 : List (Str × (Nat × Nat)) := (("is_telling" : Str), (39, 3)) :: T30
abbrev M32 : List (Str × (Nat × Nat)) := M31
abbrev T32 : List (Str × (Nat × Nat)) := (("telling" : Str), (40, 2)) :: T31
abbrev M33 : List (Str × (Nat × Nat)) := M32
abbrev T33 : List (Str × (Nat × Nat)) := (("_law_draw" : Str), (100, 3)) :: T32
abbrev M34 : List (Str × (Nat × Nat)) := M33
abbrev T34 : List (Str × (Nat × Nat)) := (("_law_pick" : Str), (101, 3)) :: T33
abbrev M35 : List (Str × (Nat × Nat)) := M34
abbrev T35 : List (Str × (Nat × Nat)) := (("_law_days" : Str), (104, 1)) :: T34
abbrev M36 : List (Str × (Nat × Nat)) := M35
abbrev T36 : List (Str × (Nat × Nat)) := (("_law_dates" : Str), (105, 1)) :: T35
abbrev M37 : List (Str × (Nat × Nat)) := M36
abbrev T37 : List (Str × (Nat × Nat)) := (("_law_orders" : Str), (200, 2)) :: T36
abbrev M38 : List (Str × (Nat × Nat)) := M37
abbrev T38 : List (Str × (Nat × Nat)) := (("law" : Str), (999, 1)) :: T37
abbrev s_is_count : Stmt := topS 11
def n_is_count : List Str := [("value" : Str), ("least" : Str), ("most" : Str)]
theorem sc_is_count : FnScope n_is_count [("value" : Str), ("least" : Str), ("most" : Str)] (defScope s_is_count) := ⟨rfl, rfl, rfl, by decide +kernel, rfl, by decide +kernel, by decide +kernel⟩
theorem ck_is_count : chkB ⟨n_is_count, T0, glsA, M0⟩ (defScope s_is_count) b_is_count (defBody s_is_count) = true := by decide +kernel
abbrev s_is_long : Stmt := topS 12
def n_is_long : List Str := [("year" : Str)]
theorem sc_is_long : FnScope n_is_long [("year" : Str)] (defScope s_is_long) := ⟨rfl, rfl, rfl, by decide +kernel, rfl, by decide +kernel, by decide +kernel⟩
theorem ck_is_long : chkB ⟨n_is_long, T1, glsA, M1⟩ (defScope s_is_long) b_is_long (defBody s_is_long) = true := by decide +kernel
abbrev s_month_length : Stmt := topS 13
def n_month_length : List Str := [("year" : Str), ("month" : Str)]
theorem sc_month_length : FnScope n_month_length [("year" : Str), ("month" : Str)] (defScope s_month_length) := ⟨rfl, rfl, rfl, by decide +kernel, rfl, by decide +kernel, by decide +kernel⟩
theorem ck_month_length : chkB ⟨n_month_length, T2, glsA, M2⟩ (defScope s_month_length) b_month_length (defBody s_month_length) = true := by decide +kernel
abbrev s_is_span : Stmt := topS 14
def n_is_span : List Str := [("value" : Str), ("year" : Str)]
theorem sc_is_span : FnScope n_is_span [("value" : Str)] (defScope s_is_span) := ⟨rfl, rfl, rfl, by decide +kernel, rfl, by decide +kernel, by decide +kernel⟩
theorem ck_is_span : chkB ⟨n_is_span, T3, glsA, M3⟩ (defScope s_is_span) b_is_span (defBody s_is_span) = true := by decide +kernel
abbrev s_need_span : Stmt := topS 15
def n_need_span : List Str := [("value" : Str)]
theorem sc_need_span : FnScope n_need_span [("value" : Str)] (defScope s_need_span) := ⟨rfl, rfl, rfl, by decide +kernel, rfl, by decide +kernel, by decide +kernel⟩
theorem ck_need_span : chkB ⟨n_need_span, T4, glsA, M4⟩ (defScope s_need_span) b_need_span (defBody s_need_span) = true := by decide +kernel
abbrev s_place_in_year : Stmt := topS 16
def n_place_in_year : List Str := [("date" : Str), ("month" : Str)]
theorem sc_place_in_year : FnScope n_place_in_year [("date" : Str)] (defScope s_place_in_year) := ⟨rfl, rfl, rfl, by decide +kernel, rfl, by decide +kernel, by decide +kernel⟩
theorem ck_place_in_year : chkB ⟨n_place_in_year, T5, glsA, M5⟩ (defScope s_place_in_year) b_place_in_year (defBody s_place_in_year) = true := by decide +kernel
abbrev s_weekday_of : Stmt := topS 17
def n_weekday_of : List Str := [("date" : Str), ("year" : Str), ("days" : Str)]
theorem sc_weekday_of : FnScope n_weekday_of [("date" : Str)] (defScope s_weekday_of) := ⟨rfl, rfl, rfl, by decide +kernel, rfl, by decide +kernel, by decide +kernel⟩
theorem ck_weekday_of : chkB ⟨n_weekday_of, T6, glsA, M6⟩ (defScope s_weekday_of) b_weekday_of (defBody s_weekday_of) = true := by decide +kernel
abbrev s_dates_in : Stmt := topS 18
def n_dates_in : List Str := [("span" : Str), ("found" : Str), ("year" : Str), ("month" : Str), ("day" : Str)]
theorem sc_dates_in : FnScope n_dates_in [("span" : Str)] (defScope s_dates_in) := ⟨rfl, rfl, rfl, by decide +kernel, rfl, by decide +kernel, by decide +kernel⟩
theorem ck_dates_in : chkB ⟨n_dates_in, T7, glsA, M7⟩ (defScope s_dates_in) b_dates_in (defBody s_dates_in) = true := by decide +kernel
abbrev s_is_literal : Stmt := topS 24
def n_is_literal : List Str := [("value" : Str), ("char" : Str)]
theorem sc_is_literal : FnScope n_is_literal [("value" : Str)] (defScope s_is_literal) := ⟨rfl, rfl, rfl, by decide +kernel, rfl, by decide +kernel, by decide +kernel⟩
theorem ck_is_literal : chkB ⟨n_is_literal, T8, glsA, M8⟩ (defScope s_is_literal) b_is_literal (defBody s_is_literal) = true := by decide +kernel
abbrev s_is_pattern : Stmt := topS 25
def n_is_pattern : List Str := [("value" : Str), ("part" : Str), ("one" : Str), ("other" : Str)]
theorem sc_is_pattern : FnScope n_is_pattern [("value" : Str)] (defScope s_is_pattern) := ⟨rfl, rfl, rfl, by decide +kernel, rfl, by decide +kernel, by decide +kernel⟩
theorem ck_is_pattern : chkB ⟨n_is_pattern, T9, glsA, M9⟩ (defScope s_is_pattern) b_is_pattern (defBody s_is_pattern) = true := by decide +kernel
abbrev s_need_pattern : Stmt := topS 26
def n_need_pattern : List Str := [("value" : Str)]
theorem sc_need_pattern : FnScope n_need_pattern [("value" : Str)] (defScope s_need_pattern) := ⟨rfl, rfl, rfl, by decide +kernel, rfl, by decide +kernel, by decide +kernel⟩
theorem ck_need_pattern : chkB ⟨n_need_pattern, T10, glsA, M10⟩ (defScope s_need_pattern) b_need_pattern (defBody s_need_pattern) = true := by decide +kernel
abbrev s_need_text : Stmt := topS 27
def n_need_text : List Str := [("value" : Str)]
theorem sc_need_text : FnScope n_need_text [("value" : Str)] (defScope s_need_text) := ⟨rfl, rfl, rfl, by decide +kernel, rfl, by decide +kernel, by decide +kernel⟩
theorem ck_need_text : chkB ⟨n_need_text, T11, glsA, M11⟩ (defScope s_need_text) b_need_text (defBody s_need_text) = true := by decide +kernel
abbrev s_padded : Stmt := topS 28
def n_padded : List Str := [("number" : Str), ("digits" : Str), ("text" : Str)]
theorem sc_padded : FnScope n_padded [("number" : Str), ("digits" : Str)] (defScope s_padded) := ⟨rfl, rfl, rfl, by decide +kernel, rfl, by decide +kernel, by decide +kernel⟩
theorem ck_padded : chkB ⟨n_padded, T12, glsA, M12⟩ (defScope s_padded) b_padded (defBody s_padded) = true := by decide +kernel
abbrev s_value_of : Stmt := topS 29
def n_value_of : List Str := [("part" : Str), ("date" : Str)]
theorem sc_value_of : FnScope n_value_of [("part" : Str), ("date" : Str)] (defScope s_value_of) := ⟨rfl, rfl, rfl, by decide +kernel, rfl, by decide +kernel, by decide +kernel⟩
theorem ck_value_of : chkB ⟨n_value_of, T13, glsA, M13⟩ (defScope s_value_of) b_value_of (defBody s_value_of) = true := by decide +kernel
abbrev s_piece : Stmt := topS 30
def n_piece : List Str := [("part" : Str), ("date" : Str), ("value" : Str)]
theorem sc_piece : FnScope n_piece [("part" : Str), ("date" : Str)] (defScope s_piece) := ⟨rfl, rfl, rfl, by decide +kernel, rfl, by decide +kernel, by decide +kernel⟩
theorem ck_piece : chkB ⟨n_piece, T14, glsA, M14⟩ (defScope s_piece) b_piece (defBody s_piece) = true := by decide +kernel
abbrev s_written : Stmt := topS 31
def n_written : List Str := [("pattern" : Str), ("date" : Str), ("part" : Str)]
theorem sc_written : FnScope n_written [("pattern" : Str), ("date" : Str)] (defScope s_written) := ⟨rfl, rfl, rfl, by decide +kernel, rfl, by decide +kernel, by decide +kernel⟩
theorem ck_written : chkB ⟨n_written, T15, glsA, M15⟩ (defScope s_written) b_written (defBody s_written) = true := by decide +kernel
abbrev s_table : Stmt := topS 32
def n_table : List Str := [("pattern" : Str), ("span" : Str), ("found" : Str), ("date" : Str), ("text" : Str)]
theorem sc_table : FnScope n_table [("pattern" : Str), ("span" : Str)] (defScope s_table) := ⟨rfl, rfl, rfl, by decide +kernel, rfl, by decide +kernel, by decide +kernel⟩
theorem ck_table : chkB ⟨n_table, T16, glsA, M16⟩ (defScope s_table) b_table (defBody s_table) = true := by decide +kernel
abbrev s_readings : Stmt := topS 33
def n_readings : List Str := [("pattern" : Str), ("span" : Str), ("text" : Str)]
theorem sc_readings : FnScope n_readings [("pattern" : Str), ("span" : Str), ("text" : Str)] (defScope s_readings) := ⟨rfl, rfl, rfl, by decide +kernel, rfl, by decide +kernel, by decide +kernel⟩
theorem ck_readings : chkB ⟨n_readings, T17, glsA, M17⟩ (defScope s_readings) b_readings (defBody s_readings) = true := by decide +kernel
abbrev s_clash_of : Stmt := topS 35
def n_clash_of : List Str := [("pattern" : Str), ("span" : Str), ("pairs" : Str), ("found" : Str)]
theorem sc_clash_of : FnScope n_clash_of [("pattern" : Str), ("span" : Str)] (defScope s_clash_of) := ⟨rfl, rfl, rfl, by decide +kernel, rfl, by decide +kernel, by decide +kernel⟩
theorem ck_clash_of : chkB ⟨n_clash_of, T18, glsA, M18⟩ (defScope s_clash_of) b_clash_of (defBody s_clash_of) = true := by decide +kernel
abbrev s_clash : Stmt := topS 36
def n_clash : List Str := [("pattern" : Str), ("span" : Str)]
theorem sc_clash : FnScope n_clash [("pattern" : Str), ("span" : Str)] (defScope s_clash) := ⟨rfl, rfl, rfl, by decide +kernel, rfl, by decide +kernel, by decide +kernel⟩
theorem ck_clash : chkB ⟨n_clash, T19, glsA, M19⟩ (defScope s_clash) b_clash (defBody s_clash) = true := by decide +kernel
abbrev s_unsorted : Stmt := topS 37
def n_unsorted : List Str := [("pattern" : Str), ("span" : Str), ("days" : Str), ("texts" : Str), ("date" : Str), ("text" : Str), ("behind" : Str)]
theorem sc_unsorted : FnScope n_unsorted [("pattern" : Str), ("span" : Str)] (defScope s_unsorted) := ⟨rfl, rfl, rfl, by decide +kernel, rfl, by decide +kernel, by decide +kernel⟩
theorem ck_unsorted : chkB ⟨n_unsorted, T20, glsA, M20⟩ (defScope s_unsorted) b_unsorted (defBody s_unsorted) = true := by decide +kernel
abbrev s_widths : Stmt := topS 38
def n_widths : List Str := [("pattern" : Str), ("span" : Str), ("lengths" : Str), ("text" : Str)]
theorem sc_widths : FnScope n_widths [("pattern" : Str), ("span" : Str)] (defScope s_widths) := ⟨rfl, rfl, rfl, by decide +kernel, rfl, by decide +kernel, by decide +kernel⟩
theorem ck_widths : chkB ⟨n_widths, T21, glsA, M21⟩ (defScope s_widths) b_widths (defBody s_widths) = true := by decide +kernel
abbrev s_with_bars : Stmt := topS 39
def n_with_bars : List Str := [("pattern" : Str), ("gaps" : Str), ("result" : Str), ("at" : Str), ("part" : Str)]
theorem sc_with_bars : FnScope n_with_bars [("pattern" : Str), ("gaps" : Str)] (defScope s_with_bars) := ⟨rfl, rfl, rfl, by decide +kernel, rfl, by decide +kernel, by decide +kernel⟩
theorem ck_with_bars : chkB ⟨n_with_bars, T22, glsA, M22⟩ (defScope s_with_bars) b_with_bars (defBody s_with_bars) = true := by decide +kernel
abbrev s_choices : Stmt := topS 40
def n_choices : List Str := [("many" : Str), ("size" : Str), ("start" : Str), ("found" : Str), ("first" : Str), ("rest" : Str)]
theorem sc_choices : FnScope n_choices [("many" : Str), ("size" : Str), ("start" : Str)] (defScope s_choices) := ⟨rfl, rfl, rfl, by decide +kernel, rfl, by decide +kernel, by decide +kernel⟩
theorem ck_choices : chkB ⟨n_choices, T24, glsA, M23⟩ (defScope s_choices) b_choices (defBody s_choices) = true := by decide +kernel
abbrev s_bars : Stmt := topS 41
def n_bars : List Str := [("pattern" : Str), ("span" : Str), ("gaps" : Str), ("size" : Str), ("some" : Str)]
theorem sc_bars : FnScope n_bars [("pattern" : Str), ("span" : Str)] (defScope s_bars) := ⟨rfl, rfl, rfl, by decide +kernel, rfl, by decide +kernel, by decide +kernel⟩
theorem ck_bars : chkB ⟨n_bars, T24, glsA, M24⟩ (defScope s_bars) b_bars (defBody s_bars) = true := by decide +kernel
abbrev s_taken : Stmt := topS 45
def n_taken : List Str := [("part" : Str), ("text" : Str), ("at" : Str), ("name" : Str), ("stop" : Str)]
theorem sc_taken : FnScope n_taken [("part" : Str), ("text" : Str), ("at" : Str)] (defScope s_taken) := ⟨rfl, rfl, rfl, by decide +kernel, rfl, by decide +kernel, by decide +kernel⟩
theorem ck_taken : chkB ⟨n_taken, T25, glsA, M25⟩ (defScope s_taken) b_taken (defBody s_taken) = true := by decide +kernel
abbrev s_greedy_result : Stmt := topS 46
def n_greedy_result : List Str := [("pattern" : Str), ("text" : Str), ("result" : Str), ("at" : Str), ("part" : Str), ("found" : Str)]
theorem sc_greedy_result : FnScope n_greedy_result [("pattern" : Str), ("text" : Str)] (defScope s_greedy_result) := ⟨rfl, rfl, rfl, by decide +kernel, rfl, by decide +kernel, by decide +kernel⟩
theorem ck_greedy_result : chkB ⟨n_greedy_result, T26, glsA, M26⟩ (defScope s_greedy_result) b_greedy_result (defBody s_greedy_result) = true := by decide +kernel
abbrev s_misread : Stmt := topS 47
def n_misread : List Str := [("pattern" : Str), ("span" : Str), ("date" : Str), ("due" : Str), ("part" : Str)]
theorem sc_misread : FnScope n_misread [("pattern" : Str), ("span" : Str)] (defScope s_misread) := ⟨rfl, rfl, rfl, by decide +kernel, rfl, by decide +kernel, by decide +kernel⟩
theorem ck_misread : chkB ⟨n_misread, T27, glsA, M27⟩ (defScope s_misread) b_misread (defBody s_misread) = true := by decide +kernel
abbrev s_confused : Stmt := topS 50
def n_confused : List Str := [("pattern" : Str), ("other" : Str), ("span" : Str), ("found" : Str), ("date" : Str), ("others" : Str), ("one" : Str)]
theorem sc_confused : FnScope n_confused [("pattern" : Str), ("other" : Str), ("span" : Str)] (defScope s_confused) := ⟨rfl, rfl, rfl, by decide +kernel, rfl, by decide +kernel, by decide +kernel⟩
theorem ck_confused : chkB ⟨n_confused, T28, glsA, M28⟩ (defScope s_confused) b_confused (defBody s_confused) = true := by decide +kernel
abbrev s_need_patterns : Stmt := topS 51
def n_need_patterns : List Str := [("value" : Str), ("one" : Str)]
theorem sc_need_patterns : FnScope n_need_patterns [("value" : Str)] (defScope s_need_patterns) := ⟨rfl, rfl, rfl, by decide +kernel, rfl, by decide +kernel, by decide +kernel⟩
theorem ck_need_patterns : chkB ⟨n_need_patterns, T29, glsA, M29⟩ (defScope s_need_patterns) b_need_patterns (defBody s_need_patterns) = true := by decide +kernel
abbrev s_is_telling : Stmt := topS 52
def n_is_telling : List Str := [("patterns" : Str), ("tables" : Str), ("date" : Str), ("at" : Str), ("pattern" : Str), ("text" : Str), ("other" : Str), ("found" : Str)]
theorem sc_is_telling : FnScope n_is_telling [("patterns" : Str), ("tables" : Str), ("date" : Str)] (defScope s_is_telling) := ⟨rfl, rfl, rfl, by decide +kernel, rfl, by decide +kernel, by decide +kernel⟩
theorem ck_is_telling : chkB ⟨n_is_telling, T30, glsA, M30⟩ (defScope s_is_telling) b_is_telling (defBody s_is_telling) = true := by decide +kernel
abbrev s_telling : Stmt := topS 53
def n_telling : List Str := [("patterns" : Str), ("span" : Str), ("tables" : Str), ("pattern" : Str), ("date" : Str)]
theorem sc_telling : FnScope n_telling [("patterns" : Str), ("span" : Str)] (defScope s_telling) := ⟨rfl, rfl, rfl, by decide +kernel, rfl, by decide +kernel, by decide +kernel⟩
theorem ck_telling : chkB ⟨n_telling, T31, glsA, M31⟩ (defScope s_telling) b_telling (defBody s_telling) = true := by decide +kernel
abbrev s_law_draw : Stmt := topS 55
def n_law_draw : List Str := [("_law_script" : Str), ("_law_town" : Str), ("_law_many" : Str), ("_law_one" : Str), ("_law_at" : Str), ("_law_mixed" : Str)]
theorem sc_law_draw : FnScope n_law_draw [("_law_script" : Str), ("_law_town" : Str), ("_law_many" : Str)] (defScope s_law_draw) := ⟨rfl, rfl, rfl, by decide +kernel, rfl, by decide +kernel, by decide +kernel⟩
theorem ck_law_draw : chkB ⟨n_law_draw, T32, glsA, M32⟩ (defScope s_law_draw) b_law_draw (defBody s_law_draw) = true := by decide +kernel
abbrev s_law_pick : Stmt := topS 56
def n_law_pick : List Str := [("_law_script" : Str), ("_law_town" : Str), ("_law_some" : Str)]
theorem sc_law_pick : FnScope n_law_pick [("_law_script" : Str), ("_law_town" : Str), ("_law_some" : Str)] (defScope s_law_pick) := ⟨rfl, rfl, rfl, by decide +kernel, rfl, by decide +kernel, by decide +kernel⟩
theorem ck_law_pick : chkB ⟨n_law_pick, T33, glsA, M33⟩ (defScope s_law_pick) b_law_pick (defBody s_law_pick) = true := by decide +kernel
abbrev s_law_days : Stmt := topS 57
def n_law_days : List Str := [("_law_year" : Str), ("_law_leap" : Str)]
theorem sc_law_days : FnScope n_law_days [("_law_year" : Str)] (defScope s_law_days) := ⟨rfl, rfl, rfl, by decide +kernel, rfl, by decide +kernel, by decide +kernel⟩
theorem ck_law_days : chkB ⟨n_law_days, T34, glsA, M34⟩ (defScope s_law_days) b_law_days (defBody s_law_days) = true := by decide +kernel
abbrev s_law_dates : Stmt := topS 58
def n_law_dates : List Str := [("_law_span" : Str), ("_law_found" : Str), ("_law_year" : Str), ("_law_number" : Str), ("_law_month" : Str), ("_law_many" : Str), ("_law_day" : Str)]
theorem sc_law_dates : FnScope n_law_dates [("_law_span" : Str)] (defScope s_law_dates) := ⟨rfl, rfl, rfl, by decide +kernel, rfl, by decide +kernel, by decide +kernel⟩
theorem ck_law_dates : chkB ⟨n_law_dates, T35, glsA, M35⟩ (defScope s_law_dates) b_law_dates (defBody s_law_dates) = true := by decide +kernel
abbrev s_law_orders_k11 : Stmt := topS 61
def n_law_orders_k11 : List Str := [("_law_year" : Str), ("_law_mark" : Str), ("_law_span" : Str), ("_law_first" : Str), ("_law_second" : Str), ("_law_one" : Str)]
theorem sc_law_orders_k11 : FnScope n_law_orders_k11 [("_law_year" : Str), ("_law_mark" : Str)] (defScope s_law_orders_k11) := ⟨rfl, rfl, rfl, by decide +kernel, rfl, by decide +kernel, by decide +kernel⟩
theorem ck_law_orders_k11 : chkB ⟨n_law_orders_k11, T36, glsA, M36⟩ (defScope s_law_orders_k11) b_law_orders_k11 (defBody s_law_orders_k11) = true := by decide +kernel
abbrev s_law_k11 : Stmt := topS 62
def n_law_k11 : List Str := [("_law_script" : Str), ("_law_town" : Str), ("_law_year" : Str), ("_law_span" : Str), ("_law_leap" : Str), ("_law_last" : Str), ("_law_weeks" : Str), ("_law_one" : Str), ("_law_other" : Str)]
theorem sc_law_k11 : FnScope n_law_k11 [("_law_script" : Str)] (defScope s_law_k11) := ⟨rfl, rfl, rfl, by decide +kernel, rfl, by decide +kernel, by decide +kernel⟩
theorem ck_law_k11 : chkB ⟨n_law_k11, T37, glsA, M37⟩ (defScope s_law_k11) b_law_k11 (defBody s_law_k11) = true := by decide +kernel
theorem step {P : Program} {w : World} {K : PySem.W.Frag} {mg : Str → Option Value} {base : Heap} {Γ : Sig} {cv : Nat → Value} {T : Tab} {k n i : Nat} {x : Str} {st : Stmt} {N ps : List Str} {f : Addr} {fd : FuncData} {body : IS} (g : GOk P w K mg base T Γ cv k) (d : DefAt K mg x st ps f fd)
    (S : FnScope N ps (defScope st)) (hn : n = N.length) (hb : chkB ⟨N, T.fns, T.gls, T.mts⟩ (defScope st) body (defBody st) = true) (h : ∀ vs S Q R, Γ.ct i vs S Q R → wpB Γ n body vs S Q R) :
    GOk P w K mg base ⟨(x, (i, ps.length)) :: T.fns, T.gls, T.mts⟩ Γ cv (k + 1) := g.add d (def_ok d.F S hn g hb h)
theorem stepm {P : Program} {w : World} {K : PySem.W.Frag} {mg : Str → Option Value} {base : Heap} {Γ : Sig} {cv : Nat → Value} {T : Tab} {k n i : Nat} {m x qual : Str} {st : Stmt} {N ps : List Str} {f C : Addr} {fd : FuncData} {body : IS} (g : GOk P w K mg base T Γ cv k) (hc : ClsAt K mg C) (hm : Meth K C m f) (F : Fun K x qual st f fd) (b : Binds K fd ps [])
    (mk : m = ("__init__" : Str) → Mk K C f) (S : FnScope N ps (defScope st)) (hn : n = N.length) (hb : chkB ⟨N, T.fns, T.gls, T.mts⟩ (defScope st) body (defBody st) = true) (h : ∀ vs S Q R, Γ.ct i vs S Q R → wpB Γ n body vs S Q R) :
    GOk P w K mg base ⟨T.fns, T.gls, (m, (i, ps.length)) :: T.mts⟩ Γ cv (k + 2) := g.addm hc hm b mk (def_ok F S hn g hb h)
theorem steprec {P : Program} {w : World} {K : PySem.W.Frag} {mg : Str → Option Value} {base : Heap} {Γ : Sig} {cv : Nat → Value} {T : Tab} {k n i : Nat} {x : Str} {st : Stmt} {N ps : List Str} {f : Addr} {fd : FuncData} {body : IS} {C : Nat → Ct} (m : Nat) (g : GOk P w K mg base T Γ cv k) (d : DefAt K mg x st ps f fd)
    (S : FnScope N ps (defScope st)) (hn : n = N.length) (hf : freshB i T.fns = true) (hfm : freshB i T.mts = true) (hb : chkB ⟨N, (x, (i, ps.length)) :: T.fns, T.gls, T.mts⟩ (defScope st) body (defBody st) = true) (hC : Γ.ct i = C m)
    (h : ∀ (m : Nat) (G' : Sig), (∀ m', m = m' + 1 → G'.ct i = C m') → ∀ vs S Q R, C m vs S Q R → wpB G' n body vs S Q R) : GOk P w K mg base ⟨(x, (i, ps.length)) :: T.fns, T.gls, T.mts⟩ Γ cv (k + m + 1) := by
  have F := rec_ok d.F S hn g hf hfm d.g d.F.kp d.b hb (fun m vs S Q R hc => h m _ (fun m' e => by subst e; exact Sig.upd_at _ _ _) vs S Q R hc) m
  rw [← hC] at F
  exact (g.mono (Nat.le_add_right k m)).add d F
theorem all_mk {l : PySem.W.OpenLaw} {w : World} {K : PySem.W.Frag} {h : Heap} {mg : Str → Option Value} {fa : Addr} {cv : Nat → Value} (X : K.In h) (G0 : h.Ns mainGlobals mg) (hfa : mg "law" = some (.ref fa))
    {f0 : Addr} {od0 an0 : Option Addr} {sl0 : Array (Option Value)} {oc0 kV0 dc0 pm0 cd0 ct0 : Value} {f1 : Addr} {od1 an1 : Option Addr} {sl1 : Array (Option Value)} {oc1 kV1 dc1 pm1 cd1 ct1 : Value} {f2 : Addr} {od2 an2 : Option Addr} {sl2 : Array (Option Value)} {oc2 kV2 dc2 pm2 cd2 ct2 : Value} {f3 : Addr} {od3 an3 : Option Addr} {sl3 : Array (Option Value)} {oc3 kV3 dc3 pm3 cd3 ct3 : Value} {f4 : Addr} {od4 an4 : Option Addr} {sl4 : Array (Option Value)} {oc4 kV4 dc4 pm4 cd4 ct4 : Value} {f5 : Addr} {od5 an5 : Option Addr} {sl5 : Array (Option Value)} {oc5 kV5 dc5 pm5 cd5 ct5 : Value} {f6 : Addr} {od6 an6 : Option Addr} {sl6 : Array (Option Value)} {oc6 kV6 dc6 pm6 cd6 ct6 : Value} {f7 : Addr} {od7 an7 : Option Addr} {sl7 : Array (Option Value)} {oc7 kV7 dc7 pm7 cd7 ct7 : Value} {f8 : Addr} {od8 an8 : Option Addr} {sl8 : Array (Option Value)} {oc8 kV8 dc8 pm8 cd8 ct8 : Value} {f9 : Addr} {od9 an9 : Option Addr} {sl9 : Array (Option Value)} {oc9 kV9 dc9 pm9 cd9 ct9 : Value} {f10 : Addr} {od10 an10 : Option Addr} {sl10 : Array (Option Value)} {oc10 kV10 dc10 pm10 cd10 ct10 : Value} {f11 : Addr} {od11 an11 : Option Addr} {sl11 : Array (Option Value)} {oc11 kV11 dc11 pm11 cd11 ct11 : Value} {f12 : Addr} {od12 an12 : Option Addr} {sl12 : Array (Option Value)} {oc12 kV12 dc12 pm12 cd12 ct12 : Value} {f13 : Addr} {od13 an13 : Option Addr} {sl13 : Array (Option Value)} {oc13 kV13 dc13 pm13 cd13 ct13 : Value} {f14 : Addr} {od14 an14 : Option Addr} {sl14 : Array (Option Value)} {oc14 kV14 dc14 pm14 cd14 ct14 : Value} {f15 : Addr} {od15 an15 : Option Addr} {sl15 : Array (Option Value)} {oc15 kV15 dc15 pm15 cd15 ct15 : Value} {f16 : Addr} {od16 an16 : Option Addr} {sl16 : Array (Option Value)} {oc16 kV16 dc16 pm16 cd16 ct16 : Value} {f17 : Addr} {od17 an17 : Option Addr} {sl17 : Array (Option Value)} {oc17 kV17 dc17 pm17 cd17 ct17 : Value} {f18 : Addr} {od18 an18 : Option Addr} {sl18 : Array (Option Value)} {oc18 kV18 dc18 pm18 cd18 ct18 : Value} {f19 : Addr} {od19 an19 : Option Addr} {sl19 : Array (Option Value)} {oc19 kV19 dc19 pm19 cd19 ct19 : Value} {f20 : Addr} {od20 an20 : Option Addr} {sl20 : Array (Option Value)} {oc20 kV20 dc20 pm20 cd20 ct20 : Value} {f21 : Addr} {od21 an21 : Option Addr} {sl21 : Array (Option Value)} {oc21 kV21 dc21 pm21 cd21 ct21 : Value} {f22 : Addr} {od22 an22 : Option Addr} {sl22 : Array (Option Value)} {oc22 kV22 dc22 pm22 cd22 ct22 : Value} {f23 : Addr} {od23 an23 : Option Addr} {sl23 : Array (Option Value)} {oc23 kV23 dc23 pm23 cd23 ct23 : Value} {f24 : Addr} {od24 an24 : Option Addr} {sl24 : Array (Option Value)} {oc24 kV24 dc24 pm24 cd24 ct24 : Value} {f25 : Addr} {od25 an25 : Option Addr} {sl25 : Array (Option Value)} {oc25 kV25 dc25 pm25 cd25 ct25 : Value} {f26 : Addr} {od26 an26 : Option Addr} {sl26 : Array (Option Value)} {oc26 kV26 dc26 pm26 cd26 ct26 : Value} {f27 : Addr} {od27 an27 : Option Addr} {sl27 : Array (Option Value)} {oc27 kV27 dc27 pm27 cd27 ct27 : Value} {f28 : Addr} {od28 an28 : Option Addr} {sl28 : Array (Option Value)} {oc28 kV28 dc28 pm28 cd28 ct28 : Value} {f29 : Addr} {od29 an29 : Option Addr} {sl29 : Array (Option Value)} {oc29 kV29 dc29 pm29 cd29 ct29 : Value} {f30 : Addr} {od30 an30 : Option Addr} {sl30 : Array (Option Value)} {oc30 kV30 dc30 pm30 cd30 ct30 : Value} {f31 : Addr} {od31 an31 : Option Addr} {sl31 : Array (Option Value)} {oc31 kV31 dc31 pm31 cd31 ct31 : Value} {f32 : Addr} {od32 an32 : Option Addr} {sl32 : Array (Option Value)} {oc32 kV32 dc32 pm32 cd32 ct32 : Value} {f33 : Addr} {od33 an33 : Option Addr} {sl33 : Array (Option Value)} {oc33 kV33 dc33 pm33 cd33 ct33 : Value} {f34 : Addr} {od34 an34 : Option Addr} {sl34 : Array (Option Value)} {oc34 kV34 dc34 pm34 cd34 ct34 : Value} {f35 : Addr} {od35 an35 : Option Addr} {sl35 : Array (Option Value)} {oc35 kV35 dc35 pm35 cd35 ct35 : Value} {f36 : Addr} {od36 an36 : Option Addr} {sl36 : Array (Option Value)} {oc36 kV36 dc36 pm36 cd36 ct36 : Value} {f37 : Addr} {od37 an37 : Option Addr} {sl37 : Array (Option Value)} {oc37 kV37 dc37 pm37 cd37 ct37 : Value} {tgFIRST : Tok} {tgLAST : Tok} {tgYEARS : Tok} {agWEEKDAYS : Addr} {ogWEEKDAYS : Obj} {igWEEKDAYS : Array Value} {ngWEEKDAYS : Nat} {agMONTHS : Addr} {ogMONTHS : Obj} {igMONTHS : Array Value} {ngMONTHS : Nat} {agFIELDS : Addr} {ogFIELDS : Obj} {igFIELDS : Array Value} {ngFIELDS : Nat} {tgLITERAL : Tok} {tgPARTS : Tok} {tgDIGITS : Tok} {tgMOST : Tok} {aL : Addr} {esL : Array DictEntry} {nL : Nat} {tL0 : Tok} {tL1 : Tok} {tL2 : Tok} {tL3 : Tok} {tL4 : Tok} {tL5 : Tok} {tL6 : Tok} {tL7 : Tok}
    (a0 : PySem.W.nsIn K mainGlobals ("is_count" : Str) = some (some (.ref f0))) (l0 : K.lookup f0 = some ⟨oc0, od0, .func (PySem.W.fnOf "is_count" "is_count" (defArgs s_is_count) (defBody s_is_count) (defScope s_is_count) .none kV0 dc0 pm0 an0 cd0 ct0), sl0⟩) (c0 : PySem.W.codeIn K cd0 "is_count" = true) (k0 : PySem.W.keepIn K (.ref f0) = true)
    (a1 : PySem.W.nsIn K mainGlobals ("is_long" : Str) = some (some (.ref f1))) (l1 : K.lookup f1 = some ⟨oc1, od1, .func (PySem.W.fnOf "is_long" "is_long" (defArgs s_is_long) (defBody s_is_long) (defScope s_is_long) .none kV1 dc1 pm1 an1 cd1 ct1), sl1⟩) (c1 : PySem.W.codeIn K cd1 "is_long" = true) (k1 : PySem.W.keepIn K (.ref f1) = true)
    (a2 : PySem.W.nsIn K mainGlobals ("month_length" : Str) = some (some (.ref f2))) (l2 : K.lookup f2 = some ⟨oc2, od2, .func (PySem.W.fnOf "month_length" "month_length" (defArgs s_month_length) (defBody s_month_length) (defScope s_month_length) .none kV2 dc2 pm2 an2 cd2 ct2), sl2⟩) (c2 : PySem.W.codeIn K cd2 "month_length" = true) (k2 : PySem.W.keepIn K (.ref f2) = true)
    (a3 : PySem.W.nsIn K mainGlobals ("is_span" : Str) = some (some (.ref f3))) (l3 : K.lookup f3 = some ⟨oc3, od3, .func (PySem.W.fnOf "is_span" "is_span" (defArgs s_is_span) (defBody s_is_span) (defScope s_is_span) .none kV3 dc3 pm3 an3 cd3 ct3), sl3⟩) (c3 : PySem.W.codeIn K cd3 "is_span" = true) (k3 : PySem.W.keepIn K (.ref f3) = true)
    (a4 : PySem.W.nsIn K mainGlobals ("need_span" : Str) = some (some (.ref f4))) (l4 : K.lookup f4 = some ⟨oc4, od4, .func (PySem.W.fnOf "need_span" "need_span" (defArgs s_need_span) (defBody s_need_span) (defScope s_need_span) .none kV4 dc4 pm4 an4 cd4 ct4), sl4⟩) (c4 : PySem.W.codeIn K cd4 "need_span" = true) (k4 : PySem.W.keepIn K (.ref f4) = true)
    (a5 : PySem.W.nsIn K mainGlobals ("place_in_year" : Str) = some (some (.ref f5))) (l5 : K.lookup f5 = some ⟨oc5, od5, .func (PySem.W.fnOf "place_in_year" "place_in_year" (defArgs s_place_in_year) (defBody s_place_in_year) (defScope s_place_in_year) .none kV5 dc5 pm5 an5 cd5 ct5), sl5⟩) (c5 : PySem.W.codeIn K cd5 "place_in_year" = true) (k5 : PySem.W.keepIn K (.ref f5) = true)
    (a6 : PySem.W.nsIn K mainGlobals ("weekday_of" : Str) = some (some (.ref f6))) (l6 : K.lookup f6 = some ⟨oc6, od6, .func (PySem.W.fnOf "weekday_of" "weekday_of" (defArgs s_weekday_of) (defBody s_weekday_of) (defScope s_weekday_of) .none kV6 dc6 pm6 an6 cd6 ct6), sl6⟩) (c6 : PySem.W.codeIn K cd6 "weekday_of" = true) (k6 : PySem.W.keepIn K (.ref f6) = true)
    (a7 : PySem.W.nsIn K mainGlobals ("dates_in" : Str) = some (some (.ref f7))) (l7 : K.lookup f7 = some ⟨oc7, od7, .func (PySem.W.fnOf "dates_in" "dates_in" (defArgs s_dates_in) (defBody s_dates_in) (defScope s_dates_in) .none kV7 dc7 pm7 an7 cd7 ct7), sl7⟩) (c7 : PySem.W.codeIn K cd7 "dates_in" = true) (k7 : PySem.W.keepIn K (.ref f7) = true)
    (a8 : PySem.W.nsIn K mainGlobals ("is_literal" : Str) = some (some (.ref f8))) (l8 : K.lookup f8 = some ⟨oc8, od8, .func (PySem.W.fnOf "is_literal" "is_literal" (defArgs s_is_literal) (defBody s_is_literal) (defScope s_is_literal) .none kV8 dc8 pm8 an8 cd8 ct8), sl8⟩) (c8 : PySem.W.codeIn K cd8 "is_literal" = true) (k8 : PySem.W.keepIn K (.ref f8) = true)
    (a9 : PySem.W.nsIn K mainGlobals ("is_pattern" : Str) = some (some (.ref f9))) (l9 : K.lookup f9 = some ⟨oc9, od9, .func (PySem.W.fnOf "is_pattern" "is_pattern" (defArgs s_is_pattern) (defBody s_is_pattern) (defScope s_is_pattern) .none kV9 dc9 pm9 an9 cd9 ct9), sl9⟩) (c9 : PySem.W.codeIn K cd9 "is_pattern" = true) (k9 : PySem.W.keepIn K (.ref f9) = true)
    (a10 : PySem.W.nsIn K mainGlobals ("need_pattern" : Str) = some (some (.ref f10))) (l10 : K.lookup f10 = some ⟨oc10, od10, .func (PySem.W.fnOf "need_pattern" "need_pattern" (defArgs s_need_pattern) (defBody s_need_pattern) (defScope s_need_pattern) .none kV10 dc10 pm10 an10 cd10 ct10), sl10⟩) (c10 : PySem.W.codeIn K cd10 "need_pattern" = true) (k10 : PySem.W.keepIn K (.ref f10) = true)
    (a11 : PySem.W.nsIn K mainGlobals ("need_text" : Str) = some (some (.ref f11))) (l11 : K.lookup f11 = some ⟨oc11, od11, .func (PySem.W.fnOf "need_text" "need_text" (defArgs s_need_text) (defBody s_need_text) (defScope s_need_text) .none kV11 dc11 pm11 an11 cd11 ct11), sl11⟩) (c11 : PySem.W.codeIn K cd11 "need_text" = true) (k11 : PySem.W.keepIn K (.ref f11) = true)
    (a12 : PySem.W.nsIn K mainGlobals ("padded" : Str) = some (some (.ref f12))) (l12 : K.lookup f12 = some ⟨oc12, od12, .func (PySem.W.fnOf "padded" "padded" (defArgs s_padded) (defBody s_padded) (defScope s_padded) .none kV12 dc12 pm12 an12 cd12 ct12), sl12⟩) (c12 : PySem.W.codeIn K cd12 "padded" = true) (k12 : PySem.W.keepIn K (.ref f12) = true)
    (a13 : PySem.W.nsIn K mainGlobals ("value_of" : Str) = some (some (.ref f13))) (l13 : K.lookup f13 = some ⟨oc13, od13, .func (PySem.W.fnOf "value_of" "value_of" (defArgs s_value_of) (defBody s_value_of) (defScope s_value_of) .none kV13 dc13 pm13 an13 cd13 ct13), sl13⟩) (c13 : PySem.W.codeIn K cd13 "value_of" = true) (k13 : PySem.W.keepIn K (.ref f13) = true)
    (a14 : PySem.W.nsIn K mainGlobals ("piece" : Str) = some (some (.ref f14))) (l14 : K.lookup f14 = some ⟨oc14, od14, .func (PySem.W.fnOf "piece" "piece" (defArgs s_piece) (defBody s_piece) (defScope s_piece) .none kV14 dc14 pm14 an14 cd14 ct14), sl14⟩) (c14 : PySem.W.codeIn K cd14 "piece" = true) (k14 : PySem.W.keepIn K (.ref f14) = true)
    (a15 : PySem.W.nsIn K mainGlobals ("written" : Str) = some (some (.ref f15))) (l15 : K.lookup f15 = some ⟨oc15, od15, .func (PySem.W.fnOf "written" "written" (defArgs s_written) (defBody s_written) (defScope s_written) .none kV15 dc15 pm15 an15 cd15 ct15), sl15⟩) (c15 : PySem.W.codeIn K cd15 "written" = true) (k15 : PySem.W.keepIn K (.ref f15) = true)
    (a16 : PySem.W.nsIn K mainGlobals ("table" : Str) = some (some (.ref f16))) (l16 : K.lookup f16 = some ⟨oc16, od16, .func (PySem.W.fnOf "table" "table" (defArgs s_table) (defBody s_table) (defScope s_table) .none kV16 dc16 pm16 an16 cd16 ct16), sl16⟩) (c16 : PySem.W.codeIn K cd16 "table" = true) (k16 : PySem.W.keepIn K (.ref f16) = true)
    (a17 : PySem.W.nsIn K mainGlobals ("readings" : Str) = some (some (.ref f17))) (l17 : K.lookup f17 = some ⟨oc17, od17, .func (PySem.W.fnOf "readings" "readings" (defArgs s_readings) (defBody s_readings) (defScope s_readings) .none kV17 dc17 pm17 an17 cd17 ct17), sl17⟩) (c17 : PySem.W.codeIn K cd17 "readings" = true) (k17 : PySem.W.keepIn K (.ref f17) = true)
    (a18 : PySem.W.nsIn K mainGlobals ("clash_of" : Str) = some (some (.ref f18))) (l18 : K.lookup f18 = some ⟨oc18, od18, .func (PySem.W.fnOf "clash_of" "clash_of" (defArgs s_clash_of) (defBody s_clash_of) (defScope s_clash_of) .none kV18 dc18 pm18 an18 cd18 ct18), sl18⟩) (c18 : PySem.W.codeIn K cd18 "clash_of" = true) (k18 : PySem.W.keepIn K (.ref f18) = true)
    (a19 : PySem.W.nsIn K mainGlobals ("clash" : Str) = some (some (.ref f19))) (l19 : K.lookup f19 = some ⟨oc19, od19, .func (PySem.W.fnOf "clash" "clash" (defArgs s_clash) (defBody s_clash) (defScope s_clash) .none kV19 dc19 pm19 an19 cd19 ct19), sl19⟩) (c19 : PySem.W.codeIn K cd19 "clash" = true) (k19 : PySem.W.keepIn K (.ref f19) = true)
    (a20 : PySem.W.nsIn K mainGlobals ("unsorted" : Str) = some (some (.ref f20))) (l20 : K.lookup f20 = some ⟨oc20, od20, .func (PySem.W.fnOf "unsorted" "unsorted" (defArgs s_unsorted) (defBody s_unsorted) (defScope s_unsorted) .none kV20 dc20 pm20 an20 cd20 ct20), sl20⟩) (c20 : PySem.W.codeIn K cd20 "unsorted" = true) (k20 : PySem.W.keepIn K (.ref f20) = true)
    (a21 : PySem.W.nsIn K mainGlobals ("widths" : Str) = some (some (.ref f21))) (l21 : K.lookup f21 = some ⟨oc21, od21, .func (PySem.W.fnOf "widths" "widths" (defArgs s_widths) (defBody s_widths) (defScope s_widths) .none kV21 dc21 pm21 an21 cd21 ct21), sl21⟩) (c21 : PySem.W.codeIn K cd21 "widths" = true) (k21 : PySem.W.keepIn K (.ref f21) = true)
    (a22 : PySem.W.nsIn K mainGlobals ("with_bars" : Str) = some (some (.ref f22))) (l22 : K.lookup f22 = some ⟨oc22, od22, .func (PySem.W.fnOf "with_bars" "with_bars" (defArgs s_with_bars) (defBody s_with_bars) (defScope s_with_bars) .none kV22 dc22 pm22 an22 cd22 ct22), sl22⟩) (c22 : PySem.W.codeIn K cd22 "with_bars" = true) (k22 : PySem.W.keepIn K (.ref f22) = true)
    (a23 : PySem.W.nsIn K mainGlobals ("choices" : Str) = some (some (.ref f23))) (l23 : K.lookup f23 = some ⟨oc23, od23, .func (PySem.W.fnOf "choices" "choices" (defArgs s_choices) (defBody s_choices) (defScope s_choices) .none kV23 dc23 pm23 an23 cd23 ct23), sl23⟩) (c23 : PySem.W.codeIn K cd23 "choices" = true) (k23 : PySem.W.keepIn K (.ref f23) = true)
    (a24 : PySem.W.nsIn K mainGlobals ("bars" : Str) = some (some (.ref f24))) (l24 : K.lookup f24 = some ⟨oc24, od24, .func (PySem.W.fnOf "bars" "bars" (defArgs s_bars) (defBody s_bars) (defScope s_bars) .none kV24 dc24 pm24 an24 cd24 ct24), sl24⟩) (c24 : PySem.W.codeIn K cd24 "bars" = true) (k24 : PySem.W.keepIn K (.ref f24) = true)
    (a25 : PySem.W.nsIn K mainGlobals ("taken" : Str) = some (some (.ref f25))) (l25 : K.lookup f25 = some ⟨oc25, od25, .func (PySem.W.fnOf "taken" "taken" (defArgs s_taken) (defBody s_taken) (defScope s_taken) .none kV25 dc25 pm25 an25 cd25 ct25), sl25⟩) (c25 : PySem.W.codeIn K cd25 "taken" = true) (k25 : PySem.W.keepIn K (.ref f25) = true)
    (a26 : PySem.W.nsIn K mainGlobals ("greedy_result" : Str) = some (some (.ref f26))) (l26 : K.lookup f26 = some ⟨oc26, od26, .func (PySem.W.fnOf "greedy_result" "greedy_result" (defArgs s_greedy_result) (defBody s_greedy_result) (defScope s_greedy_result) .none kV26 dc26 pm26 an26 cd26 ct26), sl26⟩) (c26 : PySem.W.codeIn K cd26 "greedy_result" = true) (k26 : PySem.W.keepIn K (.ref f26) = true)
    (a27 : PySem.W.nsIn K mainGlobals ("misread" : Str) = some (some (.ref f27))) (l27 : K.lookup f27 = some ⟨oc27, od27, .func (PySem.W.fnOf "misread" "misread" (defArgs s_misread) (defBody s_misread) (defScope s_misread) .none kV27 dc27 pm27 an27 cd27 ct27), sl27⟩) (c27 : PySem.W.codeIn K cd27 "misread" = true) (k27 : PySem.W.keepIn K (.ref f27) = true)
    (a28 : PySem.W.nsIn K mainGlobals ("confused" : Str) = some (some (.ref f28))) (l28 : K.lookup f28 = some ⟨oc28, od28, .func (PySem.W.fnOf "confused" "confused" (defArgs s_confused) (defBody s_confused) (defScope s_confused) .none kV28 dc28 pm28 an28 cd28 ct28), sl28⟩) (c28 : PySem.W.codeIn K cd28 "confused" = true) (k28 : PySem.W.keepIn K (.ref f28) = true)
    (a29 : PySem.W.nsIn K mainGlobals ("need_patterns" : Str) = some (some (.ref f29))) (l29 : K.lookup f29 = some ⟨oc29, od29, .func (PySem.W.fnOf "need_patterns" "need_patterns" (defArgs s_need_patterns) (defBody s_need_patterns) (defScope s_need_patterns) .none kV29 dc29 pm29 an29 cd29 ct29), sl29⟩) (c29 : PySem.W.codeIn K cd29 "need_patterns" = true) (k29 : PySem.W.keepIn K (.ref f29) = true)
    (a30 : PySem.W.nsIn K mainGlobals ("is_telling" : Str) = some (some (.ref f30))) (l30 : K.lookup f30 = some ⟨oc30, od30, .func (PySem.W.fnOf "is_telling" "is_telling" (defArgs s_is_telling) (defBody s_is_telling) (defScope s_is_telling) .none kV30 dc30 pm30 an30 cd30 ct30), sl30⟩) (c30 : PySem.W.codeIn K cd30 "is_telling" = true) (k30 : PySem.W.keepIn K (.ref f30) = true)
    (a31 : PySem.W.nsIn K mainGlobals ("telling" : Str) = some (some (.ref f31))) (l31 : K.lookup f31 = some ⟨oc31, od31, .func (PySem.W.fnOf "telling" "telling" (defArgs s_telling) (defBody s_telling) (defScope s_telling) .none kV31 dc31 pm31 an31 cd31 ct31), sl31⟩) (c31 : PySem.W.codeIn K cd31 "telling" = true) (k31 : PySem.W.keepIn K (.ref f31) = true)
    (a32 : PySem.W.nsIn K mainGlobals ("_law_draw" : Str) = some (some (.ref f32))) (l32 : K.lookup f32 = some ⟨oc32, od32, .func (PySem.W.fnOf "_law_draw" "_law_draw" (defArgs s_law_draw) (defBody s_law_draw) (defScope s_law_draw) .none kV32 dc32 pm32 an32 cd32 ct32), sl32⟩) (c32 : PySem.W.codeIn K cd32 "_law_draw" = true) (k32 : PySem.W.keepIn K (.ref f32) = true)
    (a33 : PySem.W.nsIn K mainGlobals ("_law_pick" : Str) = some (some (.ref f33))) (l33 : K.lookup f33 = some ⟨oc33, od33, .func (PySem.W.fnOf "_law_pick" "_law_pick" (defArgs s_law_pick) (defBody s_law_pick) (defScope s_law_pick) .none kV33 dc33 pm33 an33 cd33 ct33), sl33⟩) (c33 : PySem.W.codeIn K cd33 "_law_pick" = true) (k33 : PySem.W.keepIn K (.ref f33) = true)
    (a34 : PySem.W.nsIn K mainGlobals ("_law_days" : Str) = some (some (.ref f34))) (l34 : K.lookup f34 = some ⟨oc34, od34, .func (PySem.W.fnOf "_law_days" "_law_days" (defArgs s_law_days) (defBody s_law_days) (defScope s_law_days) .none kV34 dc34 pm34 an34 cd34 ct34), sl34⟩) (c34 : PySem.W.codeIn K cd34 "_law_days" = true) (k34 : PySem.W.keepIn K (.ref f34) = true)
    (a35 : PySem.W.nsIn K mainGlobals ("_law_dates" : Str) = some (some (.ref f35))) (l35 : K.lookup f35 = some ⟨oc35, od35, .func (PySem.W.fnOf "_law_dates" "_law_dates" (defArgs s_law_dates) (defBody s_law_dates) (defScope s_law_dates) .none kV35 dc35 pm35 an35 cd35 ct35), sl35⟩) (c35 : PySem.W.codeIn K cd35 "_law_dates" = true) (k35 : PySem.W.keepIn K (.ref f35) = true)
    (a36 : PySem.W.nsIn K mainGlobals ("_law_orders" : Str) = some (some (.ref f36))) (l36 : K.lookup f36 = some ⟨oc36, od36, .func (PySem.W.fnOf "_law_orders" "_law_orders" (defArgs s_law_orders_k11) (defBody s_law_orders_k11) (defScope s_law_orders_k11) .none kV36 dc36 pm36 an36 cd36 ct36), sl36⟩) (c36 : PySem.W.codeIn K cd36 "_law_orders" = true) (k36 : PySem.W.keepIn K (.ref f36) = true)
    (a37 : PySem.W.nsIn K mainGlobals ("law" : Str) = some (some (.ref f37))) (l37 : K.lookup f37 = some ⟨oc37, od37, .func (PySem.W.fnOf "law" "law" (defArgs s_law_k11) (defBody s_law_k11) (defScope s_law_k11) .none kV37 dc37 pm37 an37 cd37 ct37), sl37⟩) (c37 : PySem.W.codeIn K cd37 "law" = true) (k37 : PySem.W.keepIn K (.ref f37) = true)
    (gaFIRST : PySem.W.nsIn K mainGlobals ("FIRST" : Str) = some (some (.int 1600 tgFIRST)))
    (gaLAST : PySem.W.nsIn K mainGlobals ("LAST" : Str) = some (some (.int 2399 tgLAST)))
    (gaYEARS : PySem.W.nsIn K mainGlobals ("YEARS" : Str) = some (some (.int 12 tgYEARS)))
    (gaWEEKDAYS : PySem.W.nsIn K mainGlobals ("WEEKDAYS" : Str) = some (some (.ref agWEEKDAYS))) (gbWEEKDAYS : K.lookup agWEEKDAYS = some ogWEEKDAYS) (gcWEEKDAYS : ogWEEKDAYS.cls = .type "tuple") (gdWEEKDAYS : ogWEEKDAYS.data = .seq igWEEKDAYS ngWEEKDAYS) (geWEEKDAYS : igWEEKDAYS.size ≤ 1000) (gfWEEKDAYS : valsB wdNames igWEEKDAYS.toList = true)
    (gaMONTHS : PySem.W.nsIn K mainGlobals ("MONTHS" : Str) = some (some (.ref agMONTHS))) (gbMONTHS : K.lookup agMONTHS = some ogMONTHS) (gcMONTHS : ogMONTHS.cls = .type "tuple") (gdMONTHS : ogMONTHS.data = .seq igMONTHS ngMONTHS) (geMONTHS : igMONTHS.size ≤ 1000) (gfMONTHS : valsB moNames igMONTHS.toList = true)
    (gaFIELDS : PySem.W.nsIn K mainGlobals ("FIELDS" : Str) = some (some (.ref agFIELDS))) (gbFIELDS : K.lookup agFIELDS = some ogFIELDS) (gcFIELDS : ogFIELDS.cls = .type "tuple") (gdFIELDS : ogFIELDS.data = .seq igFIELDS ngFIELDS) (geFIELDS : igFIELDS.size ≤ 1000) (gfFIELDS : valsB fieldT igFIELDS.toList = true)
    (gaLITERAL : PySem.W.nsIn K mainGlobals ("LITERAL" : Str) = some (some (.str (ofT litT) tgLITERAL)))
    (gaPARTS : PySem.W.nsIn K mainGlobals ("PARTS" : Str) = some (some (.int 7 tgPARTS)))
    (gaDIGITS : PySem.W.nsIn K mainGlobals ("DIGITS" : Str) = some (some (.str (ofT digT) tgDIGITS)))
    (gaMOST : PySem.W.nsIn K mainGlobals ("MOST" : Str) = some (some (.int 5 tgMOST)))
    (ga_L : PySem.W.nsIn K mainGlobals ("LONGEST" : Str) = some (some (.ref aL))) (gb_L : K.lookup aL = some ⟨.type "dict", none, .dict esL nL, #[]⟩) (gk_L : PySem.W.KeysLit w.params esL.toList) (gl0_L : PySem.W.nsIn K aL ("D" : Str) = some (some (.int 2 tL0))) (gl1_L : PySem.W.nsIn K aL ("DD" : Str) = some (some (.int 2 tL1))) (gl2_L : PySem.W.nsIn K aL ("M" : Str) = some (some (.int 2 tL2))) (gl3_L : PySem.W.nsIn K aL ("MM" : Str) = some (some (.int 2 tL3))) (gl4_L : PySem.W.nsIn K aL ("YY" : Str) = some (some (.int 2 tL4))) (gl5_L : PySem.W.nsIn K aL ("YYYY" : Str) = some (some (.int 4 tL5))) (gl6_L : PySem.W.nsIn K aL ("J" : Str) = some (some (.int 3 tL6))) (gl7_L : PySem.W.nsIn K aL ("JJJ" : Str) = some (some (.int 3 tL7)))
    (zlen : PySem.W.nsIn K mainGlobals ("len" : Str) = some none)
    (zstr : PySem.W.nsIn K mainGlobals ("str" : Str) = some none)
    (zint : PySem.W.nsIn K mainGlobals ("int" : Str) = some none)
    (ztuple : PySem.W.nsIn K mainGlobals ("tuple" : Str) = some none)
    (zlist : PySem.W.nsIn K mainGlobals ("list" : Str) = some none)
    (zsum : PySem.W.nsIn K mainGlobals ("sum" : Str) = some none)
    (zall : PySem.W.nsIn K mainGlobals ("all" : Str) = some none)
    (zany : PySem.W.nsIn K mainGlobals ("any" : Str) = some none)
    (zmin : PySem.W.nsIn K mainGlobals ("min" : Str) = some none)
    (zmax : PySem.W.nsIn K mainGlobals ("max" : Str) = some none)
    (zisinstance : PySem.W.nsIn K mainGlobals ("isinstance" : Str) = some none)
    (zrange : PySem.W.nsIn K mainGlobals ("range" : Str) = some none)
    (zenumerate : PySem.W.nsIn K mainGlobals ("enumerate" : Str) = some none)
    (zzip : PySem.W.nsIn K mainGlobals ("zip" : Str) = some none)
    (zbool : PySem.W.nsIn K mainGlobals ("bool" : Str) = some none)
    (zset : PySem.W.nsIn K mainGlobals ("set" : Str) = some none)
    (zsorted : PySem.W.nsIn K mainGlobals ("sorted" : Str) = some none)
    (zdict : PySem.W.nsIn K mainGlobals ("dict" : Str) = some none)
    : ∃ fd : FuncData, (∀ (s : Shared) (v : Value), BindsTo s fd ⟨[v], []⟩ [(("_law_script" : Str), v)]) ∧ ∀ base : Heap, K.In base → base.Ns mainGlobals mg → FnOk l.prog w K mg base (L2N.CX l.prog w) 44 fa fd [("_law_script" : Str)] (spOf K (ctLaw 63) 1 cv) := by
  have e := hfa.symm.trans (PySem.W.mg_of X G0 a37)
  cases e
  have d0 := defAt_mk (ps := [("value" : Str), ("least" : Str), ("most" : Str)]) X G0 a0 l0 c0 k0 fun _ _ _ _ _ _ us hl => match us, hl with | [_, _, _], _ => rfl
  have d1 := defAt_mk (ps := [("year" : Str)]) X G0 a1 l1 c1 k1 fun _ _ _ _ _ _ us hl => match us, hl with | [_], _ => rfl
  have d2 := defAt_mk (ps := [("year" : Str), ("month" : Str)]) X G0 a2 l2 c2 k2 fun _ _ _ _ _ _ us hl => match us, hl with | [_, _], _ => rfl
  have d3 := defAt_mk (ps := [("value" : Str)]) X G0 a3 l3 c3 k3 fun _ _ _ _ _ _ us hl => match us, hl with | [_], _ => rfl
  have d4 := defAt_mk (ps := [("value" : Str)]) X G0 a4 l4 c4 k4 fun _ _ _ _ _ _ us hl => match us, hl with | [_], _ => rfl
  have d5 := defAt_mk (ps := [("date" : Str)]) X G0 a5 l5 c5 k5 fun _ _ _ _ _ _ us hl => match us, hl with | [_], _ => rfl
  have d6 := defAt_mk (ps := [("date" : Str)]) X G0 a6 l6 c6 k6 fun _ _ _ _ _ _ us hl => match us, hl with | [_], _ => rfl
  have d7 := defAt_mk (ps := [("span" : Str)]) X G0 a7 l7 c7 k7 fun _ _ _ _ _ _ us hl => match us, hl with | [_], _ => rfl
  have d8 := defAt_mk (ps := [("value" : Str)]) X G0 a8 l8 c8 k8 fun _ _ _ _ _ _ us hl => match us, hl with | [_], _ => rfl
  have d9 := defAt_mk (ps := [("value" : Str)]) X G0 a9 l9 c9 k9 fun _ _ _ _ _ _ us hl => match us, hl with | [_], _ => rfl
  have d10 := defAt_mk (ps := [("value" : Str)]) X G0 a10 l10 c10 k10 fun _ _ _ _ _ _ us hl => match us, hl with | [_], _ => rfl
  have d11 := defAt_mk (ps := [("value" : Str)]) X G0 a11 l11 c11 k11 fun _ _ _ _ _ _ us hl => match us, hl with | [_], _ => rfl
  have d12 := defAt_mk (ps := [("number" : Str), ("digits" : Str)]) X G0 a12 l12 c12 k12 fun _ _ _ _ _ _ us hl => match us, hl with | [_, _], _ => rfl
  have d13 := defAt_mk (ps := [("part" : Str), ("date" : Str)]) X G0 a13 l13 c13 k13 fun _ _ _ _ _ _ us hl => match us, hl with | [_, _], _ => rfl
  have d14 := defAt_mk (ps := [("part" : Str), ("date" : Str)]) X G0 a14 l14 c14 k14 fun _ _ _ _ _ _ us hl => match us, hl with | [_, _], _ => rfl
  have d15 := defAt_mk (ps := [("pattern" : Str), ("date" : Str)]) X G0 a15 l15 c15 k15 fun _ _ _ _ _ _ us hl => match us, hl with | [_, _], _ => rfl
  have d16 := defAt_mk (ps := [("pattern" : Str), ("span" : Str)]) X G0 a16 l16 c16 k16 fun _ _ _ _ _ _ us hl => match us, hl with | [_, _], _ => rfl
  have d17 := defAt_mk (ps := [("pattern" : Str), ("span" : Str), ("text" : Str)]) X G0 a17 l17 c17 k17 fun _ _ _ _ _ _ us hl => match us, hl with | [_, _, _], _ => rfl
  have d18 := defAt_mk (ps := [("pattern" : Str), ("span" : Str)]) X G0 a18 l18 c18 k18 fun _ _ _ _ _ _ us hl => match us, hl with | [_, _], _ => rfl
  have d19 := defAt_mk (ps := [("pattern" : Str), ("span" : Str)]) X G0 a19 l19 c19 k19 fun _ _ _ _ _ _ us hl => match us, hl with | [_, _], _ => rfl
  have d20 := defAt_mk (ps := [("pattern" : Str), ("span" : Str)]) X G0 a20 l20 c20 k20 fun _ _ _ _ _ _ us hl => match us, hl with | [_, _], _ => rfl
  have d21 := defAt_mk (ps := [("pattern" : Str), ("span" : Str)]) X G0 a21 l21 c21 k21 fun _ _ _ _ _ _ us hl => match us, hl with | [_, _], _ => rfl
  have d22 := defAt_mk (ps := [("pattern" : Str), ("gaps" : Str)]) X G0 a22 l22 c22 k22 fun _ _ _ _ _ _ us hl => match us, hl with | [_, _], _ => rfl
  have d23 := defAt_mk (ps := [("many" : Str), ("size" : Str), ("start" : Str)]) X G0 a23 l23 c23 k23 fun _ _ _ _ _ _ us hl => match us, hl with | [_, _, _], _ => rfl
  have d24 := defAt_mk (ps := [("pattern" : Str), ("span" : Str)]) X G0 a24 l24 c24 k24 fun _ _ _ _ _ _ us hl => match us, hl with | [_, _], _ => rfl
  have d25 := defAt_mk (ps := [("part" : Str), ("text" : Str), ("at" : Str)]) X G0 a25 l25 c25 k25 fun _ _ _ _ _ _ us hl => match us, hl with | [_, _, _], _ => rfl
  have d26 := defAt_mk (ps := [("pattern" : Str), ("text" : Str)]) X G0 a26 l26 c26 k26 fun _ _ _ _ _ _ us hl => match us, hl with | [_, _], _ => rfl
  have d27 := defAt_mk (ps := [("pattern" : Str), ("span" : Str)]) X G0 a27 l27 c27 k27 fun _ _ _ _ _ _ us hl => match us, hl with | [_, _], _ => rfl
  have d28 := defAt_mk (ps := [("pattern" : Str), ("other" : Str), ("span" : Str)]) X G0 a28 l28 c28 k28 fun _ _ _ _ _ _ us hl => match us, hl with | [_, _, _], _ => rfl
  have d29 := defAt_mk (ps := [("value" : Str)]) X G0 a29 l29 c29 k29 fun _ _ _ _ _ _ us hl => match us, hl with | [_], _ => rfl
  have d30 := defAt_mk (ps := [("patterns" : Str), ("tables" : Str), ("date" : Str)]) X G0 a30 l30 c30 k30 fun _ _ _ _ _ _ us hl => match us, hl with | [_, _, _], _ => rfl
  have d31 := defAt_mk (ps := [("patterns" : Str), ("span" : Str)]) X G0 a31 l31 c31 k31 fun _ _ _ _ _ _ us hl => match us, hl with | [_, _], _ => rfl
  have d32 := defAt_mk (ps := [("_law_script" : Str), ("_law_town" : Str), ("_law_many" : Str)]) X G0 a32 l32 c32 k32 fun _ _ _ _ _ _ us hl => match us, hl with | [_, _, _], _ => rfl
  have d33 := defAt_mk (ps := [("_law_script" : Str), ("_law_town" : Str), ("_law_some" : Str)]) X G0 a33 l33 c33 k33 fun _ _ _ _ _ _ us hl => match us, hl with | [_, _, _], _ => rfl
  have d34 := defAt_mk (ps := [("_law_year" : Str)]) X G0 a34 l34 c34 k34 fun _ _ _ _ _ _ us hl => match us, hl with | [_], _ => rfl
  have d35 := defAt_mk (ps := [("_law_span" : Str)]) X G0 a35 l35 c35 k35 fun _ _ _ _ _ _ us hl => match us, hl with | [_], _ => rfl
  have d36 := defAt_mk (ps := [("_law_year" : Str), ("_law_mark" : Str)]) X G0 a36 l36 c36 k36 fun _ _ _ _ _ _ us hl => match us, hl with | [_, _], _ => rfl
  have d37 := defAt_mk (ps := [("_law_script" : Str)]) X G0 a37 l37 c37 k37 fun _ _ _ _ _ _ us hl => match us, hl with | [_], _ => rfl
  refine ⟨PySem.W.fnOf "law" "law" (defArgs s_law_k11) (defBody s_law_k11) (defScope s_law_k11) .none kV37 dc37 pm37 an37 cd37 ct37, fun s v => .of_eq rfl, fun base _ _ => ?_⟩
  have hb : ∀ x : Str, x ∈ bltNames → mg x = none := by
    intro x hx
    simp only [bltNames, List.mem_cons, List.not_mem_nil, or_false] at hx
    rcases hx with rfl | rfl | rfl | rfl | rfl | rfl | rfl | rfl | rfl | rfl | rfl | rfl | rfl | rfl | rfl | rfl | rfl | rfl
    · exact PySem.W.mg_none_of X G0 zlen
    · exact PySem.W.mg_none_of X G0 zstr
    · exact PySem.W.mg_none_of X G0 zint
    · exact PySem.W.mg_none_of X G0 ztuple
    · exact PySem.W.mg_none_of X G0 zlist
    · exact PySem.W.mg_none_of X G0 zsum
    · exact PySem.W.mg_none_of X G0 zall
    · exact PySem.W.mg_none_of X G0 zany
    · exact PySem.W.mg_none_of X G0 zmin
    · exact PySem.W.mg_none_of X G0 zmax
    · exact PySem.W.mg_none_of X G0 zisinstance
    · exact PySem.W.mg_none_of X G0 zrange
    · exact PySem.W.mg_none_of X G0 zenumerate
    · exact PySem.W.mg_none_of X G0 zzip
    · exact PySem.W.mg_none_of X G0 zbool
    · exact PySem.W.mg_none_of X G0 zset
    · exact PySem.W.mg_none_of X G0 zsorted
    · exact PySem.W.mg_none_of X G0 zdict
  have hg : ∀ p ∈ glsA, p.2 < 10 → ∃ v, G.gl p.2 = some v ∧ GloAt K mg p.1 v := by
    intro p hp h10
    simp only [glsA, List.mem_cons, List.not_mem_nil, or_false] at hp
    rcases hp with rfl | rfl | rfl | rfl | rfl | rfl | rfl | rfl | rfl | rfl | rfl
    · exact ⟨_, rfl, glo_int X G0 gaFIRST⟩
    · exact ⟨_, rfl, glo_int X G0 gaLAST⟩
    · exact ⟨_, rfl, glo_int X G0 gaYEARS⟩
    · exact ⟨_, rfl, glo_tup X G0 gaWEEKDAYS gbWEEKDAYS gcWEEKDAYS gdWEEKDAYS geWEEKDAYS gfWEEKDAYS⟩
    · exact ⟨_, rfl, glo_tup X G0 gaMONTHS gbMONTHS gcMONTHS gdMONTHS geMONTHS gfMONTHS⟩
    · exact ⟨_, rfl, glo_tup X G0 gaFIELDS gbFIELDS gcFIELDS gdFIELDS geFIELDS gfFIELDS⟩
    · exact ⟨_, rfl, glo_str X G0 gaLITERAL⟩
    · exact ⟨_, rfl, glo_int X G0 gaPARTS⟩
    · exact ⟨_, rfl, glo_str X G0 gaDIGITS⟩
    · exact ⟨_, rfl, glo_int X G0 gaMOST⟩
    · exact absurd h10 (by decide)
  have hL : ∀ p ∈ glsA, p.2 = 10 → LngAt K w mg p.1 := by
    intro p hp h10
    simp only [glsA, List.mem_cons, List.not_mem_nil, or_false] at hp
    rcases hp with rfl | rfl | rfl | rfl | rfl | rfl | rfl | rfl | rfl | rfl | rfl
    · exact absurd h10 (by decide)
    · exact absurd h10 (by decide)
    · exact absurd h10 (by decide)
    · exact absurd h10 (by decide)
    · exact absurd h10 (by decide)
    · exact absurd h10 (by decide)
    · exact absurd h10 (by decide)
    · exact absurd h10 (by decide)
    · exact absurd h10 (by decide)
    · exact absurd h10 (by decide)
    · exact lng_mk X G0 ga_L gb_L gk_L gl0_L gl1_L gl2_L gl3_L gl4_L gl5_L gl6_L gl7_L
  have hE : ∀ p ∈ glsA, ∀ c, p.2 = 100 + c → ExcAt K mg p.1 (cv c) := by
    intro p hp c hpc
    simp only [glsA, List.mem_cons, List.not_mem_nil, or_false] at hp
    rcases hp with rfl | rfl | rfl | rfl | rfl | rfl | rfl | rfl | rfl | rfl | rfl <;> exact absurd hpc (by show ¬ (_ = _); omega)
  have hH9 : (("DateError" : Str), 99) ∈ glsA → ∃ j, j + 1 ≤ 0 ∧ HotAt l.prog w K mg base cv j := fun h => absurd h (by decide +kernel)
  have hF6 : (("InvalidFormat" : Str), 106) ∈ glsA → FmtAt K mg cv := fun h => absurd h (by decide +kernel)
  have hC8 : (("Reader" : Str), 98) ∈ glsA → ∃ C, ClsAt K mg C := fun h => absurd h (by decide +kernel)
  have g0 : GOk l.prog w K mg base ⟨T0, glsA, M0⟩ G cv 0 := gOk0 hg hL hE hH9 hF6 hC8 hb
  have g1 : GOk l.prog w K mg base ⟨T1, glsA, M1⟩ G cv 1 := step (i := 0) g0 d0 sc_is_count rfl ck_is_count (p_is_count hH.toPat.toCal)
  have g2 : GOk l.prog w K mg base ⟨T2, glsA, M2⟩ G cv 2 := step (i := 1) g1 d1 sc_is_long rfl ck_is_long (p_is_long hH.toPat.toCal)
  have g3 : GOk l.prog w K mg base ⟨T3, glsA, M3⟩ G cv 3 := step (i := 2) g2 d2 sc_month_length rfl ck_month_length (p_month_length hH.toPat.toCal)
  have g4 : GOk l.prog w K mg base ⟨T4, glsA, M4⟩ G cv 4 := step (i := 4) g3 d3 sc_is_span rfl ck_is_span (p_is_span hH.toPat.toCal)
  have g5 : GOk l.prog w K mg base ⟨T5, glsA, M5⟩ G cv 5 := step (i := 6) g4 d4 sc_need_span rfl ck_need_span (p_need_span hH.toPat.toCal)
  have g6 : GOk l.prog w K mg base ⟨T6, glsA, M6⟩ G cv 6 := step (i := 7) g5 d5 sc_place_in_year rfl ck_place_in_year (p_place_in_year hH.toPat.toCal)
  have g7 : GOk l.prog w K mg base ⟨T7, glsA, M7⟩ G cv 7 := step (i := 8) g6 d6 sc_weekday_of rfl ck_weekday_of (p_weekday_of hH.toPat.toCal)
  have g8 : GOk l.prog w K mg base ⟨T8, glsA, M8⟩ G cv 8 := step (i := 11) g7 d7 sc_dates_in rfl ck_dates_in (p_dates_in hH.toPat.toCal)
  have g9 : GOk l.prog w K mg base ⟨T9, glsA, M9⟩ G cv 9 := step (i := 13) g8 d8 sc_is_literal rfl ck_is_literal (p_is_literal hH.toPat)
  have g10 : GOk l.prog w K mg base ⟨T10, glsA, M10⟩ G cv 10 := step (i := 14) g9 d9 sc_is_pattern rfl ck_is_pattern (p_is_pattern hH.toPat)
  have g11 : GOk l.prog w K mg base ⟨T11, glsA, M11⟩ G cv 11 := step (i := 15) g10 d10 sc_need_pattern rfl ck_need_pattern (p_need_pattern hH.toPat)
  have g12 : GOk l.prog w K mg base ⟨T12, glsA, M12⟩ G cv 12 := step (i := 16) g11 d11 sc_need_text rfl ck_need_text (p_need_text hH.toPat)
  have g13 : GOk l.prog w K mg base ⟨T13, glsA, M13⟩ G cv 13 := step (i := 17) g12 d12 sc_padded rfl ck_padded (p_padded hH.toPat)
  have g14 : GOk l.prog w K mg base ⟨T14, glsA, M14⟩ G cv 14 := step (i := 18) g13 d13 sc_value_of rfl ck_value_of (p_value_of hH.toPat)
  have g15 : GOk l.prog w K mg base ⟨T15, glsA, M15⟩ G cv 15 := step (i := 19) g14 d14 sc_piece rfl ck_piece (p_piece hH.toPat)
  have g16 : GOk l.prog w K mg base ⟨T16, glsA, M16⟩ G cv 16 := step (i := 20) g15 d15 sc_written rfl ck_written (p_written hH.toPat)
  have g17 : GOk l.prog w K mg base ⟨T17, glsA, M17⟩ G cv 17 := step (i := 22) g16 d16 sc_table rfl ck_table (p_table hH.toPat)
  have g18 : GOk l.prog w K mg base ⟨T18, glsA, M18⟩ G cv 18 := step (i := 23) g17 d17 sc_readings rfl ck_readings (p_readings hH.toPat)
  have g19 : GOk l.prog w K mg base ⟨T19, glsA, M19⟩ G cv 19 := step (i := 24) g18 d18 sc_clash_of rfl ck_clash_of (p_clash_of hH)
  have g20 : GOk l.prog w K mg base ⟨T20, glsA, M20⟩ G cv 20 := step (i := 25) g19 d19 sc_clash rfl ck_clash (p_clash hH rfl)
  have g21 : GOk l.prog w K mg base ⟨T21, glsA, M21⟩ G cv 21 := step (i := 26) g20 d20 sc_unsorted rfl ck_unsorted (p_unsorted hH)
  have g22 : GOk l.prog w K mg base ⟨T22, glsA, M22⟩ G cv 22 := step (i := 27) g21 d21 sc_widths rfl ck_widths (p_widths hH)
  have g23 : GOk l.prog w K mg base ⟨T23, glsA, M23⟩ G cv 23 := step (i := 28) g22 d22 sc_with_bars rfl ck_with_bars (p_with_bars)
  have g24 : GOk l.prog w K mg base ⟨T24, glsA, M24⟩ G cv 30 := steprec (i := 29) (C := ctC_choices) 6 g23 d23 sc_choices rfl (by decide) (by decide) ck_choices rfl (fun m G' h => p_choices m h)
  have g25 : GOk l.prog w K mg base ⟨T25, glsA, M25⟩ G cv 31 := step (i := 30) g24 d24 sc_bars rfl ck_bars (p_bars hH rfl rfl rfl)
  have g26 : GOk l.prog w K mg base ⟨T26, glsA, M26⟩ G cv 32 := step (i := 31) g25 d25 sc_taken rfl ck_taken (p_taken hH)
  have g27 : GOk l.prog w K mg base ⟨T27, glsA, M27⟩ G cv 33 := step (i := 32) g26 d26 sc_greedy_result rfl ck_greedy_result (p_greedy_result hH rfl)
  have g28 : GOk l.prog w K mg base ⟨T28, glsA, M28⟩ G cv 34 := step (i := 34) g27 d27 sc_misread rfl ck_misread (p_misread hH rfl)
  have g29 : GOk l.prog w K mg base ⟨T29, glsA, M29⟩ G cv 35 := step (i := 35) g28 d28 sc_confused rfl ck_confused (p_confused hH)
  have g30 : GOk l.prog w K mg base ⟨T30, glsA, M30⟩ G cv 36 := step (i := 36) g29 d29 sc_need_patterns rfl ck_need_patterns (p_need_patterns hH)
  have g31 : GOk l.prog w K mg base ⟨T31, glsA, M31⟩ G cv 37 := step (i := 39) g30 d30 sc_is_telling rfl ck_is_telling (p_is_telling hH)
  have g32 : GOk l.prog w K mg base ⟨T32, glsA, M32⟩ G cv 38 := step (i := 40) g31 d31 sc_telling rfl ck_telling (p_telling hH rfl rfl)
  have g33 : GOk l.prog w K mg base ⟨T33, glsA, M33⟩ G cv 39 := step (i := 100) g32 d32 sc_law_draw rfl ck_law_draw (p_draw hH)
  have g34 : GOk l.prog w K mg base ⟨T34, glsA, M34⟩ G cv 40 := step (i := 101) g33 d33 sc_law_pick rfl ck_law_pick (p_pick hH)
  have g35 : GOk l.prog w K mg base ⟨T35, glsA, M35⟩ G cv 41 := step (i := 104) g34 d34 sc_law_days rfl ck_law_days (p_days hH)
  have g36 : GOk l.prog w K mg base ⟨T36, glsA, M36⟩ G cv 42 := step (i := 105) g35 d35 sc_law_dates rfl ck_law_dates (p_rows hH)
  have g37 : GOk l.prog w K mg base ⟨T37, glsA, M37⟩ G cv 43 := step (i := 200) g36 d36 sc_law_orders_k11 rfl ck_law_orders_k11 (p_law_orders_k11 hH rfl rfl rfl rfl rfl)
  exact law_cv (cv := cv) (def_ok d37.F sc_law_k11 rfl g37 ck_law_k11 (p_law_k11 hH rfl rfl rfl rfl rfl))
end PyI
open PySem PySem.W PyProof.Rows
set_option maxHeartbeats 0 in
theorem PySem.Challenge.cw_datepattern_k11_whole_known_dates_holds : PySem.Challenge.rw_datepattern_k11_whole_known_dates.Holds := by
  w_on
  o_law
  k_head
  case hw => w_witness2
  k_fill
  refine L2.walk_of (l := PySem.Challenge.rw_datepattern_k11_whole_known_dates) (n := 63) (k := 44) (x := "_law_script") (CX := fun w => L2N.CX (PySem.Challenge.rw_datepattern_k11_whole_known_dates).prog w) (sp := fun w => PyI.spOf _ (PyI.ctLaw 63) 1 (fun _ => Value.none)) rfl (by decide) rfl ⟨rfl, by decide, by decide⟩ (fun w h Y => PySem.W.kIn_of Y) ?F (fun w H a ns h1 h2 h3 => PyI.law_sp h1 h2 h3) (fun w H s e s' h => by obtain ⟨_, _, _, _, _, _, _, _, _, _, _, _, z⟩ := h; exact z.elim)
  case F =>
    intro w mg fa h KX G hmg
    refine' PyI.all_mk KX G hmg ?a0 ?l0 ?c0 ?k0 ?a1 ?l1 ?c1 ?k1 ?a2 ?l2 ?c2 ?k2 ?a3 ?l3 ?c3 ?k3 ?a4 ?l4 ?c4 ?k4 ?a5 ?l5 ?c5 ?k5 ?a6 ?l6 ?c6 ?k6 ?a7 ?l7 ?c7 ?k7 ?a8 ?l8 ?c8 ?k8 ?a9 ?l9 ?c9 ?k9 ?a10 ?l10 ?c10 ?k10 ?a11 ?l11 ?c11 ?k11 ?a12 ?l12 ?c12 ?k12 ?a13 ?l13 ?c13 ?k13 ?a14 ?l14 ?c14 ?k14 ?a15 ?l15 ?c15 ?k15 ?a16 ?l16 ?c16 ?k16 ?a17 ?l17 ?c17 ?k17 ?a18 ?l18 ?c18 ?k18 ?a19 ?l19 ?c19 ?k19 ?a20 ?l20 ?c20 ?k20 ?a21 ?l21 ?c21 ?k21 ?a22 ?l22 ?c22 ?k22 ?a23 ?l23 ?c23 ?k23 ?a24 ?l24 ?c24 ?k24 ?a25 ?l25 ?c25 ?k25 ?a26 ?l26 ?c26 ?k26 ?a27 ?l27 ?c27 ?k27 ?a28 ?l28 ?c28 ?k28 ?a29 ?l29 ?c29 ?k29 ?a30 ?l30 ?c30 ?k30 ?a31 ?l31 ?c31 ?k31 ?a32 ?l32 ?c32 ?k32 ?a33 ?l33 ?c33 ?k33 ?a34 ?l34 ?c34 ?k34 ?a35 ?l35 ?c35 ?k35 ?a36 ?l36 ?c36 ?k36 ?a37 ?l37 ?c37 ?k37 ?gaFIRST ?gaLAST ?gaYEARS ?gaWEEKDAYS ?gbWEEKDAYS ?gcWEEKDAYS ?gdWEEKDAYS ?geWEEKDAYS ?gfWEEKDAYS ?gaMONTHS ?gbMONTHS ?gcMONTHS ?gdMONTHS ?geMONTHS ?gfMONTHS ?gaFIELDS ?gbFIELDS ?gcFIELDS ?gdFIELDS ?geFIELDS ?gfFIELDS ?gaLITERAL ?gaPARTS ?gaDIGITS ?gaMOST ?ga_L ?gb_L ?gk_L ?gl0_L ?gl1_L ?gl2_L ?gl3_L ?gl4_L ?gl5_L ?gl6_L ?gl7_L ?zlen ?zstr ?zint ?ztuple ?zlist ?zsum ?zall ?zany ?zmin ?zmax ?zisinstance ?zrange ?zenumerate ?zzip ?zbool ?zset ?zsorted ?zdict
    (case a0 => k_is)
    (case l0 => k_is)
    (case c0 => k_is)
    (case k0 => k_is)
    (case a1 => k_is)
    (case l1 => k_is)
    (case c1 => k_is)
    (case k1 => k_is)
    (case a2 => k_is)
    (case l2 => k_is)
    (case c2 => k_is)
    (case k2 => k_is)
    (case a3 => k_is)
    (case l3 => k_is)
    (case c3 => k_is)
    (case k3 => k_is)
    (case a4 => k_is)
    (case l4 => k_is)
    (case c4 => k_is)
    (case k4 => k_is)
    (case a5 => k_is)
    (case l5 => k_is)
    (case c5 => k_is)
    (case k5 => k_is)
    (case a6 => k_is)
    (case l6 => k_is)
    (case c6 => k_is)
    (case k6 => k_is)
    (case a7 => k_is)
    (case l7 => k_is)
    (case c7 => k_is)
    (case k7 => k_is)
    (case a8 => k_is)
    (case l8 => k_is)
    (case c8 => k_is)
    (case k8 => k_is)
    (case a9 => k_is)
    (case l9 => k_is)
    (case c9 => k_is)
    (case k9 => k_is)
    (case a10 => k_is)
    (case l10 => k_is)
    (case c10 => k_is)
    (case k10 => k_is)
    (case a11 => k_is)
    (case l11 => k_is)
    (case c11 => k_is)
    (case k11 => k_is)
    (case a12 => k_is)
    (case l12 => k_is)
    (case c12 => k_is)
    (case k12 => k_is)
    (case a13 => k_is)
    (case l13 => k_is)
    (case c13 => k_is)
    (case k13 => k_is)
    (case a14 => k_is)
    (case l14 => k_is)
    (case c14 => k_is)
    (case k14 => k_is)
    (case a15 => k_is)
    (case l15 => k_is)
    (case c15 => k_is)
    (case k15 => k_is)
    (case a16 => k_is)
    (case l16 => k_is)
    (case c16 => k_is)
    (case k16 => k_is)
    (case a17 => k_is)
    (case l17 => k_is)
    (case c17 => k_is)
    (case k17 => k_is)
    (case a18 => k_is)
    (case l18 => k_is)
    (case c18 => k_is)
    (case k18 => k_is)
    (case a19 => k_is)
    (case l19 => k_is)
    (case c19 => k_is)
    (case k19 => k_is)
    (case a20 => k_is)
    (case l20 => k_is)
    (case c20 => k_is)
    (case k20 => k_is)
    (case a21 => k_is)
    (case l21 => k_is)
    (case c21 => k_is)
    (case k21 => k_is)
    (case a22 => k_is)
    (case l22 => k_is)
    (case c22 => k_is)
    (case k22 => k_is)
    (case a23 => k_is)
    (case l23 => k_is)
    (case c23 => k_is)
    (case k23 => k_is)
    (case a24 => k_is)
    (case l24 => k_is)
    (case c24 => k_is)
    (case k24 => k_is)
    (case a25 => k_is)
    (case l25 => k_is)
    (case c25 => k_is)
    (case k25 => k_is)
    (case a26 => k_is)
    (case l26 => k_is)
    (case c26 => k_is)
    (case k26 => k_is)
    (case a27 => k_is)
    (case l27 => k_is)
    (case c27 => k_is)
    (case k27 => k_is)
    (case a28 => k_is)
    (case l28 => k_is)
    (case c28 => k_is)
    (case k28 => k_is)
    (case a29 => k_is)
    (case l29 => k_is)
    (case c29 => k_is)
    (case k29 => k_is)
    (case a30 => k_is)
    (case l30 => k_is)
    (case c30 => k_is)
    (case k30 => k_is)
    (case a31 => k_is)
    (case l31 => k_is)
    (case c31 => k_is)
    (case k31 => k_is)
    (case a32 => k_is)
    (case l32 => k_is)
    (case c32 => k_is)
    (case k32 => k_is)
    (case a33 => k_is)
    (case l33 => k_is)
    (case c33 => k_is)
    (case k33 => k_is)
    (case a34 => k_is)
    (case l34 => k_is)
    (case c34 => k_is)
    (case k34 => k_is)
    (case a35 => k_is)
    (case l35 => k_is)
    (case c35 => k_is)
    (case k35 => k_is)
    (case a36 => k_is)
    (case l36 => k_is)
    (case c36 => k_is)
    (case k36 => k_is)
    (case a37 => k_is)
    (case l37 => k_is)
    (case c37 => k_is)
    (case k37 => k_is)
    (case gaFIRST => k_is)
    (case gaLAST => k_is)
    (case gaYEARS => k_is)
    (case gaWEEKDAYS => k_is)
    (case gbWEEKDAYS => k_is)
    (case gcWEEKDAYS => rfl)
    (case gdWEEKDAYS => rfl)
    (case geWEEKDAYS => decide)
    (case gfWEEKDAYS => decide)
    (case gaMONTHS => k_is)
    (case gbMONTHS => k_is)
    (case gcMONTHS => rfl)
    (case gdMONTHS => rfl)
    (case geMONTHS => decide)
    (case gfMONTHS => decide)
    (case gaFIELDS => k_is)
    (case gbFIELDS => k_is)
    (case gcFIELDS => rfl)
    (case gdFIELDS => rfl)
    (case geFIELDS => decide)
    (case gfFIELDS => decide)
    (case gaLITERAL => k_is)
    (case gaPARTS => k_is)
    (case gaDIGITS => k_is)
    (case gaMOST => k_is)
    (case ga_L => k_is)
    (case gb_L => k_is)
    (case gk_L => k_keys)
    (case gl0_L => k_is)
    (case gl1_L => k_is)
    (case gl2_L => k_is)
    (case gl3_L => k_is)
    (case gl4_L => k_is)
    (case gl5_L => k_is)
    (case gl6_L => k_is)
    (case gl7_L => k_is)
    (case zlen => k_is)
    (case zstr => k_is)
    (case zint => k_is)
    (case ztuple => k_is)
    (case zlist => k_is)
    (case zsum => k_is)
    (case zall => k_is)
    (case zany => k_is)
    (case zmin => k_is)
    (case zmax => k_is)
    (case zisinstance => k_is)
    (case zrange => k_is)
    (case zenumerate => k_is)
    (case zzip => k_is)
    (case zbool => k_is)
    (case zset => k_is)
    (case zsorted => k_is)
    (case zdict => k_is)
    all_goals exact Value.none
