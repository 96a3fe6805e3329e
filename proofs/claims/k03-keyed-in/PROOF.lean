import PyProof.Rows.All
import Wide.All
import OpenK.AllK
import Wide.FinOn
import HandS.ReplaceList
import HandS.ForMost
import HandS.IsInst
import HandS.TupAny
import HandS.Deep
import HandS.Style
import HandS.Flow
import HandS.Zip
import HandS.Steps
import HandS.Replace
import HandS.StrMore
import HandS.Codes
import HandS.Conv
import PyProof.DictRoadsH
import PyProof.FString2
import KE.KDictDisplayH
import KE.DataCmp
import HandS.SortInts
import HandS.ExcValue
import PyProof.CollectStr
import PyProof.TupleOfSeq
import PyProof.Rows.SortStr
import PyProof.Rows.SortShellAny
import HandS.Flt
import KE.DataMinMax
import HandS.Wide
import HandS.ForExc
import HandS.Set
import HandS.Strs
import PyProof.Rows.SetFrom
import KE.KDictWalk
import KE.GoesMore
import KE.GoesZip
import KE.GoesEnum
import HandS.ExcIs
import HandS.ReplaceLit
import HandS.Defaults
import HandS.HeadHook1
import HandS.More
import KE.KStateDown
import HandS.Head0
import HandS.Head1
import HandS.Head2
import HandS.HeadEnd
import HandS.HeadHook2
import HandS.HeadHook4
import HandS.Star
import PySem.Challenge.RW_quoteturns_k03_whole_texts_keyed_in
set_option Elab.async false
set_option linter.all false
set_option maxRecDepth 100000
set_option maxHeartbeats 8000000
/-! ### own trees of the Python subset, and what they do over pure values and an abstract memory -/
namespace Qt
/-- a value: lists and dicts here never change again; ref n is the n-th object of the memory -/
inductive PV where
  | non | bl (b : Bool) | int (i : Int) | str (s : List Nat)
  | tup (xs : List PV) | lst (xs : List PV) | dct (ks vs : List PV) | ref (n : Nat) | scr (ns : List Int)
/-- an object of the memory -/
inductive MO where
  | lst (xs : List PV) | dct (ks vs : List PV) | ins (c : Nat) (fs : List (Nat × PV)) | dead
abbrev Mem := List MO
abbrev Rho := List (Option PV)
abbrev Kt := PV → Mem → Prop
abbrev Xt := Nat → List (Nat × PV) → Mem → Prop
abbrev X0 : Xt := fun _ _ _ => False
abbrev CE := Nat → List PV → Mem → Kt → Xt → Prop
abbrev LL : Nat := 16777216

inductive Op where | add | sub | mul | div | mod | pow
inductive Cm where | eq | ne | lt | le | gt | ge | is_ | isnt | in_ | notin
inductive Ty where | int | bool | str | tuple | list
inductive Bi where | abs | all | any | int | len | list | tuple | min2 | max2 | min1 | max3 | sum | sorted | str | isi (t : Ty)
inductive Bm where | join | replace | index | split | append | pop | get | lindex

mutual
def PV.eqv : PV → PV → Bool
  | .non, .non => true
  | .bl a, .bl b => a == b
  | .bl a, .int j => (if a then 1 else 0) == j
  | .int i, .bl b => i == (if b then 1 else 0)
  | .int i, .int j => i == j
  | .str x, .str y => decide (x = y)
  | .lst xs, .lst ys => eqvs xs ys
  | .tup xs, .tup ys => eqvs xs ys
  | _, _ => false
def eqvs : List PV → List PV → Bool
  | [], [] => true
  | x :: xs, y :: ys => PV.eqv x y && eqvs xs ys
  | _, _ => false
end
mutual
/-- data that == reads: texts of code points, no dicts, no objects of the memory; at most d deep -/
def PV.okd : Nat → PV → Bool
  | _, .non => true
  | _, .bl _ => true
  | _, .int _ => true
  | _, .str s => s.all (· < 1114112)
  | 0, .tup _ => false
  | 0, .lst _ => false
  | d + 1, .tup xs => oks d xs
  | d + 1, .lst xs => oks d xs
  | _, .dct _ _ => false
  | _, .ref _ => false
  | _, .scr _ => false
def oks : Nat → List PV → Bool
  | _, [] => true
  | d, x :: xs => PV.okd d x && oks d xs
end
mutual
/-- what can be a key, at most d deep -/
def PV.hk : Nat → PV → Bool
  | _, .non => true
  | _, .bl _ => true
  | _, .int _ => true
  | _, .str s => s.all (· < 1114112)
  | 0, .tup _ => false
  | d + 1, .tup xs => hks d xs
  | _, .lst _ => false
  | _, .dct _ _ => false
  | _, .ref _ => false
  | _, .scr _ => false
def hks : Nat → List PV → Bool
  | _, [] => true
  | d, x :: xs => PV.hk d x && hks d xs
end
abbrev PV.ok (v : PV) : Bool := PV.okd 20 v
def isTup : PV → Bool
  | .tup _ => true
  | _ => false
/-- a dict's keys are texts -/
def isTxt : List PV → Bool
  | .str _ :: _ => true
  | _ => false
def isScal : PV → Bool
  | .non => true | .bl _ => true | .int _ => true | .str _ => true
  | _ => false
/-- the items of a list -/
def asL (M : Mem) : PV → Option (List PV)
  | .lst xs => some xs
  | .ref n => match M[n]? with
    | some (.lst xs) => some xs
    | _ => none
  | _ => none
def truthy (M : Mem) : PV → Option Bool
  | .non => some false
  | .bl b => some b
  | .int i => some (i != 0)
  | .tup xs => some (!xs.isEmpty)
  | .lst xs => some (!xs.isEmpty)
  | _ => none
/-- an index from the front or the back -/
def ixAt (n : Nat) (i : Int) : Option Nat := if 0 ≤ i then (if i < n then some i.toNat else none) else if -(n : Int) ≤ i then some (i + n).toNat else none
/-- an end of a slice -/
def cutE (n d : Nat) : Option Int → Nat
  | none => d
  | some v => if v < 0 then (v + n).toNat else min v.toNat n
def cutL {α : Type} (xs : List α) (lo hi : Option Int) : List α := (xs.drop (cutE xs.length 0 lo)).take (cutE xs.length xs.length hi - cutE xs.length 0 lo)
def dFind (k : PV) : List PV → List PV → Option PV
  | x :: ks, v :: vs => if PV.eqv x k then some v else dFind k ks vs
  | _, _ => none
/-- a dict's keys and values behind d[k] = v -/
def dPutK (k : PV) (ks : List PV) : List PV := if (ks.any fun z => PV.eqv z k) = true then ks else ks ++ [k]
def dRep (k v : PV) : List PV → List PV → List PV
  | x :: ks, w :: vs => (if PV.eqv x k = true then v else w) :: dRep k v ks vs
  | _, _ => []
def dPutV (k v : PV) (ks vs : List PV) : List PV := if (ks.any fun z => PV.eqv z k) = true then dRep k v ks vs else vs ++ [v]
def strVs (s : List Nat) : List PV := s.map fun c => PV.str [c]
def bools : List PV → Option (List Bool)
  | [] => some []
  | .bl b :: r => match bools r with
    | some bs => some (b :: bs)
    | none => none
  | _ => none
def intsOf : List PV → Option (List Int)
  | [] => some []
  | .int b :: r => match intsOf r with
    | some bs => some (b :: bs)
    | none => none
  | _ => none
def strsOf : List PV → Option (List (List Nat))
  | [] => some []
  | .str b :: r => match strsOf r with
    | some bs => some (b :: bs)
    | none => none
  | _ => none
/-- texts joined -/
def joinS (sep : List Nat) : List (List Nat) → List Nat
  | [] => []
  | [a] => a
  | a :: r => a ++ sep ++ joinS sep r
def firstS (c : Nat) : List Nat → Option Nat
  | [] => none
  | x :: r => if x == c then some 0 else match firstS c r with
    | some k => some (k + 1)
    | none => none
/-- the first place of a value -/
def firstV (y : PV) : List PV → Option Nat
  | [] => none
  | x :: r => match PV.eqv x y with
    | true => some 0
    | false => (match firstV y r with
      | some k => some (k + 1)
      | none => none)
def preS (S l : List Nat) : Bool := l.take S.length == S
/-- cut at each S from the left; k signs are still to be passed over -/
def splitS (S : List Nat) : Nat → List Nat → List Nat → List (List Nat)
  | _, acc, [] => [acc]
  | 0, acc, c :: r => if preS S (c :: r) = true then acc :: splitS S (S.length - 1) [] r else splitS S 0 (acc ++ [c]) r
  | k + 1, acc, _ :: r => splitS S k acc r
def replS (S b l : List Nat) : List Nat := joinS b (splitS S 0 [] l)
def ltN : List Nat → List Nat → Bool
  | [], [] => false
  | [], _ :: _ => true
  | _ :: _, [] => false
  | x :: xs, y :: ys => if x = y then ltN xs ys else decide (x < y)

mutual
/-- data that < reads: place by place of one kind -/
def PV.alk : PV → PV → Bool
  | .bl _, .bl _ => true
  | .int _, .int _ => true
  | .str _, .str _ => true
  | .tup xs, .tup ys => alks xs ys
  | _, _ => false
def alks : List PV → List PV → Bool
  | x :: xs, y :: ys => PV.alk x y && alks xs ys
  | [], _ => true
  | _ :: _, [] => true
end
mutual
/-- < of such data -/
def PV.ltv : PV → PV → Bool
  | .bl a, .bl b => !a && b
  | .int a, .int b => decide (a < b)
  | .str a, .str b => ltN a b
  | .tup xs, .tup ys => ltvs xs ys
  | _, _ => false
def ltvs : List PV → List PV → Bool
  | [], [] => false
  | [], _ :: _ => true
  | _ :: _, [] => false
  | x :: xs, y :: ys => if PV.eqv x y = true then ltvs xs ys else PV.ltv x y
end
/-- sorted -/
def insW {α : Type} (lt : α → α → Bool) (x : α) : List α → List α
  | [] => [x]
  | y :: r => if lt y x = true then y :: insW lt x r else x :: y :: r
def sortW {α : Type} (lt : α → α → Bool) : List α → List α
  | [] => []
  | x :: r => insW lt x (sortW lt r)
/-- the members once each -/
def dedL {α : Type} [DecidableEq α] : List α → List α
  | [] => []
  | x :: r => if x ∈ r then dedL r else x :: dedL r
def opW (o : Op) (x y : PV) (M : Mem) (Q : PV → Prop) : Prop := match o, x, y with
  | .add, .int i, .int j => Q (.int (i + j))
  | .add, .str a, .str b => a.length + b.length ≤ LL ∧ Q (.str (a ++ b))
  | .add, .tup a, .tup b => a.length + b.length ≤ LL ∧ Q (.tup (a ++ b))
  | .add, a, b => match asL M a, asL M b with
    | some xs, some ys => xs.length + ys.length ≤ LL ∧ Q (.lst (xs ++ ys))
    | _, _ => False
  | .sub, .int i, .int j => Q (.int (i - j))
  | .mul, .int i, .int j => ((-(2 ^ 64) < i ∧ i < 2 ^ 64) ∨ (-(2 ^ 64) < j ∧ j < 2 ^ 64)) ∧ Q (.int (i * j))
  | .div, .int i, .int j => (0 < j ∧ j < 1073741824) ∧ Q (.int (i / j))
  | .mod, .int i, .int j => 0 < j ∧ Q (.int (i % j))
  | .pow, .int i, .int j => (0 ≤ j ∧ j ≤ 1000000 ∧ i.natAbs < 2 ^ 64) ∧ Q (.int (i ^ j.toNat))
  | .mul, .str a, .int j => (0 ≤ j ∧ j ≤ 1000 ∧ a.length ≤ 1000) ∧ Q (.str (List.replicate j.toNat a).flatten)
  | _, _, _ => False
def eqW (x y : PV) (Q : Bool → Prop) : Prop := match x, y with
  | .str a, .str b => Q (decide (a = b))
  | .int a, .int b => Q (decide (a = b))
  | x, y => (x.ok && y.ok) = true ∧ Q (PV.eqv x y)
def isW (x y : PV) (Q : Bool → Prop) : Prop := match x, y with
  | .non, .non => Q true
  | .bl _, .non => Q false
  | .int _, .non => Q false
  | .str _, .non => Q false
  | .tup _, .non => Q false
  | .lst _, .non => Q false
  | .ref _, .non => Q false
  | .bl a, .bl b => Q (decide (a = b))
  | _, _ => False
def inW (x y : PV) (M : Mem) (Q : Bool → Prop) : Prop := match y with
  | .str t => match x with
    | .str [c] => Q (decide (c ∈ t))
    | _ => False
  | .tup ys => (isScal x && ys.all isScal) = true ∧ Q (ys.any fun z => PV.eqv z x)
  | .lst ys => (x.ok && PV.ok (.lst ys)) = true ∧ Q (ys.any fun z => PV.eqv z x)
  | .ref n => match M[n]? with
    | some (.lst ys) => (x.ok && PV.ok (.lst ys)) = true ∧ Q (ys.any fun z => PV.eqv z x)
    | some (.dct ks _) => (isTup x && x.hk 6) = true ∧ Q (ks.any fun z => PV.eqv z x)
    | _ => False
  | _ => False
def cmW (o : Cm) (x y : PV) (M : Mem) (Q : Bool → Prop) : Prop := match o with
  | .eq => eqW x y Q
  | .ne => eqW x y fun b => Q (!b)
  | .is_ => isW x y Q
  | .isnt => isW x y fun b => Q (!b)
  | .in_ => inW x y M Q
  | .notin => inW x y M fun b => Q (!b)
  | .lt => match x, y with
    | .int i, .int j => Q (decide (i < j))
    | .str a, .str b => Q (ltN a b)
    | .tup xs, .tup ys => (PV.ok (.tup xs) && (PV.ok (.tup ys) && alks xs ys)) = true ∧ Q (ltvs xs ys)
    | _, _ => False
  | .le => match x, y with
    | .int i, .int j => Q (decide (i ≤ j))
    | _, _ => False
  | .gt => match x, y with
    | .int i, .int j => Q (decide (j < i))
    | .tup xs, .tup ys => (PV.ok (.tup xs) && (PV.ok (.tup ys) && alks xs ys)) = true ∧ Q (ltvs ys xs)
    | _, _ => False
  | .ge => match x, y with
    | .int i, .int j => Q (decide (j ≤ i))
    | _, _ => False
def ixW (x i : PV) (M : Mem) (Q : PV → Prop) : Prop := match x, i with
  | .str s, .int k => s.length ≤ LL ∧ match ixAt s.length k with
    | some j => (match s[j]? with
      | some c => Q (.str [c])
      | none => False)
    | none => False
  | .tup xs, .int k => (match ixAt xs.length k with
    | some j => (match xs[j]? with
      | some v => Q v
      | none => False)
    | none => False)
  | .scr ns, .int k => (match ixAt ns.length k with
    | some j => (match ns[j]? with
      | some v => Q (.int v)
      | none => False)
    | none => False)
  | .dct ks vs, .str a => isTxt ks = true ∧ (match dFind (.str a) ks vs with
    | some v => Q v
    | none => False)
  | x, .int k => (match asL M x with
    | some xs => (match ixAt xs.length k with
      | some j => (match xs[j]? with
        | some v => Q v
        | none => False)
      | none => False)
    | none => False)
  | _, _ => False
def slW (x : PV) (lo hi : Option Int) (M : Mem) (Q : PV → Prop) : Prop := match x with
  | .str s => s.length ≤ LL ∧ Q (.str (cutL s lo hi))
  | .tup xs => Q (.tup (cutL xs lo hi))
  | x => (match asL M x with
    | some xs => Q (.lst (cutL xs lo hi))
    | none => False)
def seqOf (M : Mem) : PV → Option (List PV)
  | .tup xs => some xs
  | x => asL M x
/-- sorted(set(x)) -/
def ssW (x : PV) (M : Mem) (Q : PV → Prop) : Prop := match seqOf M x with
  | some xs => xs.length < 4095 ∧ (match intsOf xs with
    | some ns => Q (.lst ((sortW (fun a b => decide (a < b)) (dedL ns)).map PV.int))
    | none => (match strsOf xs with
      | some ss => Q (.lst ((sortW ltN (dedL ss)).map PV.str))
      | none => False))
  | none => False
def isTy : Ty → PV → Bool
  | .int, .int _ => true
  | .int, .bl _ => true
  | .bool, .bl _ => true
  | .str, .str _ => true
  | .tuple, .tup _ => true
  | .list, .lst _ => true
  | _, _ => false
def isRef : PV → Bool
  | .dct _ _ => true
  | .ref _ => true
  | .scr _ => true
  | _ => false
def minP (y : PV) (ys : List PV) : PV := ys.foldl (fun a z => if PV.ltv z a = true then z else a) y
def biW (b : Bi) (xs : List PV) (M : Mem) (Q : PV → Prop) : Prop := match b, xs with
  | .abs, [.int i] => Q (.int (if i < 0 then -i else i))
  | .all, [x] => (match asL M x with
    | some xs => (match bools xs with
      | some bs => Q (.bl (bs.all id))
      | none => False)
    | none => False)
  | .any, [x] => (match asL M x with
    | some xs => (match bools xs with
      | some bs => Q (.bl (bs.any id))
      | none => False)
    | none => False)
  | .int, [.int i] => Q (.int i)
  | .int, [.bl k] => Q (.int (if k then 1 else 0))
  | .len, [.str s] => s.length ≤ LL ∧ Q (.int s.length)
  | .len, [.tup s] => Q (.int s.length)
  | .len, [.scr s] => Q (.int s.length)
  | .len, [x] => (match asL M x with
    | some xs => Q (.int xs.length)
    | none => False)
  | .list, [.str s] => s.length ≤ LL ∧ Q (.lst (strVs s))
  | .list, [.tup s] => Q (.lst s)
  | .list, [x] => (match asL M x with
    | some xs => Q (.lst xs)
    | none => False)
  | .tuple, [.tup s] => Q (.tup s)
  | .tuple, [x] => (match asL M x with
    | some xs => Q (.tup xs)
    | none => False)
  | .sorted, [.str s] => s.length ≤ LL ∧ Q (.lst (strVs (sortW (fun a b => decide (a < b)) s)))
  | .sorted, [.tup xs] => (match strsOf xs with
    | some ss => ss.length ≤ LL ∧ Q (.lst ((sortW ltN ss).map PV.str))
    | none => False)
  | .sorted, [x] => (match asL M x with
    | some xs => (match strsOf xs with
      | some ss => ss.length ≤ LL ∧ Q (.lst ((sortW ltN ss).map PV.str))
      | none => (match intsOf xs with
        | some ns => Q (.lst ((sortW (fun a b => decide (a < b)) ns).map PV.int))
        | none => False))
    | none => False)
  | .max3, [.int i, .int j, .int k] => Q (.int (if k > (if j > i then j else i) then k else if j > i then j else i))
  | .min2, [.int i, .int j] => Q (.int (if j < i then j else i))
  | .min2, [.str a, .str b] => Q (.str (if ltN b a = true then b else a))
  | .max2, [.int i, .int j] => Q (.int (if j > i then j else i))
  | .min1, [x] => (match asL M x with
    | some (y :: ys) => (hks 6 (y :: ys) = true ∧ ∀ a ∈ y :: ys, ∀ b ∈ y :: ys, PV.alk a b = true) ∧ Q (minP y ys)
    | _ => False)
  | .sum, [x] => (match asL M x with
    | some xs => (match intsOf xs with
      | some ns => Q (.int ns.sum)
      | none => False)
    | none => False)
  | .isi t, [x] => isRef x = false ∧ Q (.bl (isTy t x))
  | _, _ => False
/-- the receiver's kind -/
def bmK (b : Bm) (o : PV) (M : Mem) : Bool := match b, o with
  | .join, .str _ => true
  | .replace, .str _ => true
  | .index, .str _ => true
  | .split, .str _ => true
  | .get, .dct ks _ => isTxt ks
  | .get, .ref n => (match M[n]? with
    | some (.dct _ _) => true
    | _ => false)
  | .lindex, .lst _ => true
  | .append, .ref n => (match M[n]? with
    | some (.lst _) => true
    | _ => false)
  | .pop, .ref n => (match M[n]? with
    | some (.lst _) => true
    | _ => false)
  | _, _ => false
def bmW (b : Bm) (o : PV) (xs : List PV) (M : Mem) (Q : Kt) : Prop := match b, o, xs with
  | .join, .str s, [x] => (match asL M x with
    | some xs => (match strsOf xs with
      | some ps => ((ps.map (·.length)).sum + ps.length * s.length ≤ LL) ∧ Q (.str (joinS s ps)) M
      | none => False)
    | none => False)
  | .index, .str s, [.str [c]] => (match firstS c s with
    | some k => Q (.int k) M
    | none => False)
  | .append, .ref n, [v] => (match M[n]? with
    | some (.lst xs) => xs.length < LL ∧ Q .non (M.set n (.lst (xs ++ [v])))
    | _ => False)
  | .pop, .ref n, [] => (match M[n]? with
    | some (.lst xs) => (match xs.getLast? with
      | some v => Q v (M.set n (.lst xs.dropLast))
      | none => False)
    | _ => False)
  | .replace, .str s, [.str a, .str b] => (a ≠ [] ∧ a.all (· < 256) = true ∧ a ≠ b ∧ s.length ≤ 10000 ∧ b.length ≤ 100) ∧ Q (.str (replS a b s)) M
  | .split, .str s, [.str a] => (a ≠ [] ∧ a.all (· < 256) = true ∧ s.length + 2 ≤ LL) ∧ Q (.lst ((splitS a 0 [] s).map PV.str)) M
  | .get, .dct ks vs, [.str w, d] => isTxt ks = true ∧ Q ((dFind (.str w) ks vs).getD d) M
  | .get, .ref n, [y, d] => (match M[n]? with
    | some (.dct ks vs) => (isTup y && y.hk 6) = true ∧ Q ((dFind y ks vs).getD d) M
    | _ => False)
  | .lindex, .lst ys, [y] => (isScal y && ys.all isScal) = true ∧ (match firstV y ys with
    | some k => Q (.int k) M
    | none => False)
  | _, _, _ => False
/-! ### the trees -/
inductive PX where
  | k (v : PV)
  | v (i : Nat)
  | gl (g : Nat) (v : PV)
  | bin (o : Op) (a b : PX)
  | neg (a : PX) | not (a : PX) | and (a b : PX) | or (a b : PX)
  | cmp (o : Cm) (a b : PX) | chn (o p : Cm) (a b c : PX)
  | ite (c a b : PX)
  | call (f : Nat) (as : PX)
  | mk (c f : Nat) (as : PX)
  | meth (ms : List (Nat × Nat)) (m : Nat) (o as : PX)
  | mets (ms : List (Nat × Nat)) (m : Nat) (o as : PX)
  | bi (b : Bi) (as : PX)
  | bm (b : Bm) (o as : PX)
  | fld (o : PX) (f : Nat)
  | ix (a i : PX)
  | sl (a lo hi : PX)
  | no
  | ls (es : PX) | lm (es : PX) | tp (es : PX) | ds (ks vs : PX)
  | rp (es : PX) (n : Nat)
  | sset (a : PX)
  | dm (ks vs : PX)
  | lc (t : List Nat) (single : Bool) (it c e : PX)
  | itv (a : PX) | its (a : PX) | enum (a : PX) | zip2 (a b : PX) | rng1 (a : PX) | rng2 (a b : PX)
  | nil | cons (a b : PX)
/-- a target: slots, or slots in a tuple -/
inductive TN where
  | v (i : Nat)
  | t (is : List Nat)
/-- what an except suite tells of its exception: isinstance(e, a class (none: ValueError)), e.f -/
inductive HX where
  | isa (C : Option Nat) (yes no : List Nat)
  | and (a b : HX)
  | non
def hE : HX → Nat → List (Nat × PV) → Option PV
  | .isa _ yes no, d, _ => if yes.contains d = true then some (.bl true) else if no.contains d = true then some (.bl false) else none
  | .and a b, d, fs => (match hE a d fs with
    | some (.bl true) => hE b d fs
    | some (.bl false) => some (.bl false)
    | _ => none)
  | .non, _, _ => some .non
inductive PY where
  | asg (i : Nat) (e : PX)
  | unp (is : List Nat) (e : PX)
  | unf (is : List Nat) (e : PX)
  | setix (o i e : PX)
  | setfld (o : PX) (f : Nat) (e : PX)
  | ret (e : PX) | ret0
  | ex (e : PX)
  | if_ (c : PX) (a b : PY)
  | for_ (t : List Nat) (single : Bool) (it : PX) (b : PY)
  | forN (t : List TN) (it : PX) (b : PY)
  | unpN (t : List TN) (e : PX)
  | asr (i : Nat) (e : PX) (s t : List Nat)
  | tkr (i : Nat) (e : PX) (m : PY) (i2 j : Nat) (a b : List Nat) (g : PX) (j2 : Nat) (r : PY)
  | while_ (c : PX) (b : PY)
  | seq (a b : PY)
  | skip | cont
  | raise (c : Nat)
  | exX (e : PX) | retX (e : PX)
  | try_ (b : PY) (i C : Nat) (ks : List Nat) (h : HX)
  | frz (i : Nat)
  | sb (f : Nat)
  | never
def setTs : List Nat → List PV → Rho → Option Rho
  | [], [], ρ => some ρ
  | i :: is, v :: vs, ρ => setTs is vs (ρ.set i (some v))
  | _, _, _ => none
/-- a loop's target -/
def setT (t : List Nat) (single : Bool) (v : PV) (ρ : Rho) : Option Rho := match single, t with
  | true, [i] => some (ρ.set i (some v))
  | true, _ => none
  | false, t => match v with
    | .tup vs => setTs t vs ρ
    | _ => none
def setN : List TN → List PV → Rho → Option Rho
  | [], [], ρ => some ρ
  | .v i :: is, v :: vs, ρ => setN is vs (ρ.set i (some v))
  | .t js :: is, .tup us :: vs, ρ => (match setTs js us ρ with
    | some ρ' => setN is vs ρ'
    | none => none)
  | _, _, _ => none
def wipeR (ρ : Rho) : List Nat → Rho
  | [] => ρ
  | i :: is => (wipeR ρ is).set i none
/-- the items that are walked -/
def items (M : Mem) : PV → Option (List PV)
  | .str s => some (strVs s)
  | .tup xs => some xs
  | .lst xs => some xs
  | _ => none
def enumL : Nat → List PV → List PV
  | _, [] => []
  | n, x :: xs => .tup [.int n, x] :: enumL (n + 1) xs
def zipL : List PV → List PV → List PV
  | x :: xs, y :: ys => .tup [x, y] :: zipL xs ys
  | _, _ => []
def rngL (lo : Int) : Nat → List PV
  | 0 => []
  | n + 1 => .int lo :: rngL (lo + 1) n
/-- a comprehension's turns -/
def wLcR (t : List Nat) (single : Bool) (ρ : Rho) (cond elt : Rho → Mem → Kt → Prop) : List PV → List PV → Mem → Kt → Prop
  | [], acc, M, Q => Q (.lst acc) M
  | x :: xs, acc, M, Q => match setT t single x ρ with
    | none => False
    | some ρ' => cond ρ' M fun b M1 => match truthy M1 b with
      | some true => elt ρ' M1 fun v M2 => wLcR t single ρ cond elt xs (acc ++ [v]) M2 Q
      | some false => wLcR t single ρ cond elt xs acc M1 Q
      | none => False
/-- the same, shut -/
@[irreducible] def wLc (t : List Nat) (single : Bool) (ρ : Rho) (cond elt : Rho → Mem → Kt → Prop) (xs acc : List PV) (M : Mem) (Q : Kt) : Prop := wLcR t single ρ cond elt xs acc M Q
theorem wLc_R : @wLc = @wLcR := by
  funext t s ρ a b xs acc M Q
  unfold wLc
  rfl
def fldGet : List (Nat × PV) → Nat → Option PV
  | [], _ => none
  | (g, v) :: r, f => if g == f then some v else fldGet r f
def fldPut : List (Nat × PV) → Nat → PV → List (Nat × PV)
  | [], f, v => [(f, v)]
  | (g, w) :: r, f, v => if g == f then (g, v) :: r else (g, w) :: fldPut r f v
def mthOf : List (Nat × Nat) → Nat → Option Nat
  | [], _ => none
  | (c, f) :: r, d => if c == d then some f else mthOf r d
mutual
def wE (c : CE) : PX → Rho → Mem → Kt → Xt → Prop
  | .k v, _, M, Q, _ => Q v M
  | .gl _ v, _, M, Q, _ => Q v M
  | .v i, ρ, M, Q, _ => (match ρ[i]? with
    | some (some v) => Q v M
    | _ => False)
  | .bin o a b, ρ, M, Q, X => wE c a ρ M (fun x M1 => wE c b ρ M1 (fun y M2 => opW o x y M2 fun z => Q z M2) X) X
  | .neg a, ρ, M, Q, X => wE c a ρ M (fun x M1 => match x with
    | .int i => Q (.int (-i)) M1
    | _ => False) X
  | .not a, ρ, M, Q, X => wE c a ρ M (fun x M1 => match truthy M1 x with
    | some b => Q (.bl (!b)) M1
    | none => False) X
  | .and a b, ρ, M, Q, X => wE c a ρ M (fun x M1 => match truthy M1 x with
    | some true => wE c b ρ M1 Q X
    | some false => Q x M1
    | none => False) X
  | .or a b, ρ, M, Q, X => wE c a ρ M (fun x M1 => match truthy M1 x with
    | some true => Q x M1
    | some false => wE c b ρ M1 Q X
    | none => False) X
  | .cmp o a b, ρ, M, Q, X => wE c a ρ M (fun x M1 => wE c b ρ M1 (fun y M2 => cmW o x y M2 fun z => Q (.bl z) M2) X) X
  | .chn o p a b d, ρ, M, Q, X => wE c a ρ M (fun x M1 => wE c b ρ M1 (fun y M2 => cmW o x y M2 fun r => match r with
    | true => wE c d ρ M2 (fun z M3 => cmW p y z M3 fun r => Q (.bl r) M3) X
    | false => Q (.bl false) M2) X) X
  | .ite t a b, ρ, M, Q, X => wE c t ρ M (fun x M1 => match truthy M1 x with
    | some true => wE c a ρ M1 Q X
    | some false => wE c b ρ M1 Q X
    | none => False) X
  | .call f as, ρ, M, Q, X => wA c as ρ M (fun vs M1 => c f vs M1 Q X) X
  | .mk k f as, ρ, M, Q, X => wA c as ρ M (fun vs M1 => c f (.ref M1.length :: vs) (M1 ++ [.ins k []]) (fun v M2 => match v with
    | .non => Q (.ref M1.length) M2
    | _ => False) X) X
  | .meth ms m o as, ρ, M, Q, X => wE c o ρ M (fun x M1 => match x with
    | .ref n => (match M1[n]? with
      | some (.ins k fs) => (match mthOf ms k, fldGet fs m with
        | some f, none => wA c as ρ M1 (fun vs M2 => c f (.ref n :: vs) M2 Q X) X
        | _, _ => False)
      | _ => False)
    | _ => False) X
  | .mets ms m o as, ρ, M, Q, X => wE c o ρ M (fun x M1 => match x with
    | .ref n => (match M1[n]? with
      | some (.ins k fs) => (match mthOf ms k, fldGet fs m with
        | some f, none => wA c as ρ M1 (fun vs M2 => vs.length ≤ LL ∧ c f [.ref n, .tup vs] M2 Q X) X
        | _, _ => False)
      | _ => False)
    | _ => False) X
  | .bi b as, ρ, M, Q, X => wA c as ρ M (fun vs M1 => biW b vs M1 fun z => Q z M1) X
  | .bm b o as, ρ, M, Q, X => wE c o ρ M (fun x M1 => match bmK b x M1 with
    | true => wA c as ρ M1 (fun vs M2 => bmW b x vs M2 Q) X
    | false => False) X
  | .fld o f, ρ, M, Q, X => wE c o ρ M (fun x M1 => match x with
    | .ref n => (match M1[n]? with
      | some (.ins _ fs) => (match fldGet fs f with
        | some v => Q v M1
        | none => False)
      | _ => False)
    | _ => False) X
  | .ix a i, ρ, M, Q, X => wE c a ρ M (fun x M1 => wE c i ρ M1 (fun y M2 => ixW x y M2 fun z => Q z M2) X) X
  | .sl a lo hi, ρ, M, Q, X => wE c a ρ M (fun x M1 => wO c lo ρ M1 (fun l M2 => wO c hi ρ M2 (fun h M3 => slW x l h M3 fun z => Q z M3) X) X) X
  | .dm ks vs, ρ, M, Q, X => wA c ks ρ M (fun xs M1 => wA c vs ρ M1 (fun ys M2 => ((xs.length = ys.length ∧ xs.length ≤ 1) ∧ (xs.all fun k => isTup k && k.hk 6) = true) ∧ Q (.ref M2.length) (M2 ++ [.dct xs ys])) X) X
  | .ls es, ρ, M, Q, X => wA c es ρ M (fun vs M1 => vs.length ≤ LL ∧ Q (.lst vs) M1) X
  | .rp es n, ρ, M, Q, X => wA c es ρ M (fun vs M1 => (vs.length ≤ LL ∧ vs.length * n ≤ LL) ∧ Q (.lst (List.replicate n vs).flatten) M1) X
  | .sset a, ρ, M, Q, X => wE c a ρ M (fun x M1 => ssW x M1 fun z => Q z M1) X
  | .lm es, ρ, M, Q, X => wA c es ρ M (fun vs M1 => vs.length ≤ LL ∧ Q (.ref M1.length) (M1 ++ [.lst vs])) X
  | .tp es, ρ, M, Q, X => wA c es ρ M (fun vs M1 => vs.length ≤ LL ∧ Q (.tup vs) M1) X
  | .ds ks vs, ρ, M, Q, X => wA c ks ρ M (fun xs M1 => wA c vs ρ M1 (fun ys M2 => Q (.dct xs ys) M2) X) X
  | .lc t s it d e, ρ, M, Q, X => wI c it ρ M (fun xs M1 => xs.length ≤ LL ∧ wLc t s (wipeR ρ t) (fun ρ' M' Q' => wE c d ρ' M' Q' fun _ _ _ => False) (fun ρ' M' Q' => wE c e ρ' M' Q' fun _ _ _ => False) xs [] M1 Q) X
  | _, _, _, _, _ => False
/-- a list of arguments -/
def wA (c : CE) : PX → Rho → Mem → (List PV → Mem → Prop) → Xt → Prop
  | .nil, _, M, Q, _ => Q [] M
  | .cons a b, ρ, M, Q, X => wE c a ρ M (fun x M1 => wA c b ρ M1 (fun xs M2 => Q (x :: xs) M2) X) X
  | _, _, _, _, _ => False
/-- a slice's end -/
def wO (c : CE) : PX → Rho → Mem → (Option Int → Mem → Prop) → Xt → Prop
  | .no, _, M, Q, _ => Q none M
  | .itv a, ρ, M, Q, X => wE c a ρ M (fun x M1 => match x with
    | .int i => Q (some i) M1
    | _ => False) X
  | _, _, _, _, _ => False
/-- what a loop walks -/
def wI (c : CE) : PX → Rho → Mem → (List PV → Mem → Prop) → Xt → Prop
  | .itv a, ρ, M, Q, X => wE c a ρ M (fun x M1 => match items M1 x with
    | some xs => Q xs M1
    | none => False) X
  | .its a, ρ, M, Q, X => wE c a ρ M (fun x M1 => match x with
    | .dct ks vs => ks.all isTup = true ∧ Q (zipL ks vs) M1
    | _ => False) X
  | .enum a, ρ, M, Q, X => wE c a ρ M (fun x M1 => match x with
    | .str s => Q (enumL 0 (strVs s)) M1
    | .lst xs => Q (enumL 0 xs) M1
    | _ => False) X
  | .zip2 a b, ρ, M, Q, X => wE c a ρ M (fun x M1 => wE c b ρ M1 (fun y M2 => match x, y with
    | .tup xs, .tup ys => Q (zipL xs ys) M2
    | .lst xs, .lst ys => Q (zipL xs ys) M2
    | .str s, .str t => Q (zipL (strVs s) (strVs t)) M2
    | _, _ => False) X) X
  | .rng1 a, ρ, M, Q, X => wE c a ρ M (fun x M1 => match x with
    | .int j => (-(2 ^ 62) ≤ j ∧ j < 2 ^ 62) ∧ Q (rngL 0 j.toNat) M1
    | _ => False) X
  | .rng2 a b, ρ, M, Q, X => wE c a ρ M (fun x M1 => wE c b ρ M1 (fun y M2 => match x, y with
    | .int i, .int j => (-(2 ^ 62) ≤ i ∧ i < 2 ^ 62 ∧ -(2 ^ 62) ≤ j ∧ j < 2 ^ 62) ∧ Q (rngL i (j - i).toNat) M2
    | _, _ => False) X) X
  | _, _, _, _, _ => False
end
/-- what is wanted behind a statement -/
structure En where
  nx : Rho → Mem → Prop
  rt : Kt
  ct : Rho → Mem → Prop
  ex : Xt
def wForR (t : List Nat) (s : Bool) (body : Rho → Mem → En → Prop) : List PV → Rho → Mem → En → Prop
  | [], ρ, M, D => D.nx ρ M
  | x :: xs, ρ, M, D => match setT t s x ρ with
    | none => False
    | some ρ' => body ρ' M { nx := fun ρ2 M2 => wForR t s body xs ρ2 M2 D, rt := D.rt, ct := fun ρ2 M2 => wForR t s body xs ρ2 M2 D, ex := D.ex }
@[irreducible] def wFor (t : List Nat) (s : Bool) (body : Rho → Mem → En → Prop) (xs : List PV) (ρ : Rho) (M : Mem) (D : En) : Prop := wForR t s body xs ρ M D
theorem wFor_R : @wFor = @wForR := by
  funext t s b xs ρ M D
  unfold wFor
  rfl
def wForNR (t : List TN) (body : Rho → Mem → En → Prop) : List PV → Rho → Mem → En → Prop
  | [], ρ, M, D => D.nx ρ M
  | x :: xs, ρ, M, D => match x with
    | .tup vs => (match setN t vs ρ with
      | none => False
      | some ρ' => body ρ' M { nx := fun ρ2 M2 => wForNR t body xs ρ2 M2 D, rt := D.rt, ct := fun ρ2 M2 => wForNR t body xs ρ2 M2 D, ex := D.ex })
    | _ => False
@[irreducible] def wForN (t : List TN) (body : Rho → Mem → En → Prop) (xs : List PV) (ρ : Rho) (M : Mem) (D : En) : Prop := wForNR t body xs ρ M D
theorem wForN_R : @wForN = @wForNR := by
  funext t b xs ρ M D
  unfold wForN
  rfl
def wWhile (cond : Rho → Mem → Kt → Prop) (body : Rho → Mem → En → Prop) : Nat → Rho → Mem → En → Prop
  | 0, _, _, _ => False
  | n + 1, ρ, M, D => cond ρ M fun b M1 => match truthy M1 b with
    | some true => body ρ M1 { nx := fun ρ2 M2 => wWhile cond body n ρ2 M2 D, rt := D.rt, ct := fun ρ2 M2 => wWhile cond body n ρ2 M2 D, ex := D.ex }
    | some false => D.nx ρ M1
    | none => False
/-- the straight quote's sign of a printed one -/
def srt (sg : Nat) : Nat := if sg = 60 ∨ sg = 62 then 34 else 39
abbrev Qd (sg : Nat) : Prop := sg = 60 ∨ sg = 62 ∨ sg = 123 ∨ sg = 125
/-- a printed quote: what is open behind it -/
def sbFin (mn : PV) (st : List Nat) (sg : Nat) (D : En) (M : Mem) : Prop := match decide (sg = 60 ∨ sg = 123) with
  | true => D.rt (.str (if srt sg ∈ st then st else st ++ [srt sg])) M
  | false => (match mn with
    | .tup (.str kd :: _) => (match decide (kd = [116, 117, 114, 110, 115]) with
      | true => D.rt (.str (st.filter (· != srt sg))) M
      | false => D.rt (.str (if srt sg ∈ st then st.takeWhile (· != srt sg) else st)) M)
    | _ => False)
def sbW (c : CE) (f : Nat) (ρ : Rho) (M : Mem) (D : En) : Prop := match ρ with
  | [some mn, some (.str st), some ah, some (.str [sg]), some bh, _] => (Qd sg ∧ st.length ≤ 1000) ∧ (match decide (sg = 125) with
    | true => c f [mn, ah, bh] M (fun b M1 => match b with
      | .bl true => D.rt (.str st) M1
      | .bl false => sbFin mn st sg D M1
      | _ => False) X0
    | false => sbFin mn st sg D M)
  | _ => False
/-- an expression that may raise -/
def wX (c : CE) : PX → Rho → Mem → Kt → Xt → Prop
  | .call f as, ρ, M, Q, X => wA c as ρ M (fun vs M1 => c f vs M1 Q X) X0
  | _, _, _, _, _ => False
/-- a slot's text, some of it replaced -/
def repW (a b : List Nat) (ρ : Rho) (j : Nat) (K : List Nat → Prop) : Prop := match ρ[j]? with
  | some (some (.str z)) => (((a ≠ [] ∧ a ≠ b) ∧ b.length ≤ 100) ∧ z.length ≤ 10000) ∧ K (PySem.StrLaws.replL a b z)
  | _ => False
def wS (c : CE) : PY → Rho → Mem → En → Prop
  | .skip, ρ, M, D => D.nx ρ M
  | .cont, ρ, M, D => D.ct ρ M
  | .seq a b, ρ, M, D => wS c a ρ M { nx := fun ρ1 M1 => wS c b ρ1 M1 D, rt := D.rt, ct := D.ct, ex := D.ex }
  | .asg i e, ρ, M, D => wE c e ρ M (fun v M1 => D.nx (ρ.set i (some v)) M1) X0
  | .unp is e, ρ, M, D => wE c e ρ M (fun v M1 => match setT is false v ρ with
    | some ρ' => D.nx ρ' M1
    | none => False) X0
  | .unpN t e, ρ, M, D => wE c e ρ M (fun v M1 => match v with
    | .tup vs => (match setN t vs ρ with
      | some ρ' => D.nx ρ' M1
      | none => False)
    | _ => False) X0
  | .forN t it b, ρ, M, D => wI c it ρ M (fun xs M1 => wForN t (fun ρ' M' D' => wS c b ρ' M' D') xs ρ M1 D) X0
  | .asr i e s t, ρ, M, D => wE c e ρ M (fun v M1 => match v with
    | .str z => (((s ≠ [] ∧ s ≠ t) ∧ t.length ≤ 100) ∧ z.length ≤ 10000) ∧ D.nx (ρ.set i (some (.str (PySem.StrLaws.replL s t z)))) M1
    | _ => False) X0
  | .tkr i e m i2 j a b g j2 r, ρ, M, D => wE c e ρ M (fun v M1 => wS c m (ρ.set i (some v)) M1 ⟨fun ρ2 M2 => repW a b ρ2 j fun z => wE c g (ρ2.set i2 (some (.str z))) M2 (fun w M3 => repW a b (ρ2.set i2 (some (.str z))) j2 fun z2 => (match w with
    | .str u => (match decide (u = z2) with
      | true => D.nx (ρ2.set i2 (some (.str z))) M3
      | false => wS c r (ρ2.set i2 (some (.str z))) M3 D)
    | _ => False)) X0, D.rt, D.ct, D.ex⟩) X0
  | .unf is e, ρ, M, D => wE c e ρ M (fun v M1 => match setT is false v ρ with
    | some ρ' => D.nx ρ' M1
    | none => False) X0
  | .setix o i e, ρ, M, D => wE c e ρ M (fun v M1 => wE c o ρ M1 (fun x M2 => wE c i ρ M2 (fun y M3 => match x with
    | .ref n => (match M3[n]? with
      | some (.lst xs) => (match y with
        | .int k => (match ixAt xs.length k with
          | some j => D.nx ρ (M3.set n (.lst (xs.set j v)))
          | none => False)
        | _ => False)
      | some (.dct ks vs) => ((isTup y && y.hk 6) = true ∧ ks.length < LL) ∧ D.nx ρ (M3.set n (.dct (dPutK y ks) (dPutV y v ks vs)))
      | _ => False)
    | _ => False) X0) X0) X0
  | .setfld o f e, ρ, M, D => wE c e ρ M (fun v M1 => wE c o ρ M1 (fun x M2 => match x with
    | .ref n => (match M2[n]? with
      | some (.ins k fs) => fs.length < 1000 ∧ D.nx ρ (M2.set n (.ins k (fldPut fs f v)))
      | _ => False)
    | _ => False) X0) X0
  | .ret e, ρ, M, D => wE c e ρ M D.rt X0
  | .ret0, ρ, M, D => D.rt .non M
  | .ex e, ρ, M, D => wE c e ρ M (fun _ M1 => D.nx ρ M1) X0
  | .if_ t a b, ρ, M, D => wE c t ρ M (fun x M1 => match truthy M1 x with
    | some true => wS c a ρ M1 D
    | some false => wS c b ρ M1 D
    | none => False) X0
  | .for_ t s it b, ρ, M, D => wI c it ρ M (fun xs M1 => wFor t s (fun ρ' M' D' => wS c b ρ' M' D') xs ρ M1 D) X0
  | .while_ t b, ρ, M, D => ∃ n, wWhile (fun ρ' M' Q' => wE c t ρ' M' Q' X0) (fun ρ' M' D' => wS c b ρ' M' D') n ρ M D
  | .raise k, _, M, D => D.ex k [] M
  | .exX e, ρ, M, D => wX c e ρ M (fun _ M1 => D.nx ρ M1) D.ex
  | .retX e, ρ, M, D => wX c e ρ M D.rt D.ex
  | .try_ b _ _ ks h, ρ, M, D => wS c b ρ M { nx := D.nx, rt := D.rt, ct := D.ct, ex := fun d fs M1 => match ks.contains d with
    | true => (match hE h d fs with
      | some v => D.rt v M1
      | none => False)
    | false => False }
  | .frz i, ρ, M, D => (match ρ[i]? with
    | some (some (.ref n)) => (match M[n]? with
      | some (.lst xs) => D.nx (ρ.set i (some (.lst xs))) (M.set n .dead)
      | some (.dct ks vs) => D.nx (ρ.set i (some (.dct ks vs))) (M.set n .dead)
      | _ => False)
    | _ => False)
  | .sb f, ρ, M, D => sbW c f ρ M D
  | .never, _, _, _ => False
/-- a def: the number of its parameters, of its slots, its body -/
structure PF where
  np : Nat
  ns : Nat
  body : PY
def callF (c : CE) (F : PF) (vs : List PV) (M : Mem) (Q : Kt) (X : Xt) : Prop := match vs.length == F.np with
  | true => wS c F.body (vs.map some ++ List.replicate (F.ns - F.np) none) M { nx := fun _ M1 => Q .non M1, rt := Q, ct := fun _ _ => False, ex := X }
  | false => False
/-- calls d deep -/
def callW (G : Nat → Option PF) : Nat → CE
  | 0 => fun _ _ _ _ _ => False
  | d + 1 => fun f vs M Q X => match G f with
    | some F => callF (callW G d) F vs M Q X
    | none => False
end Qt
/-! ### texts and data -/
namespace Qt
open PySem PySem.Spec PyProof.Rows L2
def toS (l : List Nat) : Str := ⟨l.toArray⟩
theorem toS_tl (l : List Nat) : (toS l).cps.toList = l := rfl
theorem toS_len (l : List Nat) : (toS l).length = l.length := by simp [toS, Str.length]
theorem toS_app (a b : List Nat) : toS a ++ toS b = toS (a ++ b) := Str.ext' (by
  show a.toArray ++ b.toArray = (a ++ b).toArray
  simp)
theorem toS_inj {a b : List Nat} (h : toS a = toS b) : a = b := by
  have := congrArg (fun x : Str => x.cps.toList) h
  exact this
theorem toS_of (x : Str) : toS x.cps.toList = x := Str.ext' (by simp [toS])
mutual
def PV.toD : PV → PyData
  | .non => .none
  | .bl b => .bool b
  | .int i => .int i
  | .str s => .str (toS s)
  | .tup xs => .tuple (toDs xs)
  | .lst xs => .list (toDs xs)
  | .dct _ _ => .dict []
  | .ref _ => .dict []
  | .scr _ => .dict []
def toDs : List PV → List PyData
  | [] => []
  | x :: xs => x.toD :: toDs xs
end
theorem beq_toS (a b : List Nat) : (toS a == toS b) = decide (a = b) := by
  by_cases h : a = b
  · subst h; simp
  · have : toS a ≠ toS b := fun e => h (toS_inj e)
    simp [h, this]
mutual
theorem eqv_toD : ∀ a b : PV, PV.eqv a b = PyData.eqv a.toD b.toD
  | .non, b => by cases b <;> rfl
  | .bl x, b => by cases b <;> rfl
  | .int x, b => by cases b <;> rfl
  | .str x, b => by
    cases b with
    | str y => exact (beq_toS x y).symm
    | _ => rfl
  | .tup xs, b => by
    cases b with
    | tup ys => exact eqvs_toD xs ys
    | _ => rfl
  | .lst xs, b => by
    cases b with
    | lst ys => exact eqvs_toD xs ys
    | _ => rfl
  | .dct _ _, b => by cases b <;> rfl
  | .ref _, b => by cases b <;> rfl
  | .scr _, b => by cases b <;> rfl
theorem eqvs_toD : ∀ xs ys : List PV, eqvs xs ys = PyData.eqvAll (toDs xs) (toDs ys)
  | [], [] => rfl
  | [], _ :: _ => rfl
  | _ :: _, [] => rfl
  | x :: xs, y :: ys => by
    show (PV.eqv x y && eqvs xs ys) = (PyData.eqv x.toD y.toD && PyData.eqvAll (toDs xs) (toDs ys))
    rw [eqv_toD x y, eqvs_toD xs ys]
end
theorem strOk_toS {s : List Nat} (h : s.all (· < 1114112) = true) : PyData.strOk (toS s) = true := by
  unfold PyData.strOk toS
  rw [← Array.all_toList]
  exact h
end Qt
/-! ### tuples in tuples as keys of a dict -/
namespace Qt
open PySem PySem.Spec PyProof.Rows L2
mutual
/-- a key with its truth values as numbers -/
def nrm : PV → PV
  | .bl b => .int (if b then 1 else 0)
  | .tup xs => .tup (nrms xs)
  | .non => .non
  | .int i => .int i
  | .str s => .str s
  | .lst xs => .lst xs
  | .dct k v => .dct k v
  | .ref n => .ref n
  | .scr n => .scr n
def nrms : List PV → List PV
  | [] => []
  | x :: xs => nrm x :: nrms xs
end
noncomputable instance : DecidableEq PV := fun a b => Classical.propDecidable (a = b)
mutual
theorem eqv_nrm : ∀ (d e : Nat) (p q : PV), p.hk d = true → q.hk e = true → (PV.eqv p q = true ↔ nrm p = nrm q)
  | d, e, .non, q, _, hq => by
    cases q with
    | non => exact ⟨fun _ => rfl, fun _ => rfl⟩
    | _ => exact ⟨fun z => (by cases z), fun z => (by cases z)⟩
  | d, e, .bl a, q, _, hq => by
    cases q with
    | bl b => cases a <;> cases b <;> exact ⟨fun z => (by first | rfl | cases z), fun z => (by first | rfl | (injection z with z; cases z))⟩
    | int j =>
      show (((if a then (1 : Int) else 0) == j) = true) ↔ PV.int (if a then 1 else 0) = .int j
      exact ⟨fun z => congrArg PV.int (by simpa using z), fun z => by injection z with z; simpa using z⟩
    | _ => exact ⟨fun z => (by cases z), fun z => (by cases z)⟩
  | d, e, .int i, q, _, hq => by
    cases q with
    | bl b =>
      show ((i == (if b then (1 : Int) else 0)) = true) ↔ PV.int i = .int (if b then 1 else 0)
      exact ⟨fun z => congrArg PV.int (by simpa using z), fun z => by injection z with z; simpa using z⟩
    | int j => exact ⟨fun z => congrArg PV.int (by simpa [PV.eqv] using z), fun z => by injection z with z; simpa [PV.eqv] using z⟩
    | _ => exact ⟨fun z => (by cases z), fun z => (by cases z)⟩
  | d, e, .str x, q, _, hq => by
    cases q with
    | str y => exact ⟨fun z => congrArg PV.str (by simpa [PV.eqv] using z), fun z => by injection z with z; simpa [PV.eqv] using z⟩
    | _ => exact ⟨fun z => (by cases z), fun z => (by cases z)⟩
  | 0, e, .tup xs, q, hp, hq => by cases hp
  | d + 1, e, .tup xs, q, hp, hq => by
    cases q with
    | tup ys =>
      cases e with
      | zero => cases hq
      | succ e =>
        have ih := eqvs_nrm d e xs ys hp hq
        exact ⟨fun z => congrArg PV.tup (ih.mp z), fun z => by injection z with z; exact ih.mpr z⟩
    | _ => exact ⟨fun z => (by cases z), fun z => (by cases z)⟩
  | d, e, .lst _, q, hp, _ => by cases d <;> cases hp
  | d, e, .dct _ _, q, hp, _ => by cases d <;> cases hp
  | d, e, .ref _, q, hp, _ => by cases d <;> cases hp
  | d, e, .scr _, q, hp, _ => by cases d <;> cases hp
theorem eqvs_nrm : ∀ (d e : Nat) (xs ys : List PV), hks d xs = true → hks e ys = true → (eqvs xs ys = true ↔ nrms xs = nrms ys)
  | d, e, [], [], _, _ => ⟨fun _ => rfl, fun _ => rfl⟩
  | d, e, [], y :: ys, _, _ => ⟨fun z => (by cases z), fun z => (by cases z)⟩
  | d, e, x :: xs, [], _, _ => ⟨fun z => (by cases z), fun z => (by cases z)⟩
  | d, e, x :: xs, y :: ys, hx, hy => by
    have hx' : (PV.hk d x && hks d xs) = true := hx
    have hy' : (PV.hk e y && hks e ys) = true := hy
    rw [Bool.and_eq_true] at hx' hy'
    have i1 := eqv_nrm d e x y hx'.1 hy'.1
    have i2 := eqvs_nrm d e xs ys hx'.2 hy'.2
    show ((PV.eqv x y && eqvs xs ys) = true) ↔ nrm x :: nrms xs = nrm y :: nrms ys
    rw [Bool.and_eq_true, i1, i2]
    exact ⟨fun z => by rw [z.1, z.2], fun z => by injection z with a b; exact ⟨a, b⟩⟩
end
mutual
theorem hk_lay : ∀ (d : Nat) (p : PV), p.hk d = true → p.toD.canLay0 = true ∧ p.toD.depth ≤ d
  | d, .non, _ => ⟨rfl, Nat.zero_le _⟩
  | d, .bl b, _ => ⟨rfl, Nat.zero_le _⟩
  | d, .int i, _ => ⟨rfl, Nat.zero_le _⟩
  | d, .str s, h => ⟨strOk_toS (by cases d <;> exact h), Nat.zero_le _⟩
  | 0, .tup xs, h => by cases h
  | d + 1, .tup xs, h => by
    obtain ⟨h1, h2⟩ := hks_lay d xs h
    refine ⟨h1, ?_⟩
    show PyData.depthAll (toDs xs) + 1 ≤ d + 1
    omega
  | d, .lst _, h => by cases d <;> cases h
  | d, .dct _ _, h => by cases d <;> cases h
  | d, .ref _, h => by cases d <;> cases h
  | d, .scr _, h => by cases d <;> cases h
theorem hks_lay : ∀ (d : Nat) (xs : List PV), hks d xs = true → PyData.canLayAll0 (toDs xs) = true ∧ PyData.depthAll (toDs xs) ≤ d
  | d, [], _ => ⟨rfl, Nat.zero_le _⟩
  | d, x :: xs, h => by
    have h' : (PV.hk d x && hks d xs) = true := h
    rw [Bool.and_eq_true] at h'
    obtain ⟨a1, a2⟩ := hk_lay d x h'.1
    obtain ⟨b1, b2⟩ := hks_lay d xs h'.2
    refine ⟨?_, ?_⟩
    · show (x.toD.canLay0 && PyData.canLayAll0 (toDs xs)) = true
      rw [a1, b1]
      rfl
    · show max x.toD.depth (PyData.depthAll (toDs xs)) ≤ d
      omega
end
mutual
theorem reads_one {h : Heap} {v : Value} : ∀ (d e : Nat) (p q : PV) (as bs : List Addr), p.hk d = true → q.hk e = true → Reads h v p.toD as → Reads h v q.toD bs → p = q
  | d, e, .non, q, as, bs, hp, hq, r1, r2 => by
    cases r1
    cases q <;> first | rfl | (cases r2; done) | (cases e <;> cases hq)
  | d, e, .bl b, q, as, bs, hp, hq, r1, r2 => by
    cases r1
    cases q <;> first | (cases r2; rfl) | (cases r2; done) | (cases e <;> cases hq)
  | d, e, .int b, q, as, bs, hp, hq, r1, r2 => by
    cases r1
    cases q <;> first | (cases r2; rfl) | (cases r2; done) | (cases e <;> cases hq)
  | d, e, .str b, q, as, bs, hp, hq, r1, r2 => by
    generalize ex : toS b = x at *
    have r1' : Reads h v (.str x) as := by rw [← ex]; exact r1
    cases r1'
    cases q with
    | str c =>
      have r2' : Reads h _ (.str (toS c)) bs := r2
      generalize ey : toS c = y at r2'
      cases r2'
      rw [toS_inj (ex.trans ey.symm)]
    | _ => first | (cases r2; done) | (cases e <;> cases hq)
  | 0, e, .tup xs, q, as, bs, hp, hq, r1, r2 => by cases hp
  | d + 1, e, .tup xs, q, as, bs, hp, hq, r1, r2 => by
    have r1' : Reads h v (.tuple (toDs xs)) as := r1
    cases r1' with
    | @tuple a o vs n _ _ h1 h2 h3 h4 =>
      cases q with
      | tup ys =>
        cases e with
        | zero => cases hq
        | succ e =>
          have r2' : Reads h (.ref a) (.tuple (toDs ys)) bs := r2
          cases r2' with
          | @tuple _ o' vs' n' _ _ g1 g2 g3 g4 =>
            rw [h1] at g1
            cases g1
            rw [h3] at g3
            cases g3
            rw [readsAll_one d e xs ys _ _ hp hq h4 g4]
      | _ => first | (cases r2; done) | (cases e <;> cases hq) | (have r2' : Reads h (.ref a) (.dict []) bs := r2; cases e <;> cases hq) | (cases r2 with | list g1 g2 g3 g4 => (rw [h1] at g1; cases g1; rw [h2] at g2; cases g2))
  | d, e, .lst _, q, as, bs, hp, _, _, _ => by cases d <;> cases hp
  | d, e, .dct _ _, q, as, bs, hp, _, _, _ => by cases d <;> cases hp
  | d, e, .ref _, q, as, bs, hp, _, _, _ => by cases d <;> cases hp
  | d, e, .scr _, q, as, bs, hp, _, _, _ => by cases d <;> cases hp
theorem readsAll_one {h : Heap} {vs : List Value} : ∀ (d e : Nat) (ps qs : List PV) (as bs : List Addr), hks d ps = true → hks e qs = true → ReadsAll h vs (toDs ps) as → ReadsAll h vs (toDs qs) bs → ps = qs
  | d, e, [], [], _, _, _, _, _, _ => rfl
  | d, e, [], q :: qs, _, _, _, _, r1, r2 => by
    have r1' : ReadsAll h vs [] _ := r1
    have r2' : ReadsAll h vs (q.toD :: toDs qs) _ := r2
    cases r1'
    cases r2'
  | d, e, p :: ps, [], _, _, _, _, r1, r2 => by
    have r1' : ReadsAll h vs (p.toD :: toDs ps) _ := r1
    have r2' : ReadsAll h vs [] _ := r2
    cases r1'
    cases r2'
  | d, e, p :: ps, q :: qs, _, _, hp, hq, r1, r2 => by
    have hp' : (PV.hk d p && hks d ps) = true := hp
    have hq' : (PV.hk e q && hks e qs) = true := hq
    rw [Bool.and_eq_true] at hp' hq'
    have r1' : ReadsAll h vs (p.toD :: toDs ps) _ := r1
    have r2' : ReadsAll h vs (q.toD :: toDs qs) _ := r2
    cases r1' with
    | cons a1 a2 =>
      cases r2' with
      | cons b1 b2 => rw [reads_one d e p q _ _ hp'.1 hq'.1 a1 b1, readsAll_one d e ps qs _ _ hp'.2 hq'.2 a2 b2]
end
mutual
/-- what is read stays where another dict changes -/
theorem reads_stay {h h' : Heap} {b : Addr} {ob : Obj} {es : Array DictEntry} {ep : Nat} (hb : h.get? b = some ob) (hdt : ob.data = .dict es ep) (hsb : Heap.SameBut b h h') : ∀ (d : Nat) (p : PV) (v : Value) (as : List Addr), p.hk d = true → Reads h v p.toD as → Reads h' v p.toD as
  | d, .non, v, as, _, r => by cases r; exact .none
  | d, .bl c, v, as, _, r => by cases r; exact .bool c
  | d, .int i, v, as, _, r => by cases r; exact .int i _
  | d, .str s, v, as, _, r => by
    have r' : Reads h v (.str (toS s)) as := r
    show Reads h' v (.str (toS s)) as
    generalize toS s = x at r' ⊢
    cases r'
    exact .str x _
  | 0, .tup xs, v, as, hp, _ => by cases hp
  | d + 1, .tup xs, v, as, hp, r => by
    have r' : Reads h v (.tuple (toDs xs)) as := r
    cases r' with
    | @tuple a o vs n _ _ h1 h2 h3 h4 =>
      have ne : a ≠ b := by
        rintro rfl
        rw [hb] at h1
        cases h1
        rw [hdt] at h3
        cases h3
      exact Reads.tuple ((hsb.2 a ne).trans h1) h2 h3 (readsAll_stay hb hdt hsb d xs _ _ hp h4)
  | d, .lst _, v, as, hp, _ => by cases d <;> cases hp
  | d, .dct _ _, v, as, hp, _ => by cases d <;> cases hp
  | d, .ref _, v, as, hp, _ => by cases d <;> cases hp
  | d, .scr _, v, as, hp, _ => by cases d <;> cases hp
theorem readsAll_stay {h h' : Heap} {b : Addr} {ob : Obj} {es : Array DictEntry} {ep : Nat} (hb : h.get? b = some ob) (hdt : ob.data = .dict es ep) (hsb : Heap.SameBut b h h') : ∀ (d : Nat) (ps : List PV) (vs : List Value) (as : List Addr), hks d ps = true → ReadsAll h vs (toDs ps) as → ReadsAll h' vs (toDs ps) as
  | d, [], vs, as, _, r => by
    have r' : ReadsAll h vs [] as := r
    cases r'
    exact .nil
  | d, p :: ps, vs, as, hp, r => by
    have hp' : (PV.hk d p && hks d ps) = true := hp
    rw [Bool.and_eq_true] at hp'
    have r' : ReadsAll h vs (p.toD :: toDs ps) as := r
    cases r' with
    | cons a1 a2 => exact .cons (reads_stay hb hdt hsb d p _ _ hp'.1 a1) (readsAll_stay hb hdt hsb d ps _ _ hp'.2 a2)
end
/-! hashes -/
mutual
def hashV (w : World) : PV → Int
  | .non => 0xFCA86420
  | .bl b => hashInt (if b then 1 else 0)
  | .int i => hashInt i
  | .str s => hashStr w (toS s)
  | .tup xs => reduceHash (Builtin.Tuple.tupleHashOf (hashVs w xs))
  | _ => 0
def hashVs (w : World) : List PV → List Int
  | [] => []
  | x :: xs => hashV w x :: hashVs w xs
end
mutual
theorem hashV_nrm (w : World) : ∀ p : PV, hashV w (nrm p) = hashV w p
  | .non => rfl
  | .bl b => rfl
  | .int i => rfl
  | .str s => rfl
  | .tup xs => by
    show reduceHash (Builtin.Tuple.tupleHashOf (hashVs w (nrms xs))) = _
    rw [hashVs_nrm w xs]
    rfl
  | .lst _ => rfl
  | .dct _ _ => rfl
  | .ref _ => rfl
  | .scr _ => rfl
theorem hashVs_nrm (w : World) : ∀ ps : List PV, hashVs w (nrms ps) = hashVs w ps
  | [] => rfl
  | p :: ps => by
    show hashV w (nrm p) :: hashVs w (nrms ps) = _
    rw [hashV_nrm w p, hashVs_nrm w ps]
    rfl
end
mutual
/-- how many objects the hash makes -/
def toksV : PV → Nat
  | .tup xs => toksVs xs + 1
  | _ => 1
def toksVs : List PV → Nat
  | [] => 0
  | x :: xs => toksV x + toksVs xs
end
mutual
theorem toksV_nrm : ∀ p : PV, toksV (nrm p) = toksV p
  | .tup xs => by
    show toksVs (nrms xs) + 1 = _
    rw [toksVs_nrm xs]
    rfl
  | .non => rfl
  | .bl b => rfl
  | .int i => rfl
  | .str s => rfl
  | .lst _ => rfl
  | .dct _ _ => rfl
  | .ref _ => rfl
  | .scr _ => rfl
theorem toksVs_nrm : ∀ ps : List PV, toksVs (nrms ps) = toksVs ps
  | [] => rfl
  | p :: ps => by
    show toksV (nrm p) + toksVs (nrms ps) = _
    rw [toksV_nrm p, toksVs_nrm ps]
    rfl
end
section
variable {prog : Program} {w : World} {A : Around} {E : Value → Shared → Prop} {s : Shared}
theorem hash_bool {b : Bool} {Q : Int → Shared → Prop} (fin : Q (hashInt (if b then 1 else 0)) { s with toks := s.toks + 1 }) : wpAny (model prog w) A (pyHash (.bool b)) Q E s := by
  unfold pyHash pyHashByItsType
  have plain : [Value.bool b].any Value.onHeap = false := rfl
  refine wpAny_bind ?_
  rw [cRoomFor, if_neg (by rw [plain]; exact Bool.false_ne_true)]
  refine wpAny_pure (wpAny_bind (wpAny_specialOf (PySem.typeIs_bool s b) F.slot_bool_hash.lookup ?_))
  show wpAny _ _ (if (some (Value.builtin "int.__hash__") == some Value.none) = true then _ else _) _ _ _
  rw [if_neg (by rw [beq_builtin_none]; exact Bool.false_ne_true)]
  refine wpAny_bind (wpAny_specialOf (PySem.typeIs_bool s b) F.slot_bool_hash.lookup ?_)
  show wpAny _ _ (callSpecialIfBoundUnlessNone? (.bool b) "__hash__" _ >>= _) _ _ _
  refine wpAny_bind (wpAny_callSpecialIfBoundUnlessNone?_slot (PySem.typeIs_bool s b) F.slot_bool_hash (wpAny_call_entry F.slot_bool_hash (PySem.typeIs_bool s b) F.entry_int_hash ?_ (F.args_int_hash_1 _)))
  cases b with
  | true => exact (show wpAny _ _ (do ret (← mkInt 1)) _ _ s from wpAny_ret_mkInt (wpAny_pure fin))
  | false => exact (show wpAny _ _ (do ret (← mkInt 0)) _ _ s from wpAny_ret_mkInt (wpAny_pure fin))
theorem hash_none {Q : Int → Shared → Prop} (fin : Q 0xFCA86420 { s with toks := s.toks + 1 }) : wpAny (model prog w) A (pyHash .none) Q E s := by
  unfold pyHash pyHashByItsType
  have plain : [Value.none].any Value.onHeap = false := rfl
  refine wpAny_bind ?_
  rw [cRoomFor, if_neg (by rw [plain]; exact Bool.false_ne_true)]
  refine wpAny_pure (wpAny_bind (wpAny_specialOf (PySem.typeIs_none s) F.slot_NoneType_hash.lookup ?_))
  show wpAny _ _ (if (some (Value.builtin "NoneType.__hash__") == some Value.none) = true then _ else _) _ _ _
  rw [if_neg (by rw [beq_builtin_none]; exact Bool.false_ne_true)]
  refine wpAny_bind (wpAny_specialOf (PySem.typeIs_none s) F.slot_NoneType_hash.lookup ?_)
  show wpAny _ _ (callSpecialIfBoundUnlessNone? .none "__hash__" _ >>= _) _ _ _
  refine wpAny_bind (wpAny_callSpecialIfBoundUnlessNone?_slot (PySem.typeIs_none s) F.slot_NoneType_hash (wpAny_call_entry F.slot_NoneType_hash (PySem.typeIs_none s) F.entry_NoneType_hash ?_ (F.args_NoneType_hash_1 _)))
  exact (show wpAny _ _ (do ret (← mkInt 0xFCA86420)) _ _ s from wpAny_ret_mkInt (wpAny_pure fin))
/-- the hash of a key -/
theorem hash_run : ∀ (d : Nat) (A : Around) (E : Value → Shared → Prop) (s : Shared) (p : PV) (v : Value) (as : List Addr) (Q : Int → Shared → Prop), A.units + d < cLine → p.hk d = true → Reads s.heap v p.toD as →
    Q (hashV w p) { s with toks := s.toks + toksV p } → wpAny (model prog w) A (pyHash v) Q E s := by
  intro d
  induction d with
  | zero =>
    intro A E s p v as Q hu hp r fin
    cases p with
    | non => cases r; exact hash_none fin
    | bl b => cases r; exact hash_bool fin
    | int i => cases r; exact wpAny_pyHash_int fin
    | str x =>
      have r' : Reads s.heap v (.str (toS x)) as := r
      have fin' : Q (hashStr w (toS x)) { s with toks := s.toks + 1 } := fin
      generalize toS x = z at r' fin'
      cases r'
      exact wpAny_pyHash_str fin'
    | _ => cases hp
  | succ d ih =>
    intro A E s p v as Q hu hp r fin
    cases p with
    | non => cases r; exact hash_none fin
    | bl b => cases r; exact hash_bool fin
    | int i => cases r; exact wpAny_pyHash_int fin
    | str x =>
      have r' : Reads s.heap v (.str (toS x)) as := r
      have fin' : Q (hashStr w (toS x)) { s with toks := s.toks + 1 } := fin
      generalize toS x = z at r' fin'
      cases r'
      exact wpAny_pyHash_str fin'
    | tup xs =>
      have r' : Reads s.heap v (.tuple (toDs xs)) as := r
      cases r' with
      | @tuple a o vs n _ _ h1 h2 h3 h4 =>
        have ty : s.TypeIs (.ref a) "tuple" := ⟨o, h1, h2⟩
        unfold pyHash pyHashByItsType
        refine wpAny_bind (wpAny_cRoomFor_or (.inr (by omega)) (wpAny_bind (wpAny_specialOf ty F.slot_tuple_hash.lookup ?_)))
        show wpAny _ _ (if (some (Value.builtin "tuple.__hash__") == some Value.none) = true then _ else _) _ _ _
        rw [if_neg (by rw [beq_builtin_none]; exact Bool.false_ne_true)]
        refine wpAny_bind (wpAny_specialOf ty F.slot_tuple_hash.lookup ?_)
        show wpAny _ _ (callSpecialIfBoundUnlessNone? (.ref a) "__hash__" _ >>= _) _ _ _
        refine wpAny_bind (wpAny_callSpecialIfBoundUnlessNone?_slot ty F.slot_tuple_hash (wpAny_call_entry F.slot_tuple_hash ty F.entry_tuple_hash ?_ (F.args_tuple_hash_1 _)))
        show wpAny _ _ (Builtin.Tuple.tupleItemsOf (.ref a) >>= _) _ _ _
        refine wpAny_bind (wpAny_tupleItemsOf h1 h3 (wpAny_bind ?_))
        rw [← Array.forIn_toList]
        refine wpAny_forIn_list _ (fun rest (b : Array Int) s' => ∃ done left bs, xs = done ++ left ∧ ReadsAll s.heap rest (toDs left) bs ∧ b.toList = hashVs w done ∧ s' = { s with toks := s.toks + toksVs done }) _ ?_ ?_ _ _ ⟨[], xs, _, rfl, h4, rfl, rfl⟩
        · rintro x rest b s' ⟨done, left, bs, rfl, hl, hb, rfl⟩
          cases left with
          | nil =>
            have hl' : ReadsAll s.heap (x :: rest) [] bs := hl
            cases hl'
          | cons p left =>
            have hl' : ReadsAll s.heap (x :: rest) (p.toD :: toDs left) bs := hl
            cases hl' with
            | cons a1 a2 =>
              have hp' : hks d (done ++ p :: left) = true := hp
              have hk1 : ∀ ys, hks d (ys ++ p :: left) = true → p.hk d = true := by
                intro ys
                induction ys with
                | nil =>
                  intro z
                  have z' : (PV.hk d p && hks d left) = true := z
                  rw [Bool.and_eq_true] at z'
                  exact z'.1
                | cons y ys ihy =>
                  intro z
                  have z' : (PV.hk d y && hks d (ys ++ p :: left)) = true := z
                  rw [Bool.and_eq_true] at z'
                  exact ihy z'.2
              have snoc : ∀ ys, hashVs w (ys ++ [p]) = hashVs w ys ++ [hashV w p] := by
                intro ys
                induction ys with
                | nil => rfl
                | cons y ys ihy => show hashV w y :: hashVs w (ys ++ [p]) = _; rw [ihy]; rfl
              have tsnoc : ∀ ys, toksVs (ys ++ [p]) = toksVs ys + toksV p := by
                intro ys
                induction ys with
                | nil => show toksV p + 0 = 0 + toksV p; omega
                | cons y ys ihy => show toksV y + toksVs (ys ++ [p]) = toksV y + toksVs ys + toksV p; rw [ihy]; omega
              refine wpAny_bind (ih A.in1 _ _ p x _ _ (by show A.units + 1 + d < cLine; omega) (hk1 done hp') a1 ?_)
              have step : ∃ done' left' bs', done ++ p :: left = done' ++ left' ∧ ReadsAll s.heap rest (toDs left') bs' ∧ (b.push (hashV w p)).toList = hashVs w done' ∧ ({ s with toks := s.toks + toksVs done + toksV p } : Shared) = { s with toks := s.toks + toksVs done' } :=
                ⟨done ++ [p], left, _, by simp, a2, by rw [snoc, Array.toList_push, hb], by rw [tsnoc, Nat.add_assoc]⟩
              first
                | exact wpAny_pure step
                | exact wpAny_bind (wpAny_pure (wpAny_pure step))
        · rintro b s' ⟨done, left, bs, rfl, hl, hb, rfl⟩
          cases left with
          | cons p left =>
            have hl' : ReadsAll s.heap [] (p.toD :: toDs left) bs := hl
            cases hl'
          | nil =>
            rw [List.append_nil] at fin
            show wpAny _ _ (retInt (Builtin.Tuple.tupleHashOf b.toList)) _ _ _
            rw [hb]
            refine wpAny_ret_mkInt ?_
            have fin2 : Q (reduceHash (Builtin.Tuple.tupleHashOf (hashVs w done))) { s with toks := s.toks + toksVs done + 1 } := by
              have := fin
              rw [show s.toks + toksV (.tup done) = s.toks + toksVs done + 1 from (Nat.add_assoc _ _ _).symm] at this
              exact this
            generalize Builtin.Tuple.tupleHashOf (hashVs w done) = z at fin2
            unfold reduceHash at fin2
            show wpAny _ _ (if (decide (-(2 : Int) ^ 63 ≤ z) && decide (z < 2 ^ 63)) = true then _ else _) _ _ _
            by_cases hz : (decide (-(2 : Int) ^ 63 ≤ z) && decide (z < 2 ^ 63)) = true
            · rw [if_pos hz] at fin2 ⊢
              exact wpAny_pure fin2
            · rw [if_neg hz] at fin2 ⊢
              exact wpAny_bind (wpAny_rule (wpAny_pure fin2))
    | _ => cases hp
/-- == of keys asks no one else -/
theorem quiet_run : ∀ (d n : Nat) (p : PV) (v : Value) (as : List Addr) (Q : Bool → Shared → Prop), d ≤ n → p.hk d = true → Reads s.heap v p.toD as → Q true s → wpAny (model prog w) A (eqIsQuiet n v) Q E s := by
  intro d
  induction d with
  | zero =>
    intro n p v as Q hn hp r fin
    have flat : carriedByValue v = true := by
      cases p with
      | non => cases r; rfl
      | bl b => cases r; rfl
      | int i => cases r; rfl
      | str x =>
        have r' : Reads s.heap v (.str (toS x)) as := r
        generalize toS x = z at r'
        cases r'
        rfl
      | _ => cases hp
    rw [eqIsQuiet_byValue n flat]
    exact wpAny_pure fin
  | succ d ih =>
    intro n p v as Q hn hp r fin
    cases p with
    | tup xs =>
      have r' : Reads s.heap v (.tuple (toDs xs)) as := r
      cases r' with
      | @tuple a o vs m _ _ h1 h2 h3 h4 =>
        obtain ⟨n, rfl⟩ : ∃ k, n = k + 1 := ⟨n - 1, by omega⟩
        have ty : s.TypeIs (.ref a) "tuple" := ⟨o, h1, h2⟩
        unfold eqIsQuiet
        refine wpAny_bind (wpAny_specialOf ty F.slot_tuple_eq.lookup ?_)
        show wpAny _ _ (isInstance (.ref a) (.type "tuple") >>= _) _ _ _
        refine wpAny_bind (wpAny_isInstance ty isSubtype_tuple_tuple ?_)
        simp only [Bool.not_true, Bool.false_eq_true, if_false]
        refine wpAny_bind (wpAny_seqItems h1 h3 (wpAny_bind ?_))
        show wpAny _ _ (forIn vs _ _) _ _ _
        rw [← Array.forIn_toList]
        refine wpAny_forIn_list _ (fun rest r s' => r.1 = none ∧ s' = s ∧ ∃ left bs, hks d left = true ∧ ReadsAll s.heap rest (toDs left) bs) _ ?_ ?_ _ _ ⟨rfl, rfl, xs, _, hp, h4⟩
        · rintro x rest r s' ⟨hr, rfl, left, bs, hk, hl⟩
          cases left with
          | nil =>
            have hl' : ReadsAll s'.heap (x :: rest) [] bs := hl
            cases hl'
          | cons p left =>
            have hk' : (PV.hk d p && hks d left) = true := hk
            rw [Bool.and_eq_true] at hk'
            have hl' : ReadsAll s'.heap (x :: rest) (p.toD :: toDs left) bs := hl
            cases hl' with
            | cons a1 a2 =>
              refine wpAny_bind (ih n p x _ _ (by omega) hk'.1 a1 ?_)
              simp only [Bool.not_true, Bool.false_eq_true, if_false]
              exact wpAny_pure ⟨rfl, rfl, left, _, hk'.2, a2⟩
        · rintro ⟨r1, r2⟩ s' ⟨hr, rfl, _⟩
          simp only at hr
          subst hr
          exact wpAny_pure fin
    | non => cases r; rw [eqIsQuiet_byValue n rfl]; exact wpAny_pure fin
    | bl b => cases r; rw [eqIsQuiet_byValue n rfl]; exact wpAny_pure fin
    | int i => cases r; rw [eqIsQuiet_byValue n rfl]; exact wpAny_pure fin
    | str x =>
      have r' : Reads s.heap v (.str (toS x)) as := r
      generalize toS x = z at r'
      cases r'
      rw [eqIsQuiet_byValue n rfl]
      exact wpAny_pure fin
    | _ => cases hp
end
/-- the key k is what is read at a -/
def KeyAt (h : Heap) (k : PV) (a : Addr) : Prop := ∃ (p : PV) (as : List Addr), p.hk 6 = true ∧ nrm p = k ∧ Reads h (.ref a) p.toD as
/-- tuples as keys -/
noncomputable def deepKind (prog : Program) (w : World) : HeapKind prog w PV where
  is := KeyAt
  hash := hashV w
  draws := toksV
  room := fun A => A.units + 8 < cLine
  inj := by
    rintro h a x y ⟨p, as, h1, rfl, h3⟩ ⟨q, bs, g1, rfl, g3⟩
    rw [reads_one 6 6 p q as bs h1 g1 h3 g3]
  keeps := by
    rintro h h' k a d o es ep ⟨p, as, h1, rfl, h3⟩ ho hd hs
    exact ⟨p, as, h1, rfl, reads_stay ho hd hs 6 p _ _ h1 h3⟩
  pyHash := by
    rintro A E s k a Q hu ⟨p, as, h1, rfl, h3⟩ q
    rw [hashV_nrm, toksV_nrm] at q
    exact hash_run 6 A E s p _ as Q (by omega) h1 h3 q
  eqBool := by
    rintro A E s x y a b Q hu ⟨p, as, h1, rfl, h3⟩ ⟨q, bs, g1, rfl, g3⟩ fin
    obtain ⟨a1, a2⟩ := hk_lay 6 p h1
    obtain ⟨b1, b2⟩ := hk_lay 6 q g1
    have e := SeqAt.eqAt_reads p.toD q.toD A s _ _ as bs h3 g3 a1 b1 (by omega)
    refine e prog w E Q ?_
    rw [← eqv_toD]
    have e2 : PV.eqv p q = decide (nrm p = nrm q) := by
      have := eqv_nrm 6 6 p q h1 g1
      by_cases z : nrm p = nrm q
      · rw [decide_eq_true z]
        exact this.mpr z
      · rw [decide_eq_false z]
        cases e3 : PV.eqv p q with
        | false => rfl
        | true => exact absurd (this.mp e3) z
    rw [e2]
    exact fin
  quiet := by
    rintro A E s k a Q ⟨p, as, h1, rfl, h3⟩ q
    exact quiet_run 6 8 p _ as Q (by omega) h1 h3 q
end Qt
/-! ### how pure values lie in the abstract heap -/
namespace Qt
open PySem PySem.Spec PyProof.Rows L2
/-- a list that never changes: locked, or an object of the written part -/
def FzL (K : PySem.W.Frag) (H : Hp) (a : Addr) (xs : List V) : Prop :=
  (∃ o, H a = some (.frz o (.lst xs))) ∨
    ∃ (o : Obj) (its : Array Value) (n : Nat), K.lookup a = some o ∧ o.cls = .type "list" ∧ o.dict = none ∧ o.data = .seq its n ∧ its.size ≤ sizeLine ∧ Vals xs its.toList
theorem FzL.sq {K : PySem.W.Frag} {H : Hp} {a : Addr} {xs : List V} (h : FzL K H a xs) : SqL K H a xs := h.elim (fun h => .inl (.inr h)) .inr
mutual
inductive Rv (K : PySem.W.Frag) (ι : List Addr) (H : Hp) : V → PV → Prop
  | non : Rv K ι H .non .non
  | bl (b : Bool) : Rv K ι H (.bl b) (.bl b)
  | int (i : Int) : Rv K ι H (.int i) (.int i)
  | str (s : List Nat) : Rv K ι H (.str (toS s)) (.str s)
  | tup {a : Addr} {xs : List V} {ps : List PV} : SqT K H a xs → Rvs K ι H xs ps → Rv K ι H (.ref a) (.tup ps)
  | lst {a : Addr} {o : Obj} {xs : List V} {ps : List PV} : H a = some (.frz o (.lst xs)) → Rvs K ι H xs ps → Rv K ι H (.ref a) (.lst ps)
  | dct {a : Addr} {o : Obj} {kvs : List (Key × V)} {ks vs : List PV} : isTxt ks = true → H a = some (.frz o (.dK kvs)) → Rvs K ι H (kvs.map fun p => kV p.1) ks → Rvs K ι H (kvs.map (·.2)) vs → Rv K ι H (.ref a) (.dct ks vs)
  | dcd {a : Addr} {o : Obj} {u : HO} {es : Array DictEntry} {ep : Nat} {kas : List Addr} {xvs : List V} {ks vs : List PV} : H a = some (.frz o u) → ((a == sysModules) = false ∧ o.ExactDict) → o.data = .dict es ep → es.size ≤ sizeLine →
      es.toList.map (·.key) = kas.map Value.ref → Vals xvs (es.toList.map (·.val)) → ks.all isTup = true → Rvs K ι H (kas.map V.ref) ks → Rvs K ι H xvs vs → Rv K ι H (.ref a) (.dct ks vs)
  | ref {a : Addr} {n : Nat} : ι[n]? = some a → Rv K ι H (.ref a) (.ref n)
  | scr {a : Addr} {ns : List Int} : FzL K H a (ns.map V.int) → Rv K ι H (.ref a) (.scr ns)
inductive Rvs (K : PySem.W.Frag) (ι : List Addr) (H : Hp) : List V → List PV → Prop
  | nil : Rvs K ι H [] []
  | cons {v : V} {vs : List V} {p : PV} {ps : List PV} : Rv K ι H v p → Rvs K ι H vs ps → Rvs K ι H (v :: vs) (p :: ps)
end
def Fixed : HO → Prop
  | .tup _ => True
  | .frz _ _ => True
  | _ => False
/-- what a value that is read needs -/
structure Ex0 (ι : List Addr) (H : Hp) (ι' : List Addr) (H' : Hp) : Prop where
  ix : ∀ (n : Nat) a, ι[n]? = some a → ι'[n]? = some a
  fx : ∀ a o, H a = some o → Fixed o → H' a = some o
structure Ext (ι : List Addr) (H : Hp) (ι' : List Addr) (H' : Hp) : Prop where
  ix : ∀ (n : Nat) a, ι[n]? = some a → ι'[n]? = some a
  fx : ∀ a o, H a = some o → Fixed o → H' a = some o
  pv : ∀ a o, H a = some o → a ∉ ι → H' a = some o
  nw : ∀ a, a ∈ ι' → a ∈ ι ∨ H a = none
theorem Ext.e0 {ι ι' : List Addr} {H H' : Hp} (e : Ext ι H ι' H') : Ex0 ι H ι' H' := ⟨e.ix, e.fx⟩
theorem Ext.refl {ι : List Addr} {H : Hp} : Ext ι H ι H := ⟨fun _ _ h => h, fun _ _ h _ => h, fun _ _ h _ => h, fun _ h => .inl h⟩
theorem Ext.out {ι ι' : List Addr} {H H' : Hp} (e : Ext ι H ι' H') {a : Addr} {o : HO} (h : H a = some o) (n : a ∉ ι) : a ∉ ι' := fun z => (e.nw a z).elim n fun q => by rw [h] at q; cases q
theorem Ext.trans {ι1 ι2 ι3 : List Addr} {H1 H2 H3 : Hp} (a : Ext ι1 H1 ι2 H2) (b : Ext ι2 H2 ι3 H3) : Ext ι1 H1 ι3 H3 :=
  ⟨fun n x h => b.ix n x (a.ix n x h), fun x o h f => b.fx x o (a.fx x o h f) f, fun x o h n => b.pv x o (a.pv x o h n) (a.out h n), fun x h => by
    cases q : H1 x with
    | none => exact .inr rfl
    | some o =>
      refine .inl (Classical.byContradiction fun n => ?_)
      have h1 := a.pv x o q n
      rcases b.nw x h with z | z
      · exact a.out q n z
      · rw [h1] at z; cases z⟩
section
variable {K : PySem.W.Frag} {ι ι' : List Addr} {H H' : Hp}
theorem Ex0.sqT (e : Ex0 ι H ι' H') {a : Addr} {xs : List V} (h : SqT K H a xs) : SqT K H' a xs := by
  rcases h with (h | ⟨o, h⟩) | h
  · exact .inl (.inl (e.fx _ _ h trivial))
  · exact .inl (.inr ⟨o, e.fx _ _ h trivial⟩)
  · exact .inr h
theorem Ex0.fzL (e : Ex0 ι H ι' H') {a : Addr} {xs : List V} (h : FzL K H a xs) : FzL K H' a xs := by
  rcases h with ⟨o, h⟩ | h
  · exact .inl ⟨o, e.fx _ _ h trivial⟩
  · exact .inr h
theorem Ext.sqT (e : Ext ι H ι' H') {a : Addr} {xs : List V} (h : SqT K H a xs) : SqT K H' a xs := e.e0.sqT h
mutual
theorem Rv.mono (e : Ex0 ι H ι' H') : ∀ (p : PV) (v : V), Rv K ι H v p → Rv K ι' H' v p
  | .non, _, h => by cases h; exact .non
  | .bl b, _, h => by cases h; exact .bl b
  | .int i, _, h => by cases h; exact .int i
  | .str s, _, h => by cases h; exact .str s
  | .tup ps, _, h => by cases h with | tup h1 h2 => exact .tup (e.sqT h1) (Rvs.mono e ps _ h2)
  | .lst ps, _, h => by cases h with | lst h1 h2 => exact .lst (e.fx _ _ h1 trivial) (Rvs.mono e ps _ h2)
  | .dct ks vs, _, h => by
    cases h with
    | dct h0 h1 h2 h3 => exact .dct h0 (e.fx _ _ h1 trivial) (Rvs.mono e ks _ h2) (Rvs.mono e vs _ h3)
    | dcd h1 h2 h3 h4 h5 h6 h7 h8 h9 => exact .dcd (e.fx _ _ h1 trivial) h2 h3 h4 h5 h6 h7 (Rvs.mono e ks _ h8) (Rvs.mono e vs _ h9)
  | .ref n, _, h => by cases h with | ref h1 => exact .ref (e.ix _ _ h1)
  | .scr ns, _, h => by cases h with | scr h1 => exact .scr (e.fzL h1)
theorem Rvs.mono (e : Ex0 ι H ι' H') : ∀ (ps : List PV) (vs : List V), Rvs K ι H vs ps → Rvs K ι' H' vs ps
  | [], _, h => by cases h; exact .nil
  | p :: ps, _, h => by cases h with | cons h1 h2 => exact .cons (Rv.mono e p _ h1) (Rvs.mono e ps _ h2)
end
theorem Rv.up {p : PV} {v : V} (h : Rv K ι H v p) (e : Ext ι H ι' H') : Rv K ι' H' v p := Rv.mono e.e0 p v h
theorem Rv.up0 {p : PV} {v : V} (h : Rv K ι H v p) (e : Ex0 ι H ι' H') : Rv K ι' H' v p := Rv.mono e p v h
theorem Rvs.up {ps : List PV} {vs : List V} (h : Rvs K ι H vs ps) (e : Ext ι H ι' H') : Rvs K ι' H' vs ps := Rvs.mono e.e0 ps vs h
theorem Rvs.up0 {ps : List PV} {vs : List V} (h : Rvs K ι H vs ps) (e : Ex0 ι H ι' H') : Rvs K ι' H' vs ps := Rvs.mono e ps vs h
theorem Rvs.length : ∀ {vs : List V} {ps : List PV}, Rvs K ι H vs ps → vs.length = ps.length
  | _, [], h => by cases h; rfl
  | _, p :: ps, h => by cases h with | cons h1 h2 => simp only [List.length_cons, Rvs.length h2]
theorem Rvs.get : ∀ {vs : List V} {ps : List PV} {i : Nat} {p : PV}, Rvs K ι H vs ps → ps[i]? = some p → ∃ v, vs[i]? = some v ∧ Rv K ι H v p
  | _, [], _, _, _, e => by simp at e
  | _, q :: ps, 0, p, h, e => by
    cases h with | cons h1 h2 =>
    simp only [List.getElem?_cons_zero, Option.some.injEq] at e
    subst e
    exact ⟨_, rfl, h1⟩
  | _, q :: ps, i + 1, p, h, e => by
    cases h with | cons h1 h2 =>
    simp only [List.getElem?_cons_succ] at e ⊢
    exact Rvs.get h2 e
theorem Rvs.getV : ∀ {vs : List V} {ps : List PV} {i : Nat} {v : V}, Rvs K ι H vs ps → vs[i]? = some v → ∃ p, ps[i]? = some p ∧ Rv K ι H v p
  | [], _, _, _, _, e => by simp at e
  | v :: vs, _, 0, w, h, e => by
    cases h with | cons h1 h2 =>
    simp only [List.getElem?_cons_zero, Option.some.injEq] at e
    subst e
    exact ⟨_, rfl, h1⟩
  | v :: vs, _, i + 1, w, h, e => by
    cases h with | cons h1 h2 =>
    simp only [List.getElem?_cons_succ] at e ⊢
    exact Rvs.getV h2 e
theorem Rvs.append : ∀ {vs ws : List V} {ps qs : List PV}, Rvs K ι H vs ps → Rvs K ι H ws qs → Rvs K ι H (vs ++ ws) (ps ++ qs)
  | [], _, _, _, h, g => by cases h; exact g
  | _ :: _, _, _, _, h, g => by cases h with | cons h1 h2 => exact .cons h1 (Rvs.append h2 g)
theorem Rvs.take : ∀ {vs : List V} {ps : List PV} (n : Nat), Rvs K ι H vs ps → Rvs K ι H (vs.take n) (ps.take n)
  | _, _, 0, _ => by simp only [List.take_zero]; exact .nil
  | [], _, n + 1, h => by cases h; exact .nil
  | _ :: _, _, n + 1, h => by cases h with | cons h1 h2 => exact .cons h1 (Rvs.take n h2)
theorem Rvs.drop : ∀ {vs : List V} {ps : List PV} (n : Nat), Rvs K ι H vs ps → Rvs K ι H (vs.drop n) (ps.drop n)
  | _, _, 0, h => h
  | [], _, n + 1, h => by cases h; exact .nil
  | _ :: _, _, n + 1, h => by cases h with | cons h1 h2 => exact Rvs.drop n h2
theorem Rvs.set : ∀ {vs : List V} {ps : List PV} {v : V} {p : PV} (n : Nat), Rvs K ι H vs ps → Rv K ι H v p → Rvs K ι H (vs.set n v) (ps.set n p)
  | [], _, _, _, _, h, _ => by cases h; exact .nil
  | _ :: _, _, _, _, 0, h, r => by cases h with | cons h1 h2 => exact .cons r h2
  | _ :: _, _, _, _, n + 1, h, r => by cases h with | cons h1 h2 => exact .cons h1 (Rvs.set n h2 r)
theorem Rvs.ints : ∀ {ns : List Int} , Rvs K ι H (ns.map V.int) (ns.map PV.int)
  | [] => .nil
  | _ :: _ => .cons (.int _) Rvs.ints
theorem Rvs.strs : ∀ {ss : List (List Nat)} , Rvs K ι H (ss.map fun s => V.str (toS s)) (ss.map PV.str)
  | [] => .nil
  | _ :: _ => .cons (.str _) Rvs.strs
end
/-! ### the memory -/
/-- the classes' addresses and the fields' names -/
structure Nm where
  P : Program
  w : World
  cls : Nat → Addr
  fld : Nat → Str
  inj : ∀ f g, fld f = fld g → f = g
  exc : Nat → Addr
def Rf (nm : Nm) (K : PySem.W.Frag) (ι : List Addr) (H : Hp) : List (Str × V) → List (Nat × PV) → Prop
  | [], [] => True
  | (x, v) :: r, (f, p) :: q => x = nm.fld f ∧ Rv K ι H v p ∧ Rf nm K ι H r q
  | _, _ => False
/-- a dict whose keys are tuples: its entries' keys, their addresses, the values -/
def DicO (P : Program) (w : World) (a : Addr) (L : List (PV × Addr × V)) : HO := .ext fun h => (L.length ≤ sizeLine ∧ (a == sysModules) = false) ∧ ∃ xs : List (PV × Addr × Value),
  Paired (fun (p : PV × Addr × V) (q : PV × Addr × Value) => (p.1 = q.1 ∧ p.2.1 = q.2.1) ∧ RelV p.2.2 q.2.2) L xs ∧
    ∃ o es ep, h.get? a = some o ∧ o.ExactDict ∧ o.data = .dict es ep ∧ es.toList = xs.map (entryOfKey (deepKind P w)) ∧ (xs.map (·.1)).Nodup
def Ro (nm : Nm) (K : PySem.W.Frag) (ι : List Addr) (H : Hp) (a : Addr) : MO → Prop
  | .lst ps => ∃ xs, H a = some (.lst xs) ∧ Rvs K ι H xs ps
  | .dct ks vs => ∃ L : List (PV × Addr × V), H a = some (DicO nm.P nm.w a L) ∧ L.map (·.1) = ks.map nrm ∧ (ks.all fun k => isTup k && k.hk 6) = true ∧ Rvs K ι H (L.map fun e => V.ref e.2.1) ks ∧ Rvs K ι H (L.map fun e => e.2.2) vs
  | .ins c fs => ∃ dx gs, H a = some (.ins (nm.cls c) dx gs) ∧ Rf nm K ι H gs fs
  | .dead => ∃ o, H a = some o ∧ Fixed o
structure Rm (nm : Nm) (K : PySem.W.Frag) (ι : List Addr) (H : Hp) (M : Mem) : Prop where
  len : ι.length = M.length
  nd : ι.Nodup
  at_ : ∀ (n : Nat) a o, ι[n]? = some a → M[n]? = some o → Ro nm K ι H a o
section
variable {nm : Nm} {K : PySem.W.Frag} {ι ι' : List Addr} {H H' : Hp} {M : Mem}
theorem Rf.up : ∀ {gs : List (Str × V)} {fs : List (Nat × PV)}, Rf nm K ι H gs fs → Ex0 ι H ι' H' → Rf nm K ι' H' gs fs
  | [], [], _, _ => trivial
  | (_, _) :: _, (_, _) :: _, ⟨h1, h2, h3⟩, e => ⟨h1, h2.up0 e, Rf.up h3 e⟩
theorem Rf.get : ∀ {gs : List (Str × V)} {fs : List (Nat × PV)} {f : Nat} {p : PV}, Rf nm K ι H gs fs → fldGet fs f = some p → ∃ v, gs.lookup (nm.fld f) = some v ∧ Rv K ι H v p
  | [], [], _, _, _, e => by cases e
  | (x, v) :: r, (g, p) :: q, f, p', ⟨h1, h2, h3⟩, e => by
    unfold fldGet at e
    by_cases hg : (g == f) = true
    · rw [if_pos hg] at e
      have hg' : g = f := by simpa using hg
      cases e
      subst hg'
      refine ⟨v, ?_, h2⟩
      rw [List.lookup_cons, h1]
      simp
    · rw [if_neg hg] at e
      obtain ⟨w, l, rw'⟩ := Rf.get h3 e
      refine ⟨w, ?_, rw'⟩
      have hne : (nm.fld f == x) = false := by
        rw [h1]
        refine beq_eq_false_iff_ne.mpr fun z => hg ?_
        have := nm.inj _ _ z
        simp [this]
      rw [List.lookup_cons, hne]
      exact l
theorem Rf.put : ∀ {gs : List (Str × V)} {fs : List (Nat × PV)} {f : Nat} {v : V} {p : PV}, Rf nm K ι H gs fs → Rv K ι H v p → Rf nm K ι H (putF (nm.fld f) v gs) (fldPut fs f p)
  | [], [], _, _, _, _, r => ⟨rfl, r, trivial⟩
  | (x, w) :: r, (g, q) :: s, f, v, p, ⟨h1, h2, h3⟩, rv => by
    unfold fldPut
    show Rf nm K ι H (if x = nm.fld f then (x, v) :: r else (x, w) :: putF (nm.fld f) v r) _
    by_cases hg : (g == f) = true
    · have hg' : g = f := by simpa using hg
      rw [if_pos hg, if_pos (by rw [h1, hg'])]
      exact ⟨h1, rv, h3⟩
    · rw [if_neg hg, if_neg (fun z => hg (by rw [h1] at z; have := nm.inj _ _ z; simp [this]))]
      exact ⟨h1, h2, Rf.put h3 rv⟩
theorem Rf.length : ∀ {gs : List (Str × V)} {fs : List (Nat × PV)}, Rf nm K ι H gs fs → gs.length = fs.length
  | [], [], _ => rfl
  | (_, _) :: _, (_, _) :: _, ⟨_, _, h⟩ => by simp only [List.length_cons, Rf.length h]
theorem ro_some {a : Addr} {o : MO} (h : Ro nm K ι H a o) : ∃ u, H a = some u := by
  cases o with
  | lst ps => obtain ⟨xs, h, _⟩ := h; exact ⟨_, h⟩
  | dct _ _ => obtain ⟨L, h, _⟩ := h; exact ⟨_, h⟩
  | ins c fs => obtain ⟨_, _, h, _⟩ := h; exact ⟨_, h⟩
  | dead => obtain ⟨o, h, _⟩ := h; exact ⟨_, h⟩
/-- an object that is not touched -/
theorem ro_stay {a : Addr} {o : MO} (h : Ro nm K ι H a o) (e : Ex0 ι H ι' H') (k : ∀ u, H a = some u → H' a = some u) : Ro nm K ι' H' a o := by
  cases o with
  | lst ps => obtain ⟨xs, h, r⟩ := h; exact ⟨xs, k _ h, r.up0 e⟩
  | dct _ _ => obtain ⟨L, h, h1, h2, h3, h4⟩ := h; exact ⟨L, k _ h, h1, h2, h3.up0 e, h4.up0 e⟩
  | ins c fs => obtain ⟨dx, gs, h, r⟩ := h; exact ⟨dx, gs, k _ h, Rf.up r e⟩
  | dead => obtain ⟨o, h, f⟩ := h; exact ⟨o, k _ h, f⟩
theorem Ext.upd_new {p : Addr} {o : HO} (hp : H p = none) : Ext ι H ι (upd H p o) :=
  ⟨fun _ _ h => h, fun a u h _ => by rw [upd_ne (ne_of_none h hp)]; exact h, fun a u h _ => by rw [upd_ne (ne_of_none h hp)]; exact h, fun _ h => .inl h⟩
theorem Ext.upd_mut {p : Addr} {o u : HO} (hm : p ∈ ι) (hp : H p = some u) (hf : ¬ Fixed u) : Ext ι H ι (upd H p o) :=
  ⟨fun _ _ h => h, fun a w h f => by
    rw [upd_ne]
    · exact h
    · rintro rfl
      rw [hp] at h
      cases h
      exact hf f, fun a w h n => by
    rw [upd_ne]
    · exact h
    · rintro rfl
      exact n hm, fun _ h => .inl h⟩
theorem Ext.app_new {p : Addr} {o : HO} (hp : H p = none) : Ext ι H (ι ++ [p]) (upd H p o) :=
  ⟨fun n a h => by rw [List.getElem?_append_left (List.getElem?_eq_some_iff.mp h).1]; exact h, (Ext.upd_new (ι := ι) hp).fx, (Ext.upd_new (ι := ι) hp).pv, fun a h => by
    rcases List.mem_append.mp h with h | h
    · exact .inl h
    · rw [List.mem_singleton] at h
      rw [h]
      exact .inr hp⟩
/-- the memory where something new was laid beside it -/
theorem Rm.keep (m : Rm nm K ι H M) (e : Ext ι H ι H') (k : ∀ (n : Nat) a u, ι[n]? = some a → H a = some u → H' a = some u) : Rm nm K ι H' M :=
  ⟨m.len, m.nd, fun n a o h1 h2 => ro_stay (m.at_ n a o h1 h2) e.e0 fun u hu => k n a u h1 hu⟩
theorem Rm.keep0 (m : Rm nm K ι H M) (e : Ex0 ι H ι H') (k : ∀ (n : Nat) a u, ι[n]? = some a → H a = some u → H' a = some u) : Rm nm K ι H' M :=
  ⟨m.len, m.nd, fun n a o h1 h2 => ro_stay (m.at_ n a o h1 h2) e fun u hu => k n a u h1 hu⟩
theorem Rm.has (m : Rm nm K ι H M) {n : Nat} {a : Addr} (h : ι[n]? = some a) : ∃ u, H a = some u := by
  have hn : n < M.length := by rw [← m.len]; exact (List.getElem?_eq_some_iff.mp h).1
  exact ro_some (m.at_ n a M[n] h (List.getElem?_eq_getElem hn))
theorem Rm.new {p : Addr} {o : HO} (m : Rm nm K ι H M) (hp : H p = none) : Rm nm K ι (upd H p o) M :=
  m.keep (Ext.upd_new hp) fun n a u h1 h2 => by rw [upd_ne (ne_of_none h2 hp)]; exact h2
/-- an object of the memory is laid -/
theorem Rm.alloc {p : Addr} {o : HO} {mo : MO} (m : Rm nm K ι H M) (hp : H p = none) (r : Ro nm K (ι ++ [p]) (upd H p o) p mo) : Rm nm K (ι ++ [p]) (upd H p o) (M ++ [mo]) := by
  have hx : Ext ι H (ι ++ [p]) (upd H p o) := .app_new hp
  refine ⟨by simp [m.len], ?_, fun n a u h1 h2 => ?_⟩
  · rw [List.nodup_append]
    refine ⟨m.nd, by simp, fun a ha b hb => ?_⟩
    rw [List.mem_singleton] at hb
    rintro rfl
    subst hb
    obtain ⟨n, hn⟩ := List.getElem?_of_mem ha
    obtain ⟨u, hu⟩ := m.has hn
    rw [hp] at hu
    cases hu
  · by_cases hn : n < ι.length
    · rw [List.getElem?_append_left hn] at h1
      rw [List.getElem?_append_left (by rw [← m.len]; exact hn)] at h2
      refine ro_stay (m.at_ n a u h1 h2) hx.e0 fun w hw => ?_
      rw [upd_ne (ne_of_none hw hp)]
      exact hw
    · have hn' : n = ι.length := by
        have := (List.getElem?_eq_some_iff.mp h1).1
        simp at this
        omega
      subst hn'
      rw [List.getElem?_append_right (Nat.le_refl _)] at h1
      rw [m.len, List.getElem?_append_right (Nat.le_refl _)] at h2
      simp at h1 h2
      subst h1 h2
      exact r
/-- an object of the memory is written -/
theorem Rm.write {a : Addr} {u o : HO} {mo : MO} {n : Nat} (m : Rm nm K ι H M) (hn : ι[n]? = some a) (hu : H a = some u) (hf : ¬ Fixed u) (r : Ro nm K ι (upd H a o) a mo) : Rm nm K ι (upd H a o) (M.set n mo) := by
  have hx : Ext ι H ι (upd H a o) := Ext.upd_mut (List.mem_of_getElem? hn) hu hf
  refine ⟨by simp [m.len], m.nd, fun k b w h1 h2 => ?_⟩
  by_cases hk : k = n
  · subst hk
    rw [hn] at h1
    cases h1
    rw [List.getElem?_set_self (by have := (List.getElem?_eq_some_iff.mp hn).1; rw [← m.len]; exact this)] at h2
    cases h2
    exact r
  · rw [List.getElem?_set_ne (Ne.symm hk)] at h2
    refine ro_stay (m.at_ k b w h1 h2) hx.e0 fun x hx' => ?_
    rw [upd_ne]
    · exact hx'
    · rintro rfl
      have i1 := (List.getElem?_eq_some_iff.mp h1)
      have i2 := (List.getElem?_eq_some_iff.mp hn)
      exact hk ((List.getElem_inj m.nd).mp (i1.2.trans i2.2.symm))
end
/-- the slots -/
def Rr (K : PySem.W.Frag) (ι : List Addr) (H : Hp) (σ : L2.St) (ρ : Rho) : Prop := ∀ (i : Nat) (p : PV), ρ[i]? = some (some p) → ∃ v, σ[i]? = some (some v) ∧ Rv K ι H v p
structure Sim (nm : Nm) (K : PySem.W.Frag) (ι : List Addr) (H : Hp) (M : Mem) (σ : L2.St) (ρ : Rho) : Prop where
  m : Rm nm K ι H M
  r : Rr K ι H σ ρ
  l : σ.length = ρ.length
theorem Rr.up {K : PySem.W.Frag} {ι ι' : List Addr} {H H' : Hp} {σ : L2.St} {ρ : Rho} (h : Rr K ι H σ ρ) (e : Ext ι H ι' H') : Rr K ι' H' σ ρ := fun i p hp =>
  let ⟨v, h1, h2⟩ := h i p hp
  ⟨v, h1, h2.up e⟩
theorem Rr.set {K : PySem.W.Frag} {ι : List Addr} {H : Hp} {σ : L2.St} {ρ : Rho} {v : V} {p : PV} (h : Rr K ι H σ ρ) (l : σ.length = ρ.length) (i : Nat) (r : Rv K ι H v p) : Rr K ι H (σ.set i (some v)) (ρ.set i (some p)) := fun j q hq => by
  by_cases hj : i = j
  · subst hj
    have hi : i < ρ.length := by
      have := (List.getElem?_eq_some_iff.mp hq).1
      simpa using this
    rw [List.getElem?_set_self hi] at hq
    cases hq
    exact ⟨v, List.getElem?_set_self (by omega), r⟩
  · rw [List.getElem?_set_ne hj] at hq
    obtain ⟨w, h1, h2⟩ := h j q hq
    exact ⟨w, by rw [List.getElem?_set_ne hj]; exact h1, h2⟩
theorem Rr.wipe {K : PySem.W.Frag} {ι : List Addr} {H : Hp} {σ : L2.St} {ρ : Rho} (h : Rr K ι H σ ρ) (l : σ.length = ρ.length) : ∀ is : List Nat, Rr K ι H (wipe σ is) (wipeR ρ is) ∧ (wipe σ is).length = (wipeR ρ is).length
  | [] => ⟨h, l⟩
  | i :: is => by
    obtain ⟨h1, h2⟩ := Rr.wipe h l is
    refine ⟨fun j q hq => ?_, by show ((L2.wipe σ is).set i none).length = ((wipeR ρ is).set i none).length; rw [List.length_set, List.length_set]; exact h2⟩
    unfold wipeR at hq
    unfold L2.wipe
    by_cases hj : i = j
    · subst hj
      by_cases hi : i < (wipeR ρ is).length
      · rw [List.getElem?_set_self hi] at hq
        cases hq
      · rw [List.getElem?_eq_none (by simpa using hi)] at hq
        cases hq
    · rw [List.getElem?_set_ne hj] at hq ⊢
      exact h1 j q hq
end Qt
/-! ### operators, comparisons, subscripts over pure values, by the hand layer's rules -/
namespace Qt
open PySem PySem.Spec PyProof.Rows L2
/-- what follows a value -/
abbrev Kp (nm : Nm) (K : PySem.W.Frag) (ι : List Addr) (H : Hp) (M : Mem) (Qp : PV → Prop) (Q : VK) : Prop :=
  ∀ p, Qp p → ∀ ι' H' v, Ext ι H ι' H' → Rm nm K ι' H' M → Rv K ι' H' v p → Q v H'
def rOp (nm : Nm) (K : PySem.W.Frag) (f : PV → PV → Mem → (PV → Prop) → Prop) : R2 := fun x y H Q => ∃ ι M px py Qp, Rm nm K ι H M ∧ Rv K ι H x px ∧ Rv K ι H y py ∧ f px py M Qp ∧ Kp nm K ι H M Qp Q
section
variable {X : Cx} {nm : Nm} {pins : List (Addr × Obj)} {σ : L2.St} {H : Hp} {s s' : Shared} {ι : List Addr} {M : Mem}
theorem ll_eq : (LL : Nat) = sizeLine := by rw [sizeLine_eq]
theorem lock_new {p : Addr} {xs : List V} (I' : Inv X pins σ (upd H p (.lst xs)) s') : ∃ od, Inv X pins σ (upd H p (.frz od (.lst xs))) s' := by
  obtain ⟨od, J⟩ := I'.lock upd_same trivial
  rw [upd_upd] at J
  exact ⟨od, J⟩
theorem ep_new {Qp : PV → Prop} {Q : VK} {xs : List V} {ps : List PV} {t : Sem Value} {E : Value → Shared → Prop} (m : Rm nm X.K ι H M) (k : Kp nm X.K ι H M Qp Q) (rs : Rvs X.K ι H xs ps) (hq : Qp (.lst ps))
    (h : wpAny (model X.prog X.w) X.A t (EP X pins σ (fun v H' => ∃ p, H p = none ∧ v = .ref p ∧ H' = upd H p (.lst xs))) E s) : wpAny (model X.prog X.w) X.A t (EP X pins σ Q) E s :=
  thn h fun u s1 ⟨v, H', I', r, p, hp, ev, eH⟩ => by
    subst ev eH
    obtain ⟨od, J⟩ := lock_new I'
    exact ⟨.ref p, _, J, r, k _ hq ι _ _ (Ext.upd_new hp) (m.new hp) (.lst upd_same (rs.up (Ext.upd_new hp)))⟩
theorem ep_newT {Qp : PV → Prop} {Q : VK} {xs : List V} {ps : List PV} {t : Sem Value} {E : Value → Shared → Prop} (m : Rm nm X.K ι H M) (k : Kp nm X.K ι H M Qp Q) (rs : Rvs X.K ι H xs ps) (hq : Qp (.tup ps))
    (h : wpAny (model X.prog X.w) X.A t (EP X pins σ (fun v H' => ∃ p, H p = none ∧ v = .ref p ∧ H' = upd H p (.tup xs))) E s) : wpAny (model X.prog X.w) X.A t (EP X pins σ Q) E s :=
  thn h fun u s1 ⟨v, H', I', r, p, hp, ev, eH⟩ => by
    subst ev eH
    exact ⟨.ref p, _, I', r, k _ hq ι _ _ (Ext.upd_new hp) (m.new hp) (.tup (SqT.of upd_same) (rs.up (Ext.upd_new hp)))⟩
/-- a list value, where it lies -/
theorem asL_at {K : PySem.W.Frag} (m : Rm nm K ι H M) {v : V} {p : PV} {ps : List PV} (r : Rv K ι H v p) (h : asL M p = some ps) : ∃ a xs, v = .ref a ∧ (Rd H a (.lst xs)) ∧ Rvs K ι H xs ps := by
  cases r with
  | lst h1 h2 =>
    unfold asL at h
    cases h
    exact ⟨_, _, rfl, .inr ⟨_, h1⟩, h2⟩
  | @ref a n h1 =>
    unfold asL at h
    cases e : M[n]? with
    | none => simp only [e] at h; cases h
    | some o =>
      simp only [e] at h
      have q := m.at_ n a o h1 e
      cases o with
      | lst ys =>
        cases h
        obtain ⟨xs, h2, h3⟩ := q
        exact ⟨_, _, rfl, .inl h2, h3⟩
      | _ => cases h
  | _ => unfold asL at h; cases h
theorem rd_list (I : Inv X pins σ H s) {a : Addr} {xs : List V} (h : Rd H a (.lst xs)) : xs.length ≤ sizeLine ∧ ∃ (its : List Value) (n : Nat), Vals xs its ∧ xs.length = its.length ∧ s.heap.get? a = some { cls := .type "list", data := .seq its.toArray n } := by
  obtain ⟨z, its, n, r, e⟩ := h.ok I.hok
  exact ⟨z, its, n, r, r.length, e⟩
theorem cat_rd {a b : Addr} {xs ys : List V} {Q : VK} (I : Inv X pins σ H s) (h1 : Rd H a (.lst xs)) (h2 : Rd H b (.lst ys)) (hz : xs.length + ys.length ≤ sizeLine)
    (q : ∀ p, H p = none → Q (.ref p) (upd H p (.lst (xs ++ ys)))) : wpAny (model X.prog X.w) X.A (binaryOp .Add (.ref a) (.ref b)) (EP X pins σ Q) X.xe s := by
  obtain ⟨z, its, n, r, hl, e⟩ := rd_list I h1
  obtain ⟨z2, its2, n2, r2, hl2, e2⟩ := rd_list I h2
  refine PySem.P.add_list e e2 ?_ (by rw [List.size_toArray, List.size_toArray]; omega)
  have ea : its.toArray ++ its2.toArray = (its ++ its2).toArray := by simp
  rw [ea]
  exact ⟨.ref _, _, I.lnew (t' := s.toks) (r.append r2) (by rw [List.length_append]; omega), rfl, q _ I.fresh⟩
theorem opW_add_l {x y : PV} {Qp : PV → Prop} {xs ys : List PV} (hx : asL M x = some xs) (hy : asL M y = some ys) (h : opW .add x y M Qp) : xs.length + ys.length ≤ LL ∧ Qp (.lst (xs ++ ys)) := by
  cases x <;> cases y <;> first
    | (have hc : (none : Option (List PV)) = some xs := hx; cases hc; done)
    | (have hc : (none : Option (List PV)) = some ys := hy; cases hc; done)
    | (unfold opW at h; simp only [hx, hy] at h; exact h)
theorem w_add : OpR X (binaryOp .Add) (rOp nm X.K (opW .add)) := by
  intro pins s σ H x y v u Q I rx ry ⟨ι, M, px, py, Qp, m, hx, hy, hf, k⟩
  have lists : ∀ xs ys, asL M px = some xs → asL M py = some ys → wpAny (model X.prog X.w) X.A (binaryOp .Add v u) (EP X pins σ Q) X.xe s := fun xs ys h1 h2 => by
    obtain ⟨hz, hq⟩ := opW_add_l h1 h2 hf
    obtain ⟨a, vs, rfl, ra, rs⟩ := asL_at m hx h1
    obtain ⟨b, ws, rfl, rb, rt⟩ := asL_at m hy h2
    cases rx
    cases ry
    refine ep_new m k (rs.append rt) hq (cat_rd I ra rb ?_ fun p hp => ⟨p, hp, rfl, rfl⟩)
    rw [rs.length, rt.length, ← ll_eq]
    exact hz
  have other : (∀ i j, ¬ (px = .int i ∧ py = .int j)) → (∀ i j, ¬ (px = .str i ∧ py = .str j)) → (∀ i j, ¬ (px = .tup i ∧ py = .tup j)) → wpAny (model X.prog X.w) X.A (binaryOp .Add v u) (EP X pins σ Q) X.xe s := fun n1 n2 n3 => by
    cases e1 : asL M px with
    | none =>
      exfalso
      cases px <;> cases py <;> first
        | exact n1 _ _ ⟨rfl, rfl⟩
        | exact n2 _ _ ⟨rfl, rfl⟩
        | exact n3 _ _ ⟨rfl, rfl⟩
        | (simp [opW, e1] at hf; done)
    | some xs =>
      cases e2 : asL M py with
      | none =>
        exfalso
        cases px <;> cases py <;> first
          | exact n1 _ _ ⟨rfl, rfl⟩
          | exact n2 _ _ ⟨rfl, rfl⟩
          | exact n3 _ _ ⟨rfl, rfl⟩
          | (have hc : (none : Option (List PV)) = some xs := e1; cases hc; done)
          | (simp [opW, e1, e2] at hf; done)
      | some ys => exact lists xs ys e1 e2
  by_cases c1 : ∃ i j, px = .int i ∧ py = .int j
  · obtain ⟨i, j, rfl, rfl⟩ := c1
    cases hx; cases hy
    exact op_add pins s σ H _ _ v u Q I rx ry ⟨i, j, rfl, rfl, k _ hf ι H _ .refl m (.int _)⟩
  by_cases c2 : ∃ i j, px = .str i ∧ py = .str j
  · obtain ⟨i, j, rfl, rfl⟩ := c2
    cases hx; cases hy
    obtain ⟨hz, hq⟩ := hf
    refine op_add_str pins s σ H _ _ v u Q I rx ry ⟨_, _, rfl, rfl, by rw [toS_len, toS_len, ← ll_eq]; exact hz, ?_⟩
    rw [toS_app]
    exact k _ hq ι H _ .refl m (.str _)
  by_cases c3 : ∃ i j, px = .tup i ∧ py = .tup j
  · obtain ⟨i, j, rfl, rfl⟩ := c3
    obtain ⟨hz, hq⟩ := hf
    cases hx with | @tup a xs _ h1 h2 =>
    cases hy with | @tup b ys _ h3 h4 =>
    have hz' : xs.length + ys.length ≤ sizeLine := by rw [h2.length, h4.length, ← ll_eq]; exact hz
    by_cases ex : xs = []
    · subst ex
      cases h2
      refine op_catA pins s σ H _ _ v u Q I rx ry ⟨a, b, _, _, rfl, rfl, h1, h3, hz', fun _ => ?_, fun z => absurd rfl z, fun z => absurd rfl z⟩
      exact k _ hq ι H _ .refl m (.tup h3 h4)
    · by_cases ey : ys = []
      · subst ey
        cases h4
        refine op_catA pins s σ H _ _ v u Q I rx ry ⟨a, b, _, _, rfl, rfl, h1, h3, hz', fun z => absurd z ex, fun _ _ => ?_, fun _ z => absurd rfl z⟩
        rw [List.append_nil] at hq
        exact k _ hq ι H _ .refl m (.tup h1 h2)
      · refine ep_newT m k (h2.append h4) hq (op_catA pins s σ H _ _ v u _ I rx ry ⟨a, b, _, _, rfl, rfl, h1, h3, hz', fun z => absurd z ex, fun _ z => absurd z ey, fun _ _ p hp => ⟨p, hp, rfl, rfl⟩⟩)
  exact other (fun i j z => c1 ⟨i, j, z⟩) (fun i j z => c2 ⟨i, j, z⟩) fun i j z => c3 ⟨i, j, z⟩
theorem w_sub : OpR X (binaryOp .Sub) (rOp nm X.K (opW .sub)) := by
  intro pins s σ H x y v u Q I rx ry ⟨ι, M, px, py, Qp, m, hx, hy, hf, k⟩
  cases hx <;> cases hy <;> first
    | (exact False.elim hf)
    | exact op_sub pins s σ H _ _ v u Q I rx ry ⟨_, _, rfl, rfl, k _ hf ι H _ .refl m (.int _)⟩
theorem w_mod : OpR X (binaryOp .Mod) (rOp nm X.K (opW .mod)) := by
  intro pins s σ H x y v u Q I rx ry ⟨ι, M, px, py, Qp, m, hx, hy, hf, k⟩
  cases hx <;> cases hy <;> first
    | (exact False.elim hf)
    | exact op_mod pins s σ H _ _ v u Q I rx ry ⟨_, _, rfl, rfl, hf.1, k _ hf.2 ι H _ .refl m (.int _)⟩
theorem w_div : OpR X (binaryOp .FloorDiv) (rOp nm X.K (opW .div)) := by
  intro pins s σ H x y v u Q I rx ry ⟨ι, M, px, py, Qp, m, hx, hy, hf, k⟩
  cases hx <;> cases hy <;> first
    | (exact False.elim hf)
    | exact op_fdiv pins s σ H _ _ v u Q I rx ry ⟨_, _, rfl, rfl, hf.1, k _ hf.2 ι H _ .refl m (.int _)⟩
theorem w_pow : OpR X (binaryOp .Pow) (rOp nm X.K (opW .pow)) := by
  intro pins s σ H x y v u Q I rx ry ⟨ι, M, px, py, Qp, m, hx, hy, hf, k⟩
  cases hx <;> cases hy <;> first
    | (exact False.elim hf)
    | exact op_pow pins s σ H _ _ v u Q I rx ry ⟨_, _, rfl, rfl, hf.1, k _ hf.2 ι H _ .refl m (.int _)⟩
theorem foldl_app (l : List Nat) : ∀ (n : Nat) (acc : List Nat), (List.replicate n l.toArray).foldl (· ++ ·) acc.toArray = (acc ++ (List.replicate n l).flatten).toArray
  | 0, acc => by simp
  | n + 1, acc => by
    rw [List.replicate_succ, List.foldl_cons, show acc.toArray ++ l.toArray = (acc ++ l).toArray by simp, foldl_app l n (acc ++ l), List.replicate_succ, List.flatten_cons, List.append_assoc]
theorem mul_toS (a : List Nat) (j : Int) (h : 0 ≤ j) : Txt.mul (toS a) j = toS (List.replicate j.toNat a).flatten := by
  unfold Txt.mul
  by_cases h0 : j < 1
  · have : j = 0 := by omega
    subst this
    rw [if_pos h0]
    rfl
  · rw [if_neg h0]
    split
    · rename_i h1
      simp only [Bool.or_eq_true, beq_iff_eq, toS_len] at h1
      rcases h1 with h1 | h1
      · subst h1
        show toS a = toS (List.replicate 1 a).flatten
        simp
      · have : a = [] := List.length_eq_zero_iff.mp h1
        subst this
        congr 1
        induction j.toNat with
        | zero => rfl
        | succ n ih => rw [List.replicate_succ, List.flatten_cons]; exact ih
    · have := foldl_app a j.toNat []
      rw [List.nil_append] at this
      show (⟨List.foldl (· ++ ·) #[] (List.replicate j.toNat a.toArray)⟩ : Str) = _
      exact congrArg Str.mk this
theorem w_mul : OpR X (binaryOp .Mult) (rOp nm X.K (opW .mul)) := by
  intro pins s σ H x y v u Q I rx ry ⟨ι, M, px, py, Qp, m, hx, hy, hf, k⟩
  cases hx with
  | int i =>
    cases hy <;> first
      | (exact False.elim hf)
      | exact op_mul pins s σ H _ _ v u Q I rx ry ⟨_, _, rfl, rfl, hf.1, k _ hf.2 ι H _ .refl m (.int _)⟩
  | str a =>
    cases hy with
    | int j =>
      obtain ⟨⟨h1, h2, h3⟩, hq⟩ : (0 ≤ j ∧ j ≤ 1000 ∧ a.length ≤ 1000) ∧ Qp (.str (List.replicate j.toNat a).flatten) := hf
      obtain ⟨t, rfl⟩ := rx
      obtain ⟨t', rfl⟩ := ry
      refine SB.mul ⟨by simp; omega, fun _ _ => ?_, fun _ _ => ?_⟩ fun t' kk => ⟨.str _, H, I.tok _, ⟨_, rfl⟩, ?_⟩
      · rw [toS_len]
        have : (9223372036854775 : Int) ≤ (2 ^ 63 - 1) / j := by
          rw [Int.le_ediv_iff_mul_le (by omega)]
          omega
        omega
      · have : (toS a).length * j.toNat ≤ 1000 * 1000 := Nat.mul_le_mul (by rw [toS_len]; exact h3) (by omega)
        have hl : sizeLine = 16777216 := sizeLine_eq
        unfold Builtin.Str.tooLong
        simp
        omega
      · rw [mul_toS a j h1]
        exact k _ hq ι H _ .refl m (.str _)
    | _ => exact False.elim hf
  | _ => exact False.elim (by cases hy <;> exact hf)
end
end Qt
/-! ### a dict whose keys are tuples, in the abstract heap -/
namespace Qt
open PySem PySem.Spec PyProof.Rows L2
mutual
theorem okd_sh : ∀ (d : Nat) (p : PV), PV.okd d p = true → p.toD.canLay0 = true ∧ p.toD.depth ≤ d
  | _, .non, _ => ⟨rfl, Nat.zero_le _⟩
  | _, .bl _, _ => ⟨rfl, Nat.zero_le _⟩
  | _, .int _, _ => ⟨rfl, Nat.zero_le _⟩
  | _, .str s, h => ⟨strOk_toS h, Nat.zero_le _⟩
  | 0, .tup _, h => by cases h
  | 0, .lst _, h => by cases h
  | d + 1, .tup xs, h => by
    obtain ⟨h1, h2⟩ := oks_sh d xs h
    exact ⟨h1, Nat.succ_le_succ h2⟩
  | d + 1, .lst xs, h => by
    obtain ⟨h1, h2⟩ := oks_sh d xs h
    exact ⟨h1, Nat.succ_le_succ h2⟩
  | _, .dct _ _, h => by simp [PV.okd] at h
  | _, .ref _, h => by simp [PV.okd] at h
  | _, .scr _, h => by simp [PV.okd] at h
theorem oks_sh : ∀ (d : Nat) (xs : List PV), oks d xs = true → PyData.canLayAll0 (toDs xs) = true ∧ PyData.depthAll (toDs xs) ≤ d
  | _, [], _ => ⟨rfl, Nat.zero_le _⟩
  | d, x :: xs, h => by
    have h' : (PV.okd d x && oks d xs) = true := h
    rw [Bool.and_eq_true] at h'
    obtain ⟨h1, h2⟩ := okd_sh d x h'.1
    obtain ⟨h3, h4⟩ := oks_sh d xs h'.2
    refine ⟨?_, Nat.max_le.mpr ⟨h2, h4⟩⟩
    show (x.toD.canLay0 && PyData.canLayAll0 (toDs xs)) = true
    rw [h1, h3]
    rfl
end
theorem ok_shaped {p : PV} (h : p.ok = true) : SeqAt.shaped p.toD = true := by
  obtain ⟨h1, h2⟩ := okd_sh 20 p h
  unfold SeqAt.shaped
  rw [h1, Bool.true_and, decide_eq_true_eq]
  omega
section
variable {K : PySem.W.Frag} {ι : List Addr} {H : Hp}
mutual
theorem rv_dp : ∀ (d : Nat) (p : PV) (v : V), PV.okd d p = true → Rv K ι H v p → Dp K H v p.toD
  | _, .non, _, _, r => by cases r; exact .non
  | _, .bl b, _, _, r => by cases r; exact .bl b
  | _, .int i, _, _, r => by cases r; exact .int i
  | _, .str s, _, _, r => by cases r; exact .str _
  | 0, .tup _, _, h, _ => by cases h
  | 0, .lst _, _, h, _ => by cases h
  | d + 1, .tup xs, _, h, r => by cases r with | tup h1 h2 => exact .tup h1 (rvs_dp d xs _ h h2)
  | d + 1, .lst xs, _, h, r => by cases r with | lst h1 h2 => exact .lst (.inl (.inr ⟨_, h1⟩)) (rvs_dp d xs _ h h2)
  | _, .dct _ _, _, h, _ => by simp [PV.okd] at h
  | _, .ref _, _, h, _ => by simp [PV.okd] at h
  | _, .scr _, _, h, _ => by simp [PV.okd] at h
theorem rvs_dp : ∀ (d : Nat) (ps : List PV) (vs : List V), oks d ps = true → Rvs K ι H vs ps → DpAll K H vs (toDs ps)
  | _, [], _, _, r => by cases r; exact .nil
  | d, p :: ps, _, h, r => by
    cases r with | cons h1 h2 =>
    have h' : (PV.okd d p && oks d ps) = true := h
    rw [Bool.and_eq_true] at h'
    exact .cons (rv_dp d p _ h'.1 h1) (rvs_dp d ps _ h'.2 h2)
end
theorem any_eqv (x : PV) : ∀ ys : List PV, (ys.any fun z => PV.eqv z x) = (toDs ys).any fun z => PyData.eqv z x.toD
  | [] => rfl
  | y :: ys => by
    show (PV.eqv y x || ys.any fun z => PV.eqv z x) = (PyData.eqv y.toD x.toD || (toDs ys).any fun z => PyData.eqv z x.toD)
    rw [eqv_toD, any_eqv x ys]
end
mutual
theorem hk_okd : ∀ (d e : Nat) (p : PV), d ≤ e → p.hk d = true → p.okd e = true
  | _, _, .non, _, _ => by simp [PV.okd]
  | _, _, .bl _, _, _ => by simp [PV.okd]
  | _, _, .int _, _, _ => by simp [PV.okd]
  | d, e, .str s, _, h => by
    have h' : s.all (· < 1114112) = true := by cases d <;> exact h
    cases e <;> exact h'
  | 0, _, .tup _, _, h => by cases h
  | d + 1, 0, .tup _, h, _ => by omega
  | d + 1, e + 1, .tup xs, h, g => hks_oks d e xs (by omega) g
  | d, _, .lst _, _, h => by cases d <;> cases h
  | d, _, .dct _ _, _, h => by cases d <;> cases h
  | d, _, .ref _, _, h => by cases d <;> cases h
  | d, _, .scr _, _, h => by cases d <;> cases h
theorem hks_oks : ∀ (d e : Nat) (ps : List PV), d ≤ e → hks d ps = true → oks e ps = true
  | _, _, [], _, _ => by simp [oks]
  | d, e, p :: ps, h, g => by
    have g' : (PV.hk d p && hks d ps) = true := g
    rw [Bool.and_eq_true] at g'
    show (PV.okd e p && oks e ps) = true
    rw [hk_okd d e p h g'.1, hks_oks d e ps h g'.2]
    rfl
end
section
variable {X : Cx} {nm : Nm} {pins : List (Addr × Obj)} {σ : L2.St} {H : Hp} {s : Shared} {ι : List Addr} {M : Mem}
/-- a tuple that is a key -/
theorem key_at (I : L2.Inv X pins σ H s) {px : PV} {x : V} {u : Value} (r : Rv X.K ι H x px) (ru : RelV x u) (h : (isTup px && px.hk 6) = true) : ∃ a, x = .ref a ∧ u = .ref a ∧ KeyAt s.heap (nrm px) a := by
  rw [Bool.and_eq_true] at h
  cases px with
  | tup ps =>
    have rd := Dp.reads I (PV.tup ps).toD x u (rv_dp 20 _ x (hk_okd 6 20 _ (by decide) h.2) r) ru
    cases r with
    | @tup a xs _ h1 h2 =>
      cases (show u = Value.ref a from ru)
      obtain ⟨as, rd⟩ := rd
      exact ⟨a, rfl, rfl, _, as, h.2, rfl, rd⟩
  | _ => cases h.1
abbrev EntR (p : PV × Addr × V) (q : PV × Addr × Value) : Prop := (p.1 = q.1 ∧ p.2.1 = q.2.1) ∧ RelV p.2.2 q.2.2
/-- the entries' keys, their places, their values -/
structure DicR (K : PySem.W.Frag) (ι : List Addr) (H : Hp) (L : List (PV × Addr × V)) (ks vs : List PV) : Prop where
  ky : L.map (·.1) = ks.map nrm
  hk : (ks.all fun k => isTup k && k.hk 6) = true
  rk : Rvs K ι H (L.map fun e => V.ref e.2.1) ks
  rv : Rvs K ι H (L.map fun e => e.2.2) vs
theorem dic_keys (I : L2.Inv X pins σ H s) : ∀ {L : List (PV × Addr × V)} {xs : List (PV × Addr × Value)} {ks : List PV}, Paired EntR L xs → L.map (·.1) = ks.map nrm → (ks.all fun k => isTup k && k.hk 6) = true → Rvs X.K ι H (L.map fun e => V.ref e.2.1) ks →
    ∀ x ∈ xs, KeyAt s.heap x.1 x.2.1
  | [], _, _, r, _, _, _, x, hx => by cases r; cases hx
  | e :: L, _, [], r, h1, _, _, _, _ => by cases h1
  | e :: L, _, k :: ks, r, h1, h2, h3, x, hx => by
    cases r with
    | @cons _ q _ xs' a1 a2 =>
      rw [List.map_cons, List.map_cons] at h1
      injection h1 with e1 e2
      rw [List.all_cons, Bool.and_eq_true] at h2
      cases h3 with
      | cons b1 b2 =>
        rcases List.mem_cons.mp hx with rfl | hx
        · obtain ⟨a, ea, _, ka⟩ := key_at I b1 (u := .ref e.2.1) rfl h2.1
          injection ea with ea
          rw [← a1.1.1, ← a1.1.2, e1, ea]
          exact ka
        · exact dic_keys I a2 e2 h2.2 b2 x hx
theorem dic_at (I : L2.Inv X pins σ H s) (hP : nm.P = X.prog) (hw : nm.w = X.w) {a : Addr} {L : List (PV × Addr × V)} {ks vs : List PV} (h : H a = some (DicO nm.P nm.w a L)) (r : DicR X.K ι H L ks vs) :
    L.length ≤ sizeLine ∧ (a == sysModules) = false ∧ ∃ xs, Paired EntR L xs ∧ s.heap.DictOfH (deepKind X.prog X.w) a xs := by
  rw [hP, hw] at h
  obtain ⟨⟨⟨z1, z2⟩, xs, rel, o, es, ep, h1, h2, h3, h4, h5⟩, _, _⟩ := (show ObjOk X.prog X.w H s.heap a (DicO X.prog X.w a L) from I.hok a _ h)
  exact ⟨z1, z2, xs, rel, o, es, ep, h1, h2, h3, h4, dic_keys I rel r.ky r.hk r.rk, h5⟩
theorem eqv_dec {p q : PV} (hp : p.hk 6 = true) (hq : q.hk 6 = true) : PV.eqv p q = decide (nrm p = nrm q) := by
  have := eqv_nrm 6 6 p q hp hq
  by_cases z : nrm p = nrm q
  · rw [decide_eq_true z]
    exact this.mpr z
  · rw [decide_eq_false z]
    cases e3 : PV.eqv p q with
    | false => rfl
    | true => exact absurd (this.mp e3) z
theorem any_key {px : PV} (hx : px.hk 6 = true) : ∀ {L : List (PV × Addr × V)} {xs : List (PV × Addr × Value)} {ks : List PV}, Paired EntR L xs → L.map (·.1) = ks.map nrm → (ks.all fun k => isTup k && k.hk 6) = true →
    (atKey xs (nrm px)).isSome = (ks.any fun z => PV.eqv z px) ∧ (L.any fun e => decide (e.1 = nrm px)) = (ks.any fun z => PV.eqv z px)
  | [], _, [], r, _, _ => by cases r; exact ⟨rfl, rfl⟩
  | [], _, k :: ks, r, h1, _ => by cases h1
  | e :: L, _, [], r, h1, _ => by cases h1
  | e :: L, _, k :: ks, r, h1, h2 => by
    cases r with
    | @cons _ q _ xs' a1 a2 =>
      rw [List.map_cons, List.map_cons] at h1
      injection h1 with e1 e2
      rw [List.all_cons, Bool.and_eq_true, Bool.and_eq_true] at h2
      have ih := any_key hx a2 e2 h2.2
      have ek : PV.eqv k px = decide (q.1 = nrm px) := by rw [eqv_dec h2.1.2 hx, ← e1, a1.1.1]
      rw [List.any_cons, List.any_cons, ek]
      unfold atKey at ih ⊢
      rw [List.find?_cons]
      refine ⟨?_, by rw [ih.2, a1.1.1]⟩
      cases decide (q.1 = nrm px) with
      | true => rfl
      | false => exact ih.1
theorem find_key {px : PV} (hx : px.hk 6 = true) : ∀ {L : List (PV × Addr × V)} {xs : List (PV × Addr × Value)} {ks vs : List PV}, Paired EntR L xs → DicR X.K ι H L ks vs →
    (∀ w, dFind px ks vs = some w → ∃ v u, (atKey xs (nrm px)).map (·.2) = some u ∧ RelV v u ∧ Rv X.K ι H v w) ∧ (dFind px ks vs = none → (atKey xs (nrm px)).map (·.2) = none)
  | [], _, ks, vs, r, d => by
    cases r
    cases ks with
    | nil => exact ⟨fun w z => (by cases z), fun _ => rfl⟩
    | cons k ks => have z := d.ky; cases z
  | e :: L, _, [], vs, r, d => by have z := d.ky; cases z
  | e :: L, _, k :: ks, [], r, d => by have z := d.rv; cases z
  | e :: L, _, k :: ks, y :: vs, r, d => by
    cases r with
    | @cons _ q _ xs' a1 a2 =>
      have h1 := d.ky
      have h2 := d.hk
      have h3 := d.rk
      have h4 := d.rv
      rw [List.map_cons, List.map_cons] at h1
      injection h1 with e1 e2
      rw [List.all_cons, Bool.and_eq_true, Bool.and_eq_true] at h2
      cases h3 with
      | cons b1 b2 =>
        cases h4 with
        | cons c1 c2 =>
          have ih := find_key hx a2 ⟨e2, h2.2, b2, c2⟩
          have ek : PV.eqv k px = decide (q.1 = nrm px) := by rw [eqv_dec h2.1.2 hx, ← e1, a1.1.1]
          unfold dFind
          rw [ek]
          unfold atKey at ih ⊢
          rw [List.find?_cons]
          cases decide (q.1 = nrm px) with
          | true => exact ⟨fun w z => by cases z; exact ⟨_, _, rfl, a1.2, c1⟩, fun z => by cases z⟩
          | false => exact ih
/-- the entries behind d[k] = v -/
noncomputable def putL (k : PV) (a : Addr) (v : V) (L : List (PV × Addr × V)) : List (PV × Addr × V) := if (L.any fun e => decide (e.1 = k)) = true then L.map (fun e => if e.1 = k then (e.1, e.2.1, v) else e) else L ++ [(k, a, v)]
theorem putL_len (k : PV) (a : Addr) (v : V) (L : List (PV × Addr × V)) : (putL k a v L).length ≤ L.length + 1 := by
  unfold putL
  split
  · rw [List.length_map]; omega
  · rw [List.length_append]; simp
theorem rep_rel {k : PV} {v : V} {u : Value} (ru : RelV v u) : ∀ {L : List (PV × Addr × V)} {xs : List (PV × Addr × Value)}, Paired EntR L xs → Paired EntR (L.map fun e => if e.1 = k then (e.1, e.2.1, v) else e) (xs.map (putAt k u))
  | [], _, r => by cases r; exact .nil
  | e :: L, _, r => by
    cases r with
    | @cons _ q _ xs' a1 a2 =>
      refine .cons ?_ (rep_rel ru a2)
      show EntR (if e.1 = k then (e.1, e.2.1, v) else e) (if q.1 = k then (q.1, q.2.1, u) else q)
      by_cases h : e.1 = k
      · rw [if_pos h, if_pos (by rw [← a1.1.1]; exact h)]
        exact ⟨a1.1, ru⟩
      · rw [if_neg h, if_neg (by rw [← a1.1.1]; exact h)]
        exact a1
theorem put_rel {px : PV} (hx : px.hk 6 = true) {a : Addr} {v : V} {u : Value} (ru : RelV v u) {L : List (PV × Addr × V)} {xs : List (PV × Addr × Value)} {ks : List PV} (r : Paired EntR L xs) (h1 : L.map (·.1) = ks.map nrm) (h2 : (ks.all fun k => isTup k && k.hk 6) = true) :
    Paired EntR (putL (nrm px) a v L) (storedH xs (nrm px) a u) := by
  obtain ⟨k1, k2⟩ := any_key hx r h1 h2
  unfold putL storedH
  rw [k2, ← k1]
  by_cases h : (atKey xs (nrm px)).isSome = true
  · rw [if_pos h, if_pos h]
    exact rep_rel ru r
  · rw [if_neg h, if_neg h]
    exact Paired.snoc r ⟨⟨rfl, rfl⟩, ru⟩
theorem rep_vals {K : PySem.W.Frag} {px w : PV} (hx : px.hk 6 = true) {v : V} (rw' : Rv K ι H v w) : ∀ {L : List (PV × Addr × V)} {ks vs : List PV}, DicR K ι H L ks vs →
    DicR K ι H (L.map fun e => if e.1 = nrm px then (e.1, e.2.1, v) else e) ks (dRep px w ks vs)
  | [], ks, vs, d => by
    have z := d.rv
    cases z
    cases ks with
    | nil => exact ⟨rfl, rfl, .nil, .nil⟩
    | cons k ks => have z := d.ky; cases z
  | e :: L, [], vs, d => by have z := d.ky; cases z
  | e :: L, k :: ks, [], d => by have z := d.rv; cases z
  | e :: L, k :: ks, y :: vs, d => by
    have h1 := d.ky
    have h2 := d.hk
    have h3 := d.rk
    have h4 := d.rv
    rw [List.map_cons, List.map_cons] at h1
    injection h1 with e1 e2
    have h2' := h2
    rw [List.all_cons, Bool.and_eq_true, Bool.and_eq_true] at h2
    cases h3 with
    | cons b1 b2 =>
      cases h4 with
      | cons c1 c2 =>
        have ih := rep_vals hx rw' (L := L) (ks := ks) (vs := vs) ⟨e2, h2.2, b2, c2⟩
        have ek : PV.eqv k px = decide (e.1 = nrm px) := by rw [eqv_dec h2.1.2 hx, ← e1]
        refine ⟨?_, h2', ?_, ?_⟩
        · rw [List.map_cons, List.map_cons, List.map_cons, ih.ky]
          congr 1
          split <;> exact e1
        · rw [List.map_cons, List.map_cons]
          refine .cons ?_ ih.rk
          split <;> exact b1
        · unfold dRep
          rw [List.map_cons, List.map_cons, ek]
          by_cases h : e.1 = nrm px
          · rw [if_pos h, if_pos (decide_eq_true h)]
            exact .cons rw' ih.rv
          · rw [if_neg h, if_neg (by rw [decide_eq_false h]; exact Bool.false_ne_true)]
            exact .cons c1 ih.rv
theorem put_dic {K : PySem.W.Frag} {px w : PV} (hx : (isTup px && px.hk 6) = true) {a : Addr} {v : V} (ra : Rv K ι H (.ref a) px) (rw' : Rv K ι H v w) {L : List (PV × Addr × V)} {ks vs : List PV} (hany : (L.any fun e => decide (e.1 = nrm px)) = (ks.any fun z => PV.eqv z px)) (d : DicR K ι H L ks vs) :
    DicR K ι H (putL (nrm px) a v L) (dPutK px ks) (dPutV px w ks vs) := by
  unfold putL dPutK dPutV
  rw [hany]
  have hx' := hx
  rw [Bool.and_eq_true] at hx'
  by_cases h : (ks.any fun z => PV.eqv z px) = true
  · rw [if_pos h, if_pos h, if_pos h]
    exact rep_vals hx'.2 rw' d
  · rw [if_neg h, if_neg h, if_neg h]
    refine ⟨by rw [List.map_append, List.map_append, d.ky]; rfl, by rw [List.all_append, d.hk]; simp [hx'.1, hx'.2], ?_, ?_⟩
    · rw [List.map_append]
      exact d.rk.append (.cons ra .nil)
    · rw [List.map_append]
      exact d.rv.append (.cons rw' .nil)
theorem ent_keys : ∀ {L : List (PV × Addr × V)} {ys : List (PV × Addr × Value)}, Paired EntR L ys → (ys.map fun x => Value.ref x.2.1) = (L.map (·.2.1)).map Value.ref
  | [], _, r => by cases r; rfl
  | e :: L, _, r => by
    cases r with
    | @cons _ q _ xs' a1 a2 =>
      rw [List.map_cons, List.map_cons, List.map_cons, ent_keys a2, a1.1.2]
theorem ent_vals : ∀ {L : List (PV × Addr × V)} {ys : List (PV × Addr × Value)}, Paired EntR L ys → Vals (L.map (·.2.2)) (ys.map (·.2.2))
  | [], _, r => by cases r; exact .nil
  | e :: L, _, r => by
    cases r with
    | @cons _ q _ xs' a1 a2 => exact .cons a1.2 (ent_vals a2)
theorem ref_dct (m : Rm nm X.K ι H M) {x : V} {n : Nat} (r : Rv X.K ι H x (.ref n)) {ks vs : List PV} (e : M[n]? = some (.dct ks vs)) : ∃ (a : Addr) (L : List (PV × Addr × V)), x = .ref a ∧ ι[n]? = some a ∧ H a = some (DicO nm.P nm.w a L) ∧ DicR X.K ι H L ks vs := by
  cases r with | @ref a _ hn =>
  obtain ⟨L, h, h1, h2, h3, h4⟩ := (show Ro nm X.K ι H a (.dct ks vs) from m.at_ n a _ hn e)
  exact ⟨a, L, rfl, hn, h, h1, h2, h3, h4⟩
theorem txt_tup {ks : List PV} (h1 : isTxt ks = true) (h2 : ks.all isTup = true) : False := by
  cases ks with
  | nil => cases h1
  | cons k r =>
    cases k with
    | str _ => rw [List.all_cons, Bool.and_eq_true] at h2; cases h2.1
    | _ => cases h1
theorem DicR.up {K : PySem.W.Frag} {ι' : List Addr} {H' : Hp} {L : List (PV × Addr × V)} {ks vs : List PV} (d : DicR K ι H L ks vs) (e : Ext ι H ι' H') : DicR K ι' H' L ks vs := ⟨d.ky, d.hk, d.rk.up e, d.rv.up e⟩
/-- d[k] = v -/
theorem dic_set (I : L2.Inv X pins σ H s) (hu : X.A.units + 65 < cLine) (hP : nm.P = X.prog) (hw : nm.w = X.w) {a : Addr} {L : List (PV × Addr × V)} {ks vs : List PV} (h : H a = some (DicO nm.P nm.w a L)) (d : DicR X.K ι H L ks vs) (hl : L.length < LL)
    {px : PV} {x v : V} {ux uv : Value} (hx : (isTup px && px.hk 6) = true) (r : Rv X.K ι H x px) (rx : RelV x ux) (rv : RelV v uv) {Q : Unit → Shared → Prop} {A : Around} {E : Value → Shared → Prop} (hA : A.units ≤ X.A.units)
    (q : ∀ (b : Addr) (s' : Shared), x = .ref b → L2.Inv X pins σ (upd H a (DicO nm.P nm.w a (putL (nrm px) b v L))) s' → Q () s') : wpAny (model X.prog X.w) A (setItem (.ref a) ux uv) Q E s := by
  obtain ⟨z1, z2, xs, rel, dd⟩ := dic_at I hP hw h d
  obtain ⟨b, rfl, rfl, kb⟩ := key_at I r rx hx
  have hx' := hx
  rw [Bool.and_eq_true] at hx'
  have len : xs.length ≤ sizeLine := by rw [← Paired.length rel]; exact z1
  refine wpAny_setItem_heap (hsz := len) (knd := deepKind X.prog X.w) (by show A.in1.units + 8 < cLine; show A.units + 1 + 8 < cLine; omega) kb dd fun h' dd' hs => q b _ rfl ?_
  obtain ⟨o, es, ep, g1, g2, g3, g4, _, g5⟩ := dd'
  have ll : (putL (nrm px) b v L).length ≤ sizeLine := by
    have := putL_len (nrm px) b v L
    rw [← ll_eq]
    omega
  rw [hP, hw] at h ⊢
  refine d_write I (by rw [h]; exact True.intro) hs ⟨o, g1⟩ ⟨⟨⟨ll, z2⟩, _, put_rel hx'.2 rv rel d.ky d.hk, o, es, ep, g1, g2, g3, g4, g5⟩, ⟨o, g1⟩, ?_⟩
  rintro h1 h2 ⟨y, ys, k1, o', es', ep', k2, k3⟩ st
  exact ⟨y, ys, k1, o', es', ep', st o' k2, k3⟩
/-- k in d -/
theorem dic_in (I : L2.Inv X pins σ H s) (hu : X.A.units + 65 < cLine) (hP : nm.P = X.prog) (hw : nm.w = X.w) {a : Addr} {L : List (PV × Addr × V)} {ks vs : List PV} (h : H a = some (DicO nm.P nm.w a L)) (d : DicR X.K ι H L ks vs)
    {px : PV} {x : V} {ux : Value} (hx : (isTup px && px.hk 6) = true) (r : Rv X.K ι H x px) (rx : RelV x ux) {Q : Value → Shared → Prop} {E : Value → Shared → Prop}
    (q : ∀ s', L2.Inv X pins σ H s' → Q (.bool (ks.any fun z => PV.eqv z px)) s') : wpAny (model X.prog X.w) X.A (compareOp .In ux (.ref a)) Q E s := by
  obtain ⟨z1, z2, xs, rel, dd⟩ := dic_at I hP hw h d
  obtain ⟨b, rfl, rfl, kb⟩ := key_at I r rx hx
  have hx' := hx
  rw [Bool.and_eq_true] at hx'
  refine wpAny_in_heap (knd := deepKind X.prog X.w) (by show X.A.units + 1 + 8 < cLine; omega) kb z2 dd ?_
  rw [(any_key hx'.2 rel d.ky d.hk).1]
  exact q _ (I.tok _)
theorem dic_notin (I : L2.Inv X pins σ H s) (hu : X.A.units + 65 < cLine) (hP : nm.P = X.prog) (hw : nm.w = X.w) {a : Addr} {L : List (PV × Addr × V)} {ks vs : List PV} (h : H a = some (DicO nm.P nm.w a L)) (d : DicR X.K ι H L ks vs)
    {px : PV} {x : V} {ux : Value} (hx : (isTup px && px.hk 6) = true) (r : Rv X.K ι H x px) (rx : RelV x ux) {Q : Value → Shared → Prop} {E : Value → Shared → Prop}
    (q : ∀ s', L2.Inv X pins σ H s' → Q (.bool (!(ks.any fun z => PV.eqv z px))) s') : wpAny (model X.prog X.w) X.A (compareOp .NotIn ux (.ref a)) Q E s := by
  obtain ⟨z1, z2, xs, rel, dd⟩ := dic_at I hP hw h d
  obtain ⟨b, rfl, rfl, kb⟩ := key_at I r rx hx
  have hx' := hx
  rw [Bool.and_eq_true] at hx'
  refine wpAny_notIn_heap (knd := deepKind X.prog X.w) (by show X.A.units + 1 + 8 < cLine; omega) kb z2 dd ?_
  rw [(any_key hx'.2 rel d.ky d.hk).1]
  exact q _ (I.tok _)
/-- d.get(k, y) -/
theorem dic_get (I : L2.Inv X pins σ H s) (hu : X.A.units + 65 < cLine) (hP : nm.P = X.prog) (hw : nm.w = X.w) {a : Addr} {L : List (PV × Addr × V)} {ks vs : List PV} (h : H a = some (DicO nm.P nm.w a L)) (d : DicR X.K ι H L ks vs)
    {px py : PV} {x y : V} {ux uy : Value} (hx : (isTup px && px.hk 6) = true) (r : Rv X.K ι H x px) (rx : RelV x ux) (r2 : Rv X.K ι H y py) (ry : RelV y uy) {Q : Value → Shared → Prop} {E : Value → Shared → Prop}
    (q : ∀ (v : V) (u : Value) s', L2.Inv X pins σ H s' → RelV v u → Rv X.K ι H v ((dFind px ks vs).getD py) → Q u s') : wpAny (model X.prog X.w) X.A (call (.builtin "dict.get") [.ref a, ux, uy]) Q E s := by
  obtain ⟨z1, z2, xs, rel, dd⟩ := dic_at I hP hw h d
  obtain ⟨b, rfl, rfl, kb⟩ := key_at I r rx hx
  have hx' := hx
  rw [Bool.and_eq_true] at hx'
  have f := find_key hx'.2 rel d
  refine call_meetsIn PySem.F.slot_dict_get dd.typeIs PySem.F.entry_dict_get (PySem.F.args_dict_get_3 _ _ _) (meetsH_dict_get_default (deepKind X.prog X.w) a b z2 uy) ⟨by show X.A.units + 1 + 8 < cLine; omega, nrm px, xs, kb, dd, ?_⟩
  cases e : dFind px ks vs with
  | none =>
    rw [e] at q
    rw [f.2 e]
    exact q y uy _ (I.tok _) ry r2
  | some w =>
    rw [e] at q
    obtain ⟨v, u, k1, k2, k3⟩ := f.1 w e
    rw [k1]
    exact q v u _ (I.tok _) k2 k3
end
end Qt
/-! ### the order of data -/
namespace Qt
open PySem PySem.Spec PyProof.Rows L2
theorem ltN_dec : ∀ a b : List Nat, ltN a b = decide ((toS a).cps.toList < (toS b).cps.toList)
  | [], b => by
    show ltN [] b = decide ([] < b)
    cases b <;> simp [ltN]
  | c :: a, [] => by
    show ltN (c :: a) [] = decide (c :: a < [])
    simp [ltN]
  | c :: a, d :: b => by
    show ltN (c :: a) (d :: b) = decide (c :: a < d :: b)
    have ih : ltN a b = decide (a < b) := ltN_dec a b
    unfold ltN
    rw [ih]
    by_cases h : c = d
    · subst h; simp
    · rw [if_neg h]
      refine decide_eq_decide.mpr ?_
      rw [List.cons_lt_cons_iff]
      constructor
      · exact .inl
      · rintro (h' | ⟨h', _⟩)
        · exact h'
        · exact absurd h' h
mutual
theorem alk_toD : ∀ {a b : PV}, PV.alk a b = true → PySem.W.alike a.toD b.toD = true
  | .bl _, b, h => by cases b <;> first | rfl | cases h
  | .int _, b, h => by cases b <;> first | rfl | cases h
  | .str _, b, h => by cases b <;> first | rfl | cases h
  | .tup xs, b, h => by
    cases b with
    | tup ys => exact alks_toD (show alks xs ys = true from h)
    | _ => cases h
  | .non, b, h => by cases b <;> cases h
  | .lst _, b, h => by cases b <;> cases h
  | .dct _ _, b, h => by cases b <;> cases h
  | .ref _, b, h => by cases b <;> cases h
  | .scr _, b, h => by cases b <;> cases h
theorem alks_toD : ∀ {a b : List PV}, alks a b = true → PySem.W.alikeAll (toDs a) (toDs b) = true
  | [], b, h => by cases b <;> rfl
  | x :: xs, [], h => rfl
  | x :: xs, y :: ys, h => by
    have h' : (PV.alk x y && alks xs ys) = true := h
    rw [Bool.and_eq_true] at h'
    show (PySem.W.alike x.toD y.toD && PySem.W.alikeAll (toDs xs) (toDs ys)) = true
    rw [alk_toD h'.1, alks_toD h'.2]
    rfl
end
mutual
theorem alk_comm : ∀ {a b : PV}, PV.alk a b = true → PV.alk b a = true
  | .bl _, b, h => by cases b <;> first | rfl | cases h
  | .int _, b, h => by cases b <;> first | rfl | cases h
  | .str _, b, h => by cases b <;> first | rfl | cases h
  | .tup xs, b, h => by
    cases b with
    | tup ys => exact alks_comm (show alks xs ys = true from h)
    | _ => cases h
  | .non, b, h => by cases b <;> cases h
  | .lst _, b, h => by cases b <;> cases h
  | .dct _ _, b, h => by cases b <;> cases h
  | .ref _, b, h => by cases b <;> cases h
  | .scr _, b, h => by cases b <;> cases h
theorem alks_comm : ∀ {a b : List PV}, alks a b = true → alks b a = true
  | [], b, h => by cases b <;> rfl
  | x :: xs, [], h => rfl
  | x :: xs, y :: ys, h => by
    have h' : (PV.alk x y && alks xs ys) = true := h
    rw [Bool.and_eq_true] at h'
    show (PV.alk y x && alks ys xs) = true
    rw [alk_comm h'.1, alks_comm h'.2]
    rfl
end
mutual
theorem ltv_toD : ∀ {a b : PV}, PV.alk a b = true → PySem.W.dataLt a.toD b.toD = PV.ltv a b
  | .bl x, b, h => by
    cases b with
    | bl y =>
      show PySem.W.dataLt (.bool x) (.bool y) = (!x && y)
      rw [PySem.W.dataLt_bool]
      cases x <;> cases y <;> rfl
    | _ => cases h
  | .int x, b, h => by
    cases b with
    | int y => exact PySem.W.dataLt_int x y
    | _ => cases h
  | .str x, b, h => by
    cases b with
    | str y =>
      show PySem.W.dataLt (.str (toS x)) (.str (toS y)) = ltN x y
      rw [PySem.W.dataLt_str, ltN_dec]
    | _ => cases h
  | .tup xs, b, h => by
    cases b with
    | tup ys =>
      show PySem.W.dataLt (.tuple (toDs xs)) (.tuple (toDs ys)) = ltvs xs ys
      rw [PySem.W.dataLt_tuple]
      exact ltvs_toD (show alks xs ys = true from h)
    | _ => cases h
  | .non, b, h => by cases b <;> cases h
  | .lst _, b, h => by cases b <;> cases h
  | .dct _ _, b, h => by cases b <;> cases h
  | .ref _, b, h => by cases b <;> cases h
  | .scr _, b, h => by cases b <;> cases h
theorem ltvs_toD : ∀ {a b : List PV}, alks a b = true → PyProof.Rows.lexLt itemOrd (PySem.W.keyToksAll (toDs a)) (PySem.W.keyToksAll (toDs b)) = ltvs a b
  | [], [], _ => by decide +kernel
  | [], y :: ys, _ => by
    show PyProof.Rows.lexLt itemOrd [Sum.inl 0] (Sum.inl 1 :: _) = true
    rfl
  | x :: xs, [], _ => by
    show PyProof.Rows.lexLt itemOrd (Sum.inl 1 :: _) [Sum.inl 0] = false
    rfl
  | x :: xs, y :: ys, h => by
    have h' : (PV.alk x y && alks xs ys) = true := h
    rw [Bool.and_eq_true] at h'
    have ha := alk_toD h'.1
    show PyProof.Rows.lexLt itemOrd (PySem.W.keyToksAll (x.toD :: toDs xs)) (PySem.W.keyToksAll (y.toD :: toDs ys)) = (if PV.eqv x y = true then ltvs xs ys else PV.ltv x y)
    cases e : PV.eqv x y with
    | true =>
      rw [if_pos rfl, PySem.W.dataLt_all_yes ha (by rw [← eqv_toD]; exact e)]
      exact ltvs_toD h'.2
    | false =>
      rw [if_neg Bool.false_ne_true, PySem.W.dataLt_all_no ha (by rw [← eqv_toD]; exact e)]
      exact ltv_toD h'.1
end
end Qt
namespace Qt
open PySem PySem.Spec PyProof.Rows L2
section
variable {K : PySem.W.Frag} {ι : List Addr} {H : Hp}
/-- the hand layer's == of scalars -/
theorem scal_flat {v : V} {p : PV} (r : Rv K ι H v p) (h : isScal p = true) : flatV v = true := by
  cases r <;> first | rfl | (cases h; done)
theorem scal_eqV {v w : V} {p q : PV} (r : Rv K ι H v p) (r' : Rv K ι H w q) (h : isScal p = true) (h' : isScal q = true) : eqV v w = PV.eqv p q := by
  cases r <;> cases r' <;> first
    | rfl
    | (cases h; done)
    | (cases h'; done)
    | (show decide _ = decide _; exact decide_eq_decide.mpr ⟨toS_inj, fun e => by rw [e]⟩)
    | (simp [eqV, PV.eqv]; done)
    | (rename_i a b; cases a <;> cases b <;> rfl)
    | (rename_i a b; cases a <;> simp [eqV, PV.eqv] <;> done)
    | (rename_i a b; cases b <;> simp [eqV, PV.eqv] <;> done)
theorem scal_all : ∀ {vs : List V} {ps : List PV}, Rvs K ι H vs ps → ps.all isScal = true → vs.all flatV = true
  | _, [], r, _ => by cases r; rfl
  | _, p :: ps, r, h => by
    cases r with | cons h1 h2 =>
    simp only [List.all_cons, Bool.and_eq_true] at h ⊢
    exact ⟨scal_flat h1 h.1, scal_all h2 h.2⟩
theorem scal_in {v : V} {p : PV} (r : Rv K ι H v p) (hp : isScal p = true) : ∀ {vs : List V} {ps : List PV}, Rvs K ι H vs ps → ps.all isScal = true → inV v vs = ps.any fun z => PV.eqv z p
  | _, [], q, _ => by cases q; rfl
  | _, z :: zs, q, h => by
    cases q with | cons h1 h2 =>
    simp only [List.all_cons, Bool.and_eq_true] at h
    have ih := scal_in r hp h2 h.2
    unfold inV at ih ⊢
    rw [List.any_cons, List.any_cons, ih, scal_eqV h1 r h.1 hp]
end
abbrev cmQ (o : Cm) : PV → PV → Mem → (PV → Prop) → Prop := fun x y M Q => cmW o x y M fun b => Q (.bl b)
section
variable {X : Cx} {nm : Nm} {pins : List (Addr × Obj)} {σ : L2.St} {H : Hp} {s s' : Shared} {ι : List Addr} {M : Mem}
theorem eqW_case {x y : PV} {Q : Bool → Prop} (h : eqW x y Q) : (∃ a b, x = .str a ∧ y = .str b ∧ Q (decide (a = b))) ∨ (∃ a b, x = .int a ∧ y = .int b ∧ Q (decide (a = b))) ∨ (x.ok = true ∧ y.ok = true ∧ Q (PV.eqv x y)) := by
  cases x <;> cases y <;> first
    | exact .inl ⟨_, _, rfl, rfl, h⟩
    | exact .inr (.inl ⟨_, _, rfl, rfl, h⟩)
    | (have h' : (_ && _) = true ∧ Q _ := h
       rw [Bool.and_eq_true] at h'
       exact .inr (.inr ⟨h'.1.1, h'.1.2, h'.2⟩))
theorem dec_toS {a b : List Nat} : decide (V.str (toS a) = V.str (toS b)) = decide (a = b) := decide_eq_decide.mpr ⟨fun e => toS_inj (V.str.inj e), fun e => by rw [e]⟩
theorem dec_i {a b : Int} : decide (V.int a = V.int b) = decide (a = b) := decide_eq_decide.mpr ⟨fun e => V.int.inj e, fun e => by rw [e]⟩
theorem w_eq (hu : X.A.units + 65 < cLine) : OpR X (compareOp .Eq) (rOp nm X.K (cmQ .eq)) := by
  intro pins s σ H x y v u Q I rx ry ⟨ι, M, px, py, Qp, m, hx, hy, hf, k⟩
  rcases eqW_case (show eqW px py fun b => Qp (.bl b) from hf) with ⟨a, b, rfl, rfl, q⟩ | ⟨a, b, rfl, rfl, q⟩ | ⟨o1, o2, q⟩
  · cases hx; cases hy
    refine op_eq pins s σ H _ _ v u Q I rx ry ⟨rfl, ?_⟩
    rw [dec_toS]
    exact k _ q ι H _ .refl m (.bl _)
  · cases hx; cases hy
    refine op_eq pins s σ H _ _ v u Q I rx ry ⟨rfl, ?_⟩
    rw [dec_i]
    exact k _ q ι H _ .refl m (.bl _)
  · refine op_eqD (by omega) pins s σ H x y v u Q I rx ry ⟨_, _, rv_dp 20 px x o1 hx, rv_dp 20 py y o2 hy, ok_shaped o1, ok_shaped o2, ?_⟩
    rw [← eqv_toD]
    exact k _ q ι H _ .refl m (.bl _)
theorem w_ne (hu : X.A.units + 65 < cLine) : OpR X (compareOp .NotEq) (rOp nm X.K (cmQ .ne)) := by
  intro pins s σ H x y v u Q I rx ry ⟨ι, M, px, py, Qp, m, hx, hy, hf, k⟩
  rcases eqW_case (show eqW px py fun b => Qp (.bl !b) from hf) with ⟨a, b, rfl, rfl, q⟩ | ⟨a, b, rfl, rfl, q⟩ | ⟨o1, o2, q⟩
  · cases hx; cases hy
    refine op_ne pins s σ H _ _ v u Q I rx ry ⟨rfl, ?_⟩
    rw [dec_toS]
    exact k _ q ι H _ .refl m (.bl _)
  · cases hx; cases hy
    refine op_ne pins s σ H _ _ v u Q I rx ry ⟨rfl, ?_⟩
    rw [dec_i]
    exact k _ q ι H _ .refl m (.bl _)
  · refine op_neD (by omega) pins s σ H x y v u Q I rx ry ⟨_, _, rv_dp 20 px x o1 hx, rv_dp 20 py y o2 hy, ok_shaped o1, ok_shaped o2, ?_⟩
    rw [← eqv_toD]
    exact k _ q ι H _ .refl m (.bl _)
theorem isW_case {x y : PV} {Q : Bool → Prop} (h : isW x y Q) : (y = .non ∧ ((x = .non ∧ Q true) ∨ (x ≠ .non ∧ Q false))) ∨ ∃ a b, x = .bl a ∧ y = .bl b ∧ Q (decide (a = b)) := by
  cases y with
  | non =>
    cases x <;> first
      | exact .inl ⟨rfl, .inl ⟨rfl, h⟩⟩
      | exact .inl ⟨rfl, .inr ⟨by simp, h⟩⟩
      | exact False.elim h
  | bl b =>
    cases x <;> first
      | exact .inr ⟨_, _, rfl, rfl, h⟩
      | exact False.elim h
  | _ => exact False.elim (by cases x <;> exact h)
theorem rv_non {K : PySem.W.Frag} {v : V} {p : PV} (r : Rv K ι H v p) (h : p ≠ .non) : decide (v = .non) = false := by
  cases r <;> first | exact absurd rfl h | exact decide_eq_false (fun e => by cases e)
theorem w_is : OpR X (compareOp .Is) (rOp nm X.K (cmQ .is_)) := by
  intro pins s σ H x y v u Q I rx ry ⟨ι, M, px, py, Qp, m, hx, hy, hf, k⟩
  rcases isW_case (show isW px py fun b => Qp (.bl b) from hf) with ⟨rfl, ⟨rfl, q⟩ | ⟨hn, q⟩⟩ | ⟨a, b, rfl, rfl, q⟩
  · cases hx; cases hy
    exact op_isN pins s σ H _ _ v u Q I rx ry ⟨rfl, k _ q ι H _ .refl m (.bl _)⟩
  · cases hy
    refine op_isN pins s σ H _ _ v u Q I rx ry ⟨rfl, ?_⟩
    rw [rv_non hx hn]
    exact k _ q ι H _ .refl m (.bl _)
  · cases hx; cases hy
    exact op_isBl pins s σ H _ _ v u Q I rx ry ⟨a, b, rfl, rfl, k _ q ι H _ .refl m (.bl _)⟩
theorem w_isnt : OpR X (compareOp .IsNot) (rOp nm X.K (cmQ .isnt)) := by
  intro pins s σ H x y v u Q I rx ry ⟨ι, M, px, py, Qp, m, hx, hy, hf, k⟩
  rcases isW_case (show isW px py fun b => Qp (.bl !b) from hf) with ⟨rfl, ⟨rfl, q⟩ | ⟨hn, q⟩⟩ | ⟨a, b, rfl, rfl, q⟩
  · cases hx; cases hy
    exact op_notN pins s σ H _ _ v u Q I rx ry ⟨rfl, k _ q ι H _ .refl m (.bl _)⟩
  · cases hy
    refine op_notN pins s σ H _ _ v u Q I rx ry ⟨rfl, ?_⟩
    rw [rv_non hx hn]
    exact k _ q ι H _ .refl m (.bl _)
  · cases hx; cases hy
    exact op_notBl pins s σ H _ _ v u Q I rx ry ⟨a, b, rfl, rfl, k _ q ι H _ .refl m (.bl _)⟩
theorem w_lt (hu : X.A.units + 65 < cLine) : OpR X (compareOp .Lt) (rOp nm X.K (cmQ .lt)) := by
  intro pins s σ H x y v u Q I rx ry ⟨ι, M, px, py, Qp, m, hx, hy, hf, k⟩
  have lt_eq := ltN_dec
  rcases Classical.em (∃ xs ys, px = .tup xs ∧ py = .tup ys) with ⟨xs, ys, rfl, rfl⟩ | hno
  · have hf' : (PV.ok (.tup xs) && (PV.ok (.tup ys) && alks xs ys)) = true ∧ Qp (.bl (ltvs xs ys)) := hf
    obtain ⟨h1, q⟩ := hf'
    rw [Bool.and_eq_true, Bool.and_eq_true] at h1
    obtain ⟨as, r1⟩ := Dp.reads I _ x v (rv_dp 20 _ x h1.1 hx) rx
    obtain ⟨bs, r2⟩ := Dp.reads I _ y u (rv_dp 20 _ y h1.2.1 hy) ry
    have hal : PV.alk (.tup xs) (.tup ys) = true := h1.2.2
    refine PySem.W.lt_data r1 r2 (alk_toD hal) (fun z => by cases z) (by have := (okd_sh 20 _ h1.1).2; omega) ?_
    rw [ltv_toD hal]
    exact ⟨.bl _, H, I, rfl, k _ q ι H _ .refl m (.bl _)⟩
  have hno' : ∀ xs ys, px = .tup xs → py = .tup ys → False := fun xs ys e1 e2 => hno ⟨xs, ys, e1, e2⟩
  cases hx <;> cases hy <;> first
    | (exact False.elim (hno' _ _ rfl rfl))
    | (exact False.elim hf)
    | exact op_lt pins s σ H _ _ v u Q I rx ry ⟨_, _, rfl, rfl, k _ hf ι H _ .refl m (.bl _)⟩
    | (refine op_lt_str pins s σ H _ _ v u Q I rx ry ⟨_, _, rfl, rfl, ?_⟩
       rw [← lt_eq]
       exact k _ hf ι H _ .refl m (.bl _))
theorem w_le : OpR X (compareOp .LtE) (rOp nm X.K (cmQ .le)) := by
  intro pins s σ H x y v u Q I rx ry ⟨ι, M, px, py, Qp, m, hx, hy, hf, k⟩
  cases hx <;> cases hy <;> first
    | (exact False.elim hf)
    | exact op_le pins s σ H _ _ v u Q I rx ry ⟨_, _, rfl, rfl, k _ hf ι H _ .refl m (.bl _)⟩
theorem w_gt (hu : X.A.units + 65 < cLine) : OpR X (compareOp .Gt) (rOp nm X.K (cmQ .gt)) := by
  intro pins s σ H x y v u Q I rx ry ⟨ι, M, px, py, Qp, m, hx, hy, hf, k⟩
  rcases Classical.em (∃ xs ys, px = .tup xs ∧ py = .tup ys) with ⟨xs, ys, rfl, rfl⟩ | hno
  · have hf' : (PV.ok (.tup xs) && (PV.ok (.tup ys) && alks xs ys)) = true ∧ Qp (.bl (ltvs ys xs)) := hf
    obtain ⟨h1, q⟩ := hf'
    rw [Bool.and_eq_true, Bool.and_eq_true] at h1
    obtain ⟨as, r1⟩ := Dp.reads I _ x v (rv_dp 20 _ x h1.1 hx) rx
    obtain ⟨bs, r2⟩ := Dp.reads I _ y u (rv_dp 20 _ y h1.2.1 hy) ry
    have hal : PV.alk (.tup xs) (.tup ys) = true := h1.2.2
    have hal2 : PV.alk (.tup ys) (.tup xs) = true := alk_comm hal
    refine PySem.W.gt_data r1 r2 (alk_toD hal) (fun z => by cases z) (by have := (okd_sh 20 _ h1.1).2; omega) ?_
    rw [ltv_toD hal2]
    exact ⟨.bl _, H, I, rfl, k _ q ι H _ .refl m (.bl _)⟩
  have hno' : ∀ xs ys, px = .tup xs → py = .tup ys → False := fun xs ys e1 e2 => hno ⟨xs, ys, e1, e2⟩
  cases hx <;> cases hy <;> first
    | (exact False.elim (hno' _ _ rfl rfl))
    | (exact False.elim hf)
    | exact op_gt pins s σ H _ _ v u Q I rx ry ⟨_, _, rfl, rfl, k _ hf ι H _ .refl m (.bl _)⟩
theorem w_ge : OpR X (compareOp .GtE) (rOp nm X.K (cmQ .ge)) := by
  intro pins s σ H x y v u Q I rx ry ⟨ι, M, px, py, Qp, m, hx, hy, hf, k⟩
  cases hx <;> cases hy <;> first
    | (exact False.elim hf)
    | exact op_ge pins s σ H _ _ v u Q I rx ry ⟨_, _, rfl, rfl, k _ hf ι H _ .refl m (.bl _)⟩
/-- in: the four ways -/
theorem inW_case {x y : PV} {Q : Bool → Prop} (h : inW x y M Q) : (∃ t, y = .str t ∧ ∃ c, x = .str [c] ∧ Q (decide (c ∈ t))) ∨ (∃ ys, y = .tup ys ∧ isScal x = true ∧ ys.all isScal = true ∧ Q (ys.any fun z => PV.eqv z x)) ∨
    (∃ ys, asL M y = some ys ∧ x.ok = true ∧ PV.ok (.lst ys) = true ∧ Q (ys.any fun z => PV.eqv z x)) ∨ ∃ n ks vs, y = .ref n ∧ M[n]? = some (.dct ks vs) ∧ (isTup x && x.hk 6) = true ∧ Q (ks.any fun z => PV.eqv z x) := by
  cases y with
  | str t =>
    refine .inl ⟨t, rfl, ?_⟩
    cases x with
    | str a =>
      match a, h with
      | [], h => exact False.elim h
      | [c], h => exact ⟨c, rfl, h⟩
      | _ :: _ :: _, h => exact False.elim h
    | _ => exact False.elim h
  | tup ys =>
    have h' : (isScal x && ys.all isScal) = true ∧ Q (ys.any fun z => PV.eqv z x) := h
    rw [Bool.and_eq_true] at h'
    exact .inr (.inl ⟨ys, rfl, h'.1.1, h'.1.2, h'.2⟩)
  | lst ys =>
    have h' : (x.ok && PV.ok (.lst ys)) = true ∧ Q (ys.any fun z => PV.eqv z x) := h
    rw [Bool.and_eq_true] at h'
    exact .inr (.inr (.inl ⟨ys, rfl, h'.1.1, h'.1.2, h'.2⟩))
  | ref n =>
    unfold inW at h
    cases e : M[n]? with
    | none => simp only [e] at h
    | some o =>
      simp only [e] at h
      cases o with
      | lst ys =>
        have h' : (x.ok && PV.ok (.lst ys)) = true ∧ Q (ys.any fun z => PV.eqv z x) := h
        rw [Bool.and_eq_true] at h'
        exact .inr (.inr (.inl ⟨ys, by unfold asL; simp only [e], h'.1.1, h'.1.2, h'.2⟩))
      | dct ks vs => exact .inr (.inr (.inr ⟨n, ks, vs, rfl, e, h.1, h.2⟩))
      | _ => exact False.elim h
  | _ => exact False.elim h
theorem w_in (hu : X.A.units + 65 < cLine) (hP : nm.P = X.prog) (hw : nm.w = X.w) : OpR X (compareOp .In) (rOp nm X.K (cmQ .in_)) := by
  intro pins s σ H x y v u Q I rx ry ⟨ι, M, px, py, Qp, m, hx, hy, hf, k⟩
  rcases inW_case (show inW px py M fun b => Qp (.bl b) from hf) with ⟨t, rfl, c, rfl, q⟩ | ⟨ys, rfl, h1, h2, q⟩ | ⟨ys, h0, h1, h2, q⟩ | ⟨n, ks, vs, rfl, e, h1, q⟩
  · cases hx; cases hy
    exact op_in_sign pins s σ H _ _ v u Q I rx ry ⟨c, _, rfl, rfl, k _ q ι H _ .refl m (.bl _)⟩
  · cases hy with | @tup a xs _ g1 g2 =>
    refine op_in_seq pins s σ H _ _ v u Q I rx ry ⟨a, xs, rfl, .inr g1, scal_flat hx h1, scal_all g2 h2, ?_⟩
    rw [scal_in hx h1 g2 h2]
    exact k _ q ι H _ .refl m (.bl _)
  · obtain ⟨a, vs, rfl, ra, rs⟩ := asL_at m hy h0
    refine op_inD hu pins s σ H _ _ v u Q I rx ry ⟨_, toDs ys, rv_dp 20 px x h1 hx, .lst (.inl ra) (rvs_dp 19 ys vs h2 rs), ok_shaped h1, ok_shaped h2, ?_⟩
    rw [← any_eqv]
    exact k _ q ι H _ .refl m (.bl _)
  · obtain ⟨a, L, rfl, hn, hH, d⟩ := ref_dct m hy e
    cases (show u = Value.ref a from ry)
    exact dic_in I hu hP hw hH d h1 hx rx fun s' I' => ⟨.bl _, H, I', rfl, k _ q ι H _ .refl m (.bl _)⟩
theorem w_notin (hu : X.A.units + 65 < cLine) (hP : nm.P = X.prog) (hw : nm.w = X.w) : OpR X (compareOp .NotIn) (rOp nm X.K (cmQ .notin)) := by
  intro pins s σ H x y v u Q I rx ry ⟨ι, M, px, py, Qp, m, hx, hy, hf, k⟩
  rcases inW_case (show inW px py M fun b => Qp (.bl !b) from hf) with ⟨t, rfl, c, rfl, q⟩ | ⟨ys, rfl, h1, h2, q⟩ | ⟨ys, h0, h1, h2, q⟩ | ⟨n, ks, vs, rfl, e, h1, q⟩
  · cases hx; cases hy
    exact op_notIn_sign pins s σ H _ _ v u Q I rx ry ⟨c, _, rfl, rfl, k _ q ι H _ .refl m (.bl _)⟩
  · cases hy with | @tup a xs _ g1 g2 =>
    refine op_notIn_seq pins s σ H _ _ v u Q I rx ry ⟨a, xs, rfl, .inr g1, scal_flat hx h1, scal_all g2 h2, ?_⟩
    rw [scal_in hx h1 g2 h2]
    exact k _ q ι H _ .refl m (.bl _)
  · obtain ⟨a, vs, rfl, ra, rs⟩ := asL_at m hy h0
    refine op_notInD hu pins s σ H _ _ v u Q I rx ry ⟨_, toDs ys, rv_dp 20 px x h1 hx, .lst (.inl ra) (rvs_dp 19 ys vs h2 rs), ok_shaped h1, ok_shaped h2, ?_⟩
    rw [← any_eqv]
    exact k _ q ι H _ .refl m (.bl _)
  · obtain ⟨a, L, rfl, hn, hH, d⟩ := ref_dct m hy e
    cases (show u = Value.ref a from ry)
    exact dic_notin I hu hP hw hH d h1 hx rx fun s' I' => ⟨.bl _, H, I', rfl, k _ q ι H _ .refl m (.bl _)⟩
/-! ### subscripts -/
theorem ixAt_eq (n : Nat) (i : Int) : ixAt n i = ixN n i := rfl
theorem atI_of {α : Type} {xs : List α} {i : Int} {j : Nat} {v : α} (h : ixAt xs.length i = some j) (e : xs[j]? = some v) : atI xs i = some v := by
  unfold atI
  rw [← ixAt_eq, h]
  exact e
theorem ixW_case {x i : PV} {Q : PV → Prop} (h : ixW x i M Q) : (∃ z k j c, x = .str z ∧ i = .int k ∧ z.length ≤ LL ∧ ixAt z.length k = some j ∧ z[j]? = some c ∧ Q (.str [c])) ∨
    (∃ xs k j v, x = .tup xs ∧ i = .int k ∧ ixAt xs.length k = some j ∧ xs[j]? = some v ∧ Q v) ∨ (∃ xs k j v, x = .scr xs ∧ i = .int k ∧ ixAt xs.length k = some j ∧ xs[j]? = some v ∧ Q (.int v)) ∨
    (∃ ks vs a v, x = .dct ks vs ∧ i = .str a ∧ isTxt ks = true ∧ dFind (.str a) ks vs = some v ∧ Q v) ∨ (∃ xs k j v, asL M x = some xs ∧ i = .int k ∧ ixAt xs.length k = some j ∧ xs[j]? = some v ∧ Q v) := by
  cases i with
  | int k =>
    have lists : (match asL M x with
      | some xs => (match ixAt xs.length k with
        | some j => (match xs[j]? with
          | some v => Q v
          | none => False)
        | none => False)
      | none => False) → ∃ xs j v, asL M x = some xs ∧ ixAt xs.length k = some j ∧ xs[j]? = some v ∧ Q v := fun h => by
      cases e : asL M x with
      | none => simp only [e] at h
      | some xs =>
        simp only [e] at h
        cases e1 : ixAt xs.length k with
        | none => simp only [e1] at h
        | some j =>
          simp only [e1] at h
          cases e2 : xs[j]? with
          | none => simp only [e2] at h
          | some v =>
            simp only [e2] at h
            exact ⟨xs, j, v, rfl, e1, e2, h⟩
    cases x with
    | str z =>
      obtain ⟨hz, h⟩ := (show z.length ≤ LL ∧ (match ixAt z.length k with
        | some j => (match z[j]? with
          | some c => Q (.str [c])
          | none => False)
        | none => False) from h)
      cases e1 : ixAt z.length k with
      | none => simp only [e1] at h
      | some j =>
        simp only [e1] at h
        cases e2 : z[j]? with
        | none => simp only [e2] at h
        | some c =>
          simp only [e2] at h
          exact .inl ⟨z, k, j, c, rfl, rfl, hz, e1, e2, h⟩
    | tup xs =>
      have h : (match ixAt xs.length k with
        | some j => (match xs[j]? with
          | some c => Q c
          | none => False)
        | none => False) := h
      cases e1 : ixAt xs.length k with
      | none => simp only [e1] at h
      | some j =>
        simp only [e1] at h
        cases e2 : xs[j]? with
        | none => simp only [e2] at h
        | some c =>
          simp only [e2] at h
          exact .inr (.inl ⟨xs, k, j, c, rfl, rfl, e1, e2, h⟩)
    | scr xs =>
      have h : (match ixAt xs.length k with
        | some j => (match xs[j]? with
          | some c => Q (.int c)
          | none => False)
        | none => False) := h
      cases e1 : ixAt xs.length k with
      | none => simp only [e1] at h
      | some j =>
        simp only [e1] at h
        cases e2 : xs[j]? with
        | none => simp only [e2] at h
        | some c =>
          simp only [e2] at h
          exact .inr (.inr (.inl ⟨xs, k, j, c, rfl, rfl, e1, e2, h⟩))
    | _ =>
      obtain ⟨xs, j, v, h1, h2, h3, h4⟩ := lists h
      exact .inr (.inr (.inr (.inr ⟨xs, k, j, v, h1, rfl, h2, h3, h4⟩)))
  | str a =>
    cases x with
    | dct ks vs =>
      obtain ⟨h0, h⟩ : isTxt ks = true ∧ (match dFind (.str a) ks vs with
        | some v => Q v
        | none => False) := h
      cases e : dFind (.str a) ks vs with
      | none => simp only [e] at h
      | some v =>
        simp only [e] at h
        exact .inr (.inr (.inr (.inl ⟨ks, vs, a, v, rfl, rfl, h0, e, h⟩)))
    | _ => exact False.elim h
  | _ => exact False.elim (by cases x <;> exact h)
theorem dFind_val {K : PySem.W.Frag} {a : List Nat} : ∀ {kvs : List (Key × V)} {ks vs : List PV}, Rvs K ι H (kvs.map fun p => kV p.1) ks → Rvs K ι H (kvs.map (·.2)) vs →
    (∀ w, dFind (.str a) ks vs = some w → ∃ v, valV kvs (Sum.inr (toS a)) = some v ∧ Rv K ι H v w) ∧ (dFind (.str a) ks vs = none → valV kvs (Sum.inr (toS a)) = none)
  | [], _, _, h1, h2 => by
    cases h1; cases h2
    exact ⟨fun w e => (by cases e), fun _ => rfl⟩
  | (k, v) :: r, _, _, h1, h2 => by
    cases h1 with | @cons _ _ pk pks r1 t1 =>
    cases h2 with | @cons _ _ pv pvs r2 t2 =>
    have ih := dFind_val (a := a) t1 t2
    have key : PV.eqv pk (.str a) = decide (k = Sum.inr (toS a)) := by
      cases k with
      | inl i =>
        cases r1
        exact (decide_eq_false (fun e => by cases e)).symm
      | inr z =>
        have r1' : Rv K ι H (V.str z) pk := r1
        clear r1
        cases r1' with | str s =>
        show decide (s = a) = _
        exact decide_eq_decide.mpr ⟨fun e => (by rw [e]), fun e => toS_inj (Sum.inr.inj e)⟩
    unfold dFind
    by_cases hk : k = Sum.inr (toS a)
    · rw [key, decide_eq_true hk, if_pos rfl, valV_pos hk]
      exact ⟨fun w e => (by cases e; exact ⟨v, rfl, r2⟩), fun e => (by cases e)⟩
    · rw [key, decide_eq_false hk, if_neg (by simp), valV_neg hk]
      exact ih
theorem rv_getS {z : List Nat} {j : Nat} {c : Nat} (h : z[j]? = some c) : (toS z).cps.toList[j]? = some c := h
theorem w_ix (hu : X.A.units + 65 < cLine) : IxR X (rOp nm X.K ixW) := by
  intro value slice pins s σ H x y v u Q I rx ry ⟨ι, M, px, py, Qp, m, hx, hy, hf, k⟩ hsub
  rcases ixW_case hf with ⟨z, i, j, c, rfl, rfl, hz, h1, h2, q⟩ | ⟨xs, i, j, w, rfl, rfl, h1, h2, q⟩ | ⟨xs, i, j, w, rfl, rfl, h1, h2, q⟩ | ⟨ks, vs, a, w, rfl, rfl, h0, h1, q⟩ | ⟨xs, i, j, w, h0, rfl, h1, h2, q⟩
  · cases hx; cases hy
    exact ix_str value slice pins s σ H _ _ v u Q I rx ry ⟨_, i, c, rfl, rfl, by rw [toS_len, ← ll_eq]; exact hz, atI_of (xs := z) h1 h2, k _ q ι H _ .refl m (.str [c])⟩ hsub
  · cases hy
    cases hx with | @tup a vs _ g1 g2 =>
    obtain ⟨v', e, r⟩ := g2.get h2
    rw [← g2.length] at h1
    exact ix_tup value slice pins s σ H _ _ v u Q I rx ry ⟨a, vs, i, v', rfl, rfl, g1, atI_of h1 e, k _ q ι H _ .refl m r⟩ hsub
  · cases hy
    cases hx with | @scr a _ g1 =>
    refine ix_list value slice pins s σ H _ _ v u Q I rx ry ⟨a, _, i, .int w, rfl, rfl, g1.sq, atI_of (j := j) (by rw [List.length_map]; exact h1) (by rw [List.getElem?_map, h2]; rfl), k _ q ι H _ .refl m (.int _)⟩ hsub
  · cases hy
    cases hx with
    | dcd g1 g2 g3 g4 g5 g6 g7 g8 g9 => exact (txt_tup h0 g7).elim
    | @dct d o kvs _ _ g0 g1 g2 g3 =>
      obtain ⟨v', e, r⟩ := (dFind_val g2 g3).1 w h1
      cases rx
      have g : DGet H d (.str (toS a)) (some v') := .inl ⟨kvs, Sum.inr (toS a), .inr ⟨o, g1⟩, rfl, e.symm⟩
      exact tail_any (dict_typeIs I g) PySem.F.slot_dict_getitem.lookup (d_getItem (by omega) I g ry fun w' s' I' r' => ⟨v', H, I', r', k _ q ι H _ .refl m r⟩) hsub
  · cases hy
    obtain ⟨a, vs, rfl, ra, rs⟩ := asL_at m hx h0
    obtain ⟨v', e, r⟩ := rs.get h2
    rw [← rs.length] at h1
    exact ix_list value slice pins s σ H _ _ v u Q I rx ry ⟨a, vs, i, v', rfl, rfl, .inl ra, atI_of h1 e, k _ q ι H _ .refl m r⟩ hsub
/-! ### slices -/
def rSlP (nm : Nm) (K : PySem.W.Frag) : V → Option Int → Option Int → Hp → VK → Prop := fun x lo hi H Q => ∃ ι M px Qp, Rm nm K ι H M ∧ Rv K ι H x px ∧ slW px lo hi M Qp ∧ Kp nm K ι H M Qp Q
theorem cutE_eq (n d : Nat) (o : Option Int) : cutE n d o = HT.sIx n d o := by
  cases o with
  | none => rfl
  | some v =>
    have h := HT.clip_eq v n d
    show (if v < 0 then (v + n).toNat else min v.toNat n) = _
    by_cases hv : v < 0
    · rw [if_pos hv] at h ⊢
      omega
    · rw [if_neg hv] at h ⊢
      omega
theorem cutL_v (xs : List V) (lo hi : Option Int) : cutL xs lo hi = cutV xs lo hi := by
  unfold cutL cutV
  rw [cutE_eq, cutE_eq]
theorem Rvs.cut {K : PySem.W.Frag} {vs : List V} {ps : List PV} (r : Rvs K ι H vs ps) (lo hi : Option Int) : Rvs K ι H (cutV vs lo hi) (cutL ps lo hi) := by
  rw [← cutL_v]
  unfold cutL
  rw [r.length]
  exact (r.drop _).take _
theorem cutS_toS (z : List Nat) (lo hi : Option Int) : cutS (toS z) lo hi = toS (cutL z lo hi) := by
  unfold cutS cutL
  rw [cutE_eq, cutE_eq, toS_len]
  rfl
theorem cut_all {xs : List V} {lo hi : Option Int} (h : HT.sIx xs.length 0 lo = 0 ∧ HT.sIx xs.length xs.length hi = xs.length) : cutV xs lo hi = xs := by
  unfold cutV
  rw [h.1, h.2]
  simp
theorem slW_case {x : PV} {lo hi : Option Int} {Q : PV → Prop} (h : slW x lo hi M Q) : (∃ z, x = .str z ∧ z.length ≤ LL ∧ Q (.str (cutL z lo hi))) ∨ (∃ xs, x = .tup xs ∧ Q (.tup (cutL xs lo hi))) ∨ ∃ xs, asL M x = some xs ∧ Q (.lst (cutL xs lo hi)) := by
  cases x with
  | str z => exact .inl ⟨z, rfl, h.1, h.2⟩
  | tup xs => exact .inr (.inl ⟨xs, rfl, h⟩)
  | ref n =>
    have h : (match asL M (.ref n) with
      | some xs => Q (.lst (cutL xs lo hi))
      | none => False) := h
    cases e : asL M (.ref n) with
    | none => simp only [e] at h
    | some xs => simp only [e] at h; exact .inr (.inr ⟨xs, rfl, h⟩)
  | lst xs => exact .inr (.inr ⟨xs, rfl, h⟩)
  | _ => exact False.elim h
theorem Rvs.unique {K : PySem.W.Frag} {vs : List V} {ps : List PV} (r : Rvs K ι H vs ps) {qs : List PV} (h : ps = qs) : Rvs K ι H vs qs := h ▸ r
theorem w_sl : SlR X (rSlP nm X.K) := by
  intro pins s σ H x v vl vu lo hi sl Q I rx hs pl pu ⟨ι, M, px, Qp, m, hx, hf, k⟩
  rcases slW_case hf with ⟨z, rfl, hz, q⟩ | ⟨xs, rfl, q⟩ | ⟨xs, h0, q⟩
  · cases hx
    refine sl_str pins s σ H _ v vl vu lo hi sl Q I rx hs pl pu ⟨_, rfl, by rw [toS_len, ← ll_eq]; exact hz, ?_⟩
    rw [cutS_toS]
    exact k _ q ι H _ .refl m (.str _)
  · cases hx with | @tup a vs _ g1 g2 =>
    by_cases hw : HT.sIx vs.length 0 lo = 0 ∧ HT.sIx vs.length vs.length hi = vs.length
    · refine sl_tupA pins s σ H _ v vl vu lo hi sl Q I rx hs pl pu ⟨a, vs, rfl, g1, fun _ => ?_, fun z => absurd hw z⟩
      have e := g2.cut lo hi
      rw [cut_all hw] at e
      exact k _ q ι H _ .refl m (.tup g1 e)
    · obtain ⟨T, id, t1, t2, t3⟩ := sl_tupA pins s σ H _ v vl vu lo hi sl (fun v H' => ∃ p, H p = none ∧ v = .ref p ∧ H' = upd H p (.tup (cutV vs lo hi))) I rx hs pl pu ⟨a, vs, rfl, g1, fun z => absurd z hw, fun _ p hp => ⟨p, hp, rfl, rfl⟩⟩
      exact ⟨T, id, t1, t2, ep_newT m k (g2.cut lo hi) q t3⟩
  · obtain ⟨a, vs, rfl, ra, rs⟩ := asL_at m hx h0
    obtain ⟨T, id, t1, t2, t3⟩ := sl_list pins s σ H _ v vl vu lo hi sl (fun v H' => ∃ p, H p = none ∧ v = .ref p ∧ H' = upd H p (.lst (cutV vs lo hi))) I rx hs pl pu ⟨a, vs, rfl, .inl ra, fun p hp => ⟨p, hp, rfl, rfl⟩⟩
    exact ⟨T, id, t1, t2, ep_new m k (rs.cut lo hi) q t3⟩
end
end Qt
/-! ### sorted texts, numbers: plain Lean, then the calls -/
namespace Qt
open PySem PySem.Spec PyProof.Rows L2
theorem insW_perm {α : Type} (lt : α → α → Bool) (x : α) : ∀ l, (insW lt x l).Perm (x :: l)
  | [] => .refl _
  | y :: r => by
    unfold insW
    split
    · exact ((insW_perm lt x r).cons y).trans (.swap x y r)
    · exact .refl _
theorem sortW_perm {α : Type} (lt : α → α → Bool) : ∀ l, (sortW lt l).Perm l
  | [] => .refl _
  | x :: r => (insW_perm lt x _).trans ((sortW_perm lt r).cons x)
theorem insW_pw {α : Type} {lt : α → α → Bool} (tr : ∀ a b c, lt a b = false → lt b c = false → lt a c = false) (asym : ∀ a b, lt a b = true → lt b a = false) (x : α) : ∀ l, l.Pairwise (fun a b => lt b a = false) → (insW lt x l).Pairwise (fun a b => lt b a = false)
  | [], _ => List.pairwise_singleton ..
  | y :: r, h => by
    rw [List.pairwise_cons] at h
    unfold insW
    split
    · rename_i hy
      rw [List.pairwise_cons]
      refine ⟨fun z hz => ?_, insW_pw tr asym x r h.2⟩
      rcases List.mem_cons.mp ((insW_perm lt x r).mem_iff.mp hz) with rfl | hz
      · exact asym _ _ hy
      · exact h.1 z hz
    · rename_i hy
      rw [List.pairwise_cons, List.pairwise_cons]
      have hy' : lt y x = false := by simpa using hy
      refine ⟨fun z hz => ?_, h⟩
      rcases List.mem_cons.mp hz with rfl | hz
      · exact hy'
      · exact tr z y x (h.1 z hz) hy'
theorem sortW_pw {α : Type} {lt : α → α → Bool} (tr : ∀ a b c, lt a b = false → lt b c = false → lt a c = false) (asym : ∀ a b, lt a b = true → lt b a = false) : ∀ l, (sortW lt l).Pairwise (fun a b => lt b a = false)
  | [] => .nil
  | x :: r => insW_pw tr asym x _ (sortW_pw tr asym r)
theorem sort_unique {α : Type} {lt : α → α → Bool} (tr : ∀ a b c, lt a b = false → lt b c = false → lt a c = false) (asym : ∀ a b, lt a b = true → lt b a = false) (tri : ∀ a b, lt a b = false → lt b a = false → a = b) {l m : List α} (hp : m.Perm l) (hs : m.Pairwise (fun a b => lt b a = false)) : m = sortW lt l :=
  List.Perm.eq_of_pairwise (fun a b _ _ h1 h2 => tri a b h2 h1) hs (sortW_pw tr asym l) (hp.trans (sortW_perm lt l).symm)
theorem ltN_tri : ∀ a b : List Nat, ltN a b = false → ltN b a = false → a = b
  | [], [], _, _ => rfl
  | [], _ :: _, h, _ => by cases h
  | _ :: _, [], _, h => by cases h
  | x :: a, y :: b, h1, h2 => by
    unfold ltN at h1 h2
    by_cases e : x = y
    · subst e
      rw [if_pos rfl] at h1 h2
      rw [ltN_tri a b h1 h2]
    · rw [if_neg e] at h1
      rw [if_neg (Ne.symm e)] at h2
      have h1' := of_decide_eq_false h1
      have h2' := of_decide_eq_false h2
      omega
theorem ltN_asym : ∀ a b : List Nat, ltN a b = true → ltN b a = false
  | [], [], h => by cases h
  | [], _ :: _, _ => rfl
  | _ :: _, [], h => by cases h
  | x :: a, y :: b, h => by
    unfold ltN at h ⊢
    by_cases e : x = y
    · subst e
      rw [if_pos rfl] at h ⊢
      exact ltN_asym a b h
    · rw [if_neg e] at h
      rw [if_neg (Ne.symm e)]
      have h' := of_decide_eq_true h
      exact decide_eq_false (by omega)
theorem ltN_tr : ∀ a b c : List Nat, ltN a b = false → ltN b c = false → ltN a c = false
  | a, _, [], _, _ => by cases a <;> rfl
  | [], [], z :: c, _, h => by cases h
  | [], y :: b, z :: c, h, _ => by cases h
  | x :: a, [], z :: c, _, h => by cases h
  | x :: a, y :: b, z :: c, h1, h2 => by
    unfold ltN at h1 h2 ⊢
    by_cases e1 : x = y
    · subst e1
      rw [if_pos rfl] at h1
      by_cases e2 : x = z
      · rw [if_pos e2] at h2 ⊢
        exact ltN_tr a b c h1 h2
      · rw [if_neg e2] at h2 ⊢
        exact h2
    · rw [if_neg e1] at h1
      have h1' := of_decide_eq_false h1
      by_cases e2 : y = z
      · subst e2
        rw [if_neg e1]
        exact h1
      · rw [if_neg e2] at h2
        have h2' := of_decide_eq_false h2
        rw [if_neg (by omega)]
        exact decide_eq_false (by omega)
theorem ltN_lt : ∀ a b : List Nat, ltN a b = decide (a < b)
  | [], b => by cases b <;> simp [ltN]
  | c :: a, [] => by simp [ltN]
  | c :: a, d :: b => by
    unfold ltN
    rw [ltN_lt a b]
    by_cases h : c = d
    · subst h
      simp
    · simp [h, List.cons_lt_cons_iff]
theorem rising_pw : ∀ (l : List Str) (p : Str), risingS p l = true → ∀ x ∈ l, ltN x.cps.toList p.cps.toList = false
  | [], _, _, _, h => by cases h
  | y :: r, p, h, x, hx => by
    unfold risingS at h
    rw [Bool.and_eq_true, Bool.not_eq_true', ltCps_eq, ← ltN_lt] at h
    rcases List.mem_cons.mp hx with rfl | hx
    · exact h.1
    · exact ltN_tr _ _ _ (rising_pw r y h.2 x hx) h.1
theorem sortedS_pw : ∀ (l : List Str), sortedS l = true → l.Pairwise (fun a b => ltN b.cps.toList a.cps.toList = false)
  | [], _ => .nil
  | x :: r, h => by
    rw [List.pairwise_cons]
    have h' : risingS x r = true := h
    refine ⟨rising_pw r x h', sortedS_pw r ?_⟩
    cases r with
    | nil => rfl
    | cons y r =>
      unfold risingS at h'
      rw [Bool.and_eq_true] at h'
      exact h'.2
/-- a sorted list of texts is the one -/
theorem sorted_texts {ss : List (List Nat)} {ys : List Str} (hp : ys.Perm (ss.map toS)) (hs : sortedS ys = true) : ys = (sortW ltN ss).map toS := by
  have e : ys.map (fun y => y.cps.toList) = sortW ltN ss := by
    refine sort_unique ltN_tr ltN_asym ltN_tri ?_ ?_
    · have := hp.map (fun y : Str => y.cps.toList)
      rw [List.map_map] at this
      have e : ((fun y : Str => y.cps.toList) ∘ toS) = id := by funext l; rfl
      rw [e, List.map_id] at this
      exact this
    · rw [List.pairwise_map]
      exact sortedS_pw ys hs
  rw [← e, List.map_map]
  have e2 : (toS ∘ fun y : Str => y.cps.toList) = id := by
    funext x
    exact toS_of x
  rw [e2, List.map_id]
theorem sorted_ints' {ns ms : List Int} (hp : ms.Perm ns) (hs : ms.Pairwise (· ≤ ·)) : ms = sortW (fun a b => decide (a < b)) ns :=
  sort_unique (fun a b c h1 h2 => by
    have h1' := of_decide_eq_false h1
    have h2' := of_decide_eq_false h2
    exact decide_eq_false (by omega)) (fun a b h => by
    have h' := of_decide_eq_true h
    exact decide_eq_false (by omega)) (fun a b h1 h2 => by
    have h1' := of_decide_eq_false h1
    have h2' := of_decide_eq_false h2
    omega) hp (hs.imp fun {a b} h => decide_eq_false (by omega))
theorem sort_one : ∀ s : List Nat, sortW ltN (s.map fun c => [c]) = (sortW (fun a b => decide (a < b)) s).map fun c => [c]
  | [] => rfl
  | c :: r => by
    have ins : ∀ l : List Nat, insW ltN [c] (l.map fun c => [c]) = (insW (fun a b => decide (a < b)) c l).map fun c => [c] := by
      intro l
      induction l with
      | nil => rfl
      | cons y l ih =>
        have e : ltN [y] [c] = decide (y < c) := by
          unfold ltN
          split
          · rename_i h
            subst h
            simp [ltN]
          · rfl
        rw [List.map_cons]
        unfold insW
        rw [e]
        split
        · rw [ih]; rfl
        · rfl
    rw [List.map_cons]
    unfold sortW
    rw [sort_one r, ins]
section
variable {X : Cx} {nm : Nm} {pins : List (Addr × Obj)} {σ : L2.St} {H : Hp} {s s' : Shared} {ι : List Addr} {M : Mem}
theorem ob_get {P : Program} {w : World} {h : Heap} {a : Addr} {o : HO} (x : ObjOk P w H h a o) : ∃ u, h.get? a = some u := by
  cases o with
  | lst xs => obtain ⟨_, _, _, _, e⟩ := x; exact ⟨_, e⟩
  | tup xs => obtain ⟨_, _, _, o, e, _⟩ := x; exact ⟨_, e⟩
  | dK kvs => obtain ⟨_, _, _, _, o, _, _, e, _⟩ := x; exact ⟨_, e⟩
  | dT kvs => obtain ⟨_, _, _, _, o, _, _, e, _⟩ := x; exact ⟨_, e⟩
  | set S n => obtain ⟨o, _, _, _, e, _⟩ := x; exact ⟨_, e⟩
  | ins C dx fs => obtain ⟨_, _, _, e, _⟩ := x; exact ⟨_, e⟩
  | own y => exact x
  | xd fs => obtain ⟨_, ⟨_, _, _, e, _⟩, _⟩ := x; exact ⟨_, e⟩
  | rng lo hi => obtain ⟨_, _, _, e⟩ := x; exact ⟨_, e⟩
  | frz ob u => obtain ⟨e, _⟩ := x; exact ⟨_, e⟩
  | tbl ps => exact ⟨_, (show h.get? a = some _ from x)⟩
  | met f y => exact ⟨_, (show h.get? a = some _ from x)⟩
  | ext φ => obtain ⟨_, ⟨_, e⟩, _⟩ := x; exact ⟨_, e⟩
/-- sorted(v), where v gives texts -/
theorem sorted_of (I : L2.Inv X pins σ H s) {v : Value} {ss : List (List Nat)} {Q : Value → Shared → Prop} {E : Value → Shared → Prop} (h64 : ss.length ≤ LL)
    (hc : ∀ Q' : List Value → Shared → Prop, (∀ vs (s' : Shared), (∀ b o, s.heap.get? b = some o → s'.heap.get? b = some o) → s'.gens = s.gens → s'.drawn = s.drawn → s'.os = s.os → StrsAre vs (ss.map toS) → Q' vs s') → wpAny (model X.prog X.w) X.A.in1 (collect v) Q' E s)
    (q : ∀ (p : Addr) (s' : Shared), H p = none → L2.Inv X pins σ (upd H p (.lst ((sortW ltN ss).map fun x => V.str (toS x)))) s' → Q (.ref p) s') : wpAny (model X.prog X.w) X.A (call (.builtin "sorted") [v]) Q E s := by
  refine Calls.call_function_entry kind_sorted plain_sorted entry_sorted (args_sorted1 _) ?_
  unfold Builtin.«sorted»
  refine wpAny_bind (m := checkCount "sorted" 1 1 _) (wpAny_pure (wpAny_bind (hc _ fun vs s' keep g1 g2 g3 hS => wpAny_bind (wpAny_newList ?_))))
  have hvl : vs.length = ss.length := by
    have e := hS.length
    rw [List.length_map] at e
    exact e
  have hob : (s'.heap.push (seqObj "list" vs.toArray 0)).get? s'.heap.objs.size = some (seqObj "list" vs.toArray 0) := Heap.get?_push_size _ rfl
  show wpAny _ _ _ _ _ { s' with heap := s'.heap.push (seqObj "list" vs.toArray 0) }
  refine wpAny_bind (wpAny_holding (wpAny_call_entry PyProof.Rows.slot_list_sort ⟨_, hob, rfl⟩ PyProof.Rows.entry_list_sort
    (list_sort_treeKAny strKind_oneLt hob hS.keysOf (fun v₁ v₂ rest e => keyKind_strs (by rw [← e]; exact hS)) (by rw [hvl]; exact h64) fun st' hp hs => ⟨.none, rfl, ?_⟩) (PyProof.Rows.args_list_sort _)))
  obtain ⟨ys, k1, k2, k3⟩ := sorted_out_str hS hp hs
  obtain ⟨ep, he'⟩ := PyProof.Rows.sortedHeap_at (vs := vs) (out := (arrOf st').map (·.2)) hob
  have ey := sorted_texts k2 k3
  have none_old : s.heap.get? s'.heap.objs.size = none := by
    cases e : s.heap.get? s'.heap.objs.size with
    | none => rfl
    | some o => exact absurd (Heap.lt_size (keep _ _ e)) (Nat.lt_irrefl _)
  have hH : H s'.heap.objs.size = none := by
    cases e : H s'.heap.objs.size with
    | none => rfl
    | some o =>
      obtain ⟨u, hu⟩ := ob_get (I.hok _ _ e)
      rw [none_old] at hu
      cases hu
  have hlen : ((sortW ltN ss).map fun x => V.str (toS x)).length ≤ sizeLine := by
    rw [List.length_map, (sortW_perm ltN ss).length_eq]
    exact h64
  have hv : Vals ((sortW ltN ss).map fun x => V.str (toS x)) ((arrOf st').map (·.2)).toList := by
    have := vals_of_strs k1
    rw [ey, List.map_map] at this
    exact this
  refine wpAny_pure ⟨.ref s'.heap.objs.size, rfl, q _ _ hH ?_⟩
  have J := I.laidN (a := s'.heap.objs.size) (o := .lst ((sortW ltN ss).map fun x => V.str (toS x))) (t' := s'.toks) (h' := sortedHeap (s'.heap.push (seqObj "list" vs.toArray 0)) s'.heap.objs.size vs ((arrOf st').map (·.2)))
    (fun b o e => by
      have e1 := keep b o e
      have lt := Heap.lt_size e1
      rw [PyProof.Rows.sortedHeap_old (Nat.ne_of_lt lt) (by rw [Heap.size_push]; exact Nat.lt_succ_of_lt lt)]
      exact Heap.get?_push_of_some _ e1) none_old hH ⟨hlen, ((arrOf st').map (·.2)).toList, ep, hv, by rw [Array.toArray_toList]; exact he'⟩
  have es : ({ s' with heap := sortedHeap (s'.heap.push (seqObj "list" vs.toArray 0)) s'.heap.objs.size vs ((arrOf st').map (·.2)) } : Shared) = { s with heap := sortedHeap (s'.heap.push (seqObj "list" vs.toArray 0)) s'.heap.objs.size vs ((arrOf st').map (·.2)), toks := s'.toks } := by
    cases s
    cases s'
    simp only at g1 g2 g3
    subst g1 g2 g3
    rfl
  rw [es]
  exact J
end
end Qt
namespace Qt
open PySem PySem.Spec PyProof.Rows L2
def rBi (nm : Nm) (K : PySem.W.Frag) (b : Bi) : List V → Hp → VK → Prop := fun xs H Q => ∃ ι M ps Qp, Rm nm K ι H M ∧ Rvs K ι H xs ps ∧ biW b ps M Qp ∧ Kp nm K ι H M Qp Q
section
variable {X : Cx} {nm : Nm} {pins : List (Addr × Obj)} {σ : L2.St} {H : Hp} {s s' : Shared} {ι : List Addr} {M : Mem} {K : PySem.W.Frag}
theorem Rvs.one {vs : List V} {p : PV} (r : Rvs K ι H vs [p]) : ∃ v, vs = [v] ∧ Rv K ι H v p := by
  cases r with | cons h1 h2 => cases h2; exact ⟨_, rfl, h1⟩
theorem Rvs.two {vs : List V} {p q : PV} (r : Rvs K ι H vs [p, q]) : ∃ v w, vs = [v, w] ∧ Rv K ι H v p ∧ Rv K ι H w q := by
  cases r with | cons h1 h2 =>
  obtain ⟨w, rfl, h3⟩ := Rvs.one h2
  exact ⟨_, _, rfl, h1, h3⟩
theorem bools_v : ∀ {vs : List V} {ps : List PV} {bs : List Bool}, Rvs K ι H vs ps → bools ps = some bs → vs = bs.map V.bl
  | _, [], _, r, h => by cases r; cases h; rfl
  | _, p :: ps, bs, r, h => by
    cases r with | cons h1 h2 =>
    cases p with
    | bl b =>
      cases h1
      unfold bools at h
      cases e : bools ps with
      | none => simp only [e] at h; cases h
      | some cs =>
        simp only [e] at h
        cases h
        rw [bools_v h2 e]
        rfl
    | _ => cases h
theorem ints_v : ∀ {vs : List V} {ps : List PV} {bs : List Int}, Rvs K ι H vs ps → intsOf ps = some bs → vs = bs.map V.int
  | _, [], _, r, h => by cases r; cases h; rfl
  | _, p :: ps, bs, r, h => by
    cases r with | cons h1 h2 =>
    cases p with
    | int b =>
      cases h1
      unfold intsOf at h
      cases e : intsOf ps with
      | none => simp only [e] at h; cases h
      | some cs =>
        simp only [e] at h
        cases h
        rw [ints_v h2 e]
        rfl
    | _ => cases h
theorem strs_v : ∀ {vs : List V} {ps : List PV} {bs : List (List Nat)}, Rvs K ι H vs ps → strsOf ps = some bs → vs = (bs.map toS).map V.str
  | _, [], _, r, h => by cases r; cases h; rfl
  | _, p :: ps, bs, r, h => by
    cases r with | cons h1 h2 =>
    cases p with
    | str b =>
      cases h1
      unfold strsOf at h
      cases e : strsOf ps with
      | none => simp only [e] at h; cases h
      | some cs =>
        simp only [e] at h
        cases h
        rw [strs_v h2 e]
        rfl
    | _ => cases h
theorem case_all {x : PV} {Qp : PV → Prop} (hf : biW .all [x] M Qp) : ∃ xs bs, asL M x = some xs ∧ bools xs = some bs ∧ Qp (.bl (bs.all id)) := by
  unfold biW at hf
  cases e : asL M x with
  | none => simp only [e] at hf
  | some xs =>
    simp only [e] at hf
    cases e1 : bools xs with
    | none => simp only [e1] at hf
    | some bs => simp only [e1] at hf; exact ⟨xs, bs, rfl, e1, hf⟩
theorem case_any {x : PV} {Qp : PV → Prop} (hf : biW .any [x] M Qp) : ∃ xs bs, asL M x = some xs ∧ bools xs = some bs ∧ Qp (.bl (bs.any id)) := by
  unfold biW at hf
  cases e : asL M x with
  | none => simp only [e] at hf
  | some xs =>
    simp only [e] at hf
    cases e1 : bools xs with
    | none => simp only [e1] at hf
    | some bs => simp only [e1] at hf; exact ⟨xs, bs, rfl, e1, hf⟩
theorem case_sum {x : PV} {Qp : PV → Prop} (hf : biW .sum [x] M Qp) : ∃ xs bs, asL M x = some xs ∧ intsOf xs = some bs ∧ Qp (.int bs.sum) := by
  unfold biW at hf
  cases e : asL M x with
  | none => simp only [e] at hf
  | some xs =>
    simp only [e] at hf
    cases e1 : intsOf xs with
    | none => simp only [e1] at hf
    | some bs => simp only [e1] at hf; exact ⟨xs, bs, rfl, e1, hf⟩
theorem bi_list1 {x : PV} {g : List PV → Prop} (h : (match asL M x with
    | some xs => g xs
    | none => False)) : ∃ xs, asL M x = some xs ∧ g xs := by
  cases e : asL M x with
  | none => simp only [e] at h
  | some xs => simp only [e] at h; exact ⟨xs, rfl, h⟩
theorem b_abs : CallR X (.builtin "abs") (rBi nm X.K .abs) := by
  intro pins s σ H xs us Q I r ⟨ι, M, ps, Qp, m, rs, hf, k⟩
  match ps, hf with
  | [.int i], hf =>
    obtain ⟨v, rfl, rv⟩ := rs.one
    cases rv
    exact call_abs pins s σ H _ us Q I r ⟨i, rfl, k _ hf ι H _ .refl m (.int _)⟩
theorem b_all (hc : X.calm = true) : CallR X (.builtin "all") (rBi nm X.K .all) := by
  intro pins s σ H xs us Q I r ⟨ι, M, ps, Qp, m, rs, hf, k⟩
  match ps, hf with
  | [x], hf =>
    obtain ⟨ys, bs, h1, h2, q⟩ := case_all hf
    obtain ⟨v, rfl, rv⟩ := rs.one
    obtain ⟨a, vs, rfl, ra, rt⟩ := asL_at m rv h1
    have e := bools_v rt h2
    subst e
    exact cr_all hc pins s σ H _ us Q I r ⟨a, bs, rfl, .inl ra, k _ q ι H _ .refl m (.bl _)⟩
theorem b_any (hc : X.calm = true) : CallR X (.builtin "any") (rBi nm X.K .any) := by
  intro pins s σ H xs us Q I r ⟨ι, M, ps, Qp, m, rs, hf, k⟩
  match ps, hf with
  | [x], hf =>
    obtain ⟨ys, bs, h1, h2, q⟩ := case_any hf
    obtain ⟨v, rfl, rv⟩ := rs.one
    obtain ⟨a, vs, rfl, ra, rt⟩ := asL_at m rv h1
    have e := bools_v rt h2
    subst e
    exact cr_any hc pins s σ H _ us Q I r ⟨a, bs, rfl, .inl ra, k _ q ι H _ .refl m (.bl _)⟩
theorem b_sum (hc : X.calm = true) : CallR X (.builtin "sum") (rBi nm X.K .sum) := by
  intro pins s σ H xs us Q I r ⟨ι, M, ps, Qp, m, rs, hf, k⟩
  match ps, hf with
  | [x], hf =>
    obtain ⟨ys, bs, h1, h2, q⟩ := case_sum hf
    obtain ⟨v, rfl, rv⟩ := rs.one
    obtain ⟨a, vs, rfl, ra, rt⟩ := asL_at m rv h1
    have e := ints_v rt h2
    subst e
    exact cr_sum hc pins s σ H _ us Q I r ⟨a, bs, rfl, .inl ra, k _ q ι H _ .refl m (.int _)⟩
theorem b_int : CallR X (.type "int") (rBi nm X.K .int) := by
  intro pins s σ H xs us Q I r ⟨ι, M, ps, Qp, m, rs, hf, k⟩
  match ps, hf with
  | [.int i], hf =>
    obtain ⟨v, rfl, rv⟩ := rs.one
    cases rv
    exact call_int1 pins s σ H _ us Q I r (.inl ⟨i, rfl, k _ hf ι H _ .refl m (.int _)⟩)
  | [.bl i], hf =>
    obtain ⟨v, rfl, rv⟩ := rs.one
    cases rv
    exact call_int1 pins s σ H _ us Q I r (.inr ⟨i, rfl, k _ hf ι H _ .refl m (.int _)⟩)
/-- min of two texts -/
theorem min_two_strs {prog : Program} {w : World} {A : Around} {E : Value → Shared → Prop} {s : Shared} {Q : Value → Shared → Prop} {x y : Str} {t u : Tok} (hh : A.handled = none)
    (h : ∀ h' tk, (∀ c o, s.heap.get? c = some o → h'.get? c = some o) → Q (if y.cps.toList < x.cps.toList then .str y u else .str x t) { s with heap := h', toks := tk }) :
    wpAny (model prog w) A (call (.builtin "min") [.str x t, .str y u]) Q E s := by
  have hT : (s.heap.push { cls := .type "tuple", data := .seq #[.str x t, .str y u] }).IsTuple s.heap.objs.size #[.str x t, .str y u] := ⟨_, Heap.get?_push_size _ rfl, rfl, 0, rfl⟩
  refine call_min_two (wpAny_pyIter_tuple hT ?_)
  have hsz : (s.heap.push { cls := .type "tuple", data := .seq #[.str x t, .str y u] }).objs.size = s.heap.objs.size + 1 := Heap.size_push ..
  have hcmp : CmpOf prog w A.in1 .Lt (fun i v => (#[Value.str x t, .str y u] : Array Value)[i]? = some v) (fun i j => match i, j with
      | 0, 0 => decide (x.cps.toList < x.cps.toList)
      | 0, _ => decide (x.cps.toList < y.cps.toList)
      | _, 0 => decide (y.cps.toList < x.cps.toList)
      | _, _ => decide (y.cps.toList < y.cps.toList)) := by
    intro i j vi vj s' Q' E' hi hj hq
    match i, j with
    | 0, 0 => simp at hi hj; subst hi hj; exact PyProof.Rows.lt_str hq
    | 0, 1 => simp at hi hj; subst hi hj; exact PyProof.Rows.lt_str hq
    | 1, 0 => simp at hi hj; subst hi hj; exact PyProof.Rows.lt_str hq
    | 1, 1 => simp at hi hj; subst hi hj; exact PyProof.Rows.lt_str hq
    | 0, n + 2 => simp at hj
    | 1, n + 2 => simp at hj
    | n + 2, _ => simp at hi
  refine ⟨_, [_, s.heap.objs.size], [_], _, _, _, _, rfl, Walks.tuple (A := A.in1) hh _ s.heap.objs.size (by rw [hsz]; exact Nat.ne_of_lt (Nat.lt_succ_self _)) #[.str x t, .str y u],
    ⟨⟨_, Heap.get?_push_size _ rfl, rfl, rfl⟩, hT.push _⟩, fun c hc => ?_, by simp, hcmp, fun v h' tk hP hk => ?_⟩
  · show c < ((s.heap.push _).push _).objs.size
    rw [Heap.size_push, hsz]
    rcases List.mem_cons.mp hc with rfl | hc
    · rw [hsz]; exact Nat.lt_succ_self _
    · rcases List.mem_cons.mp hc with rfl | hc
      · exact Nat.lt_succ_of_lt (Nat.lt_succ_self _)
      · cases hc
  · have hold : ∀ c o, s.heap.get? c = some o → h'.get? c = some o := fun c o e => by
      refine hk c o (fun hm => ?_) (Heap.get?_push_of_some _ (Heap.get?_push_of_some _ e))
      rcases List.mem_cons.mp hm with e1 | hm
      · have := Heap.lt_size e; rw [e1, hsz] at this; exact Nat.lt_irrefl _ (Nat.lt_of_succ_lt this)
      · cases hm
    have := h h' tk hold
    have hv : v = if y.cps.toList < x.cps.toList then .str y u else .str x t := by
      by_cases hc : y.cps.toList < x.cps.toList
      · simp [argBest, hc] at hP
        simp [hc, hP]
      · simp [argBest, hc] at hP
        simp [hc, hP]
    rw [hv]; exact this
theorem b_min2 (hc : X.calm = true) : CallR X (.builtin "min") (rBi nm X.K .min2) := by
  intro pins s σ H xs us Q I r ⟨ι, M, ps, Qp, m, rs, hf, k⟩
  match ps, hf with
  | [.int i, .int j], hf =>
    obtain ⟨v, w, rfl, rv, rw'⟩ := rs.two
    cases rv; cases rw'
    exact call_min2 hc pins s σ H _ us Q I r ⟨i, j, rfl, k _ hf ι H _ .refl m (.int _)⟩
  | [.str a, .str b], hf =>
    obtain ⟨v, w, rfl, rv, rw'⟩ := rs.two
    cases rv; cases rw'
    obtain ⟨u1, u2, rfl, ⟨t, rfl⟩, ⟨t', rfl⟩⟩ := vals2 r
    have hf' : Qp (.str (if ltN b a = true then b else a)) := hf
    refine min_two_strs (I.ok.hd hc) fun h' tk kp => ⟨.str (toS (if ltN b a = true then b else a)), H, I.kept kp, ?_, k _ hf' ι H _ .refl m (.str _)⟩
    rw [ltN_dec]
    by_cases hj : (toS b).cps.toList < (toS a).cps.toList
    · rw [if_pos hj, if_pos (decide_eq_true hj)]; exact ⟨_, rfl⟩
    · rw [if_neg hj, if_neg (by simp [hj])]; exact ⟨_, rfl⟩
/-! ### the least of a list -/
theorem minP_mem : ∀ (ys : List PV) (y : PV), minP y ys ∈ y :: ys
  | [], y => List.mem_singleton.mpr rfl
  | z :: ys, y => by
    show minP (if PV.ltv z y = true then z else y) ys ∈ y :: z :: ys
    have := minP_mem ys (if PV.ltv z y = true then z else y)
    rcases List.mem_cons.mp this with e | h
    · rw [e]
      split
      · exact List.mem_cons_of_mem _ (List.mem_cons_self ..)
      · exact List.mem_cons_self ..
    · exact List.mem_cons_of_mem _ (List.mem_cons_of_mem _ h)
theorem minP_toD : ∀ (ys : List PV) (y : PV), (∀ a ∈ y :: ys, ∀ b ∈ y :: ys, PV.alk a b = true) → PySem.W.minD y.toD (toDs ys) = (minP y ys).toD
  | [], y, _ => rfl
  | z :: ys, y, h => by
    show PySem.W.minD (if PySem.W.dataLt z.toD y.toD then z.toD else y.toD) (toDs ys) = (minP (if PV.ltv z y = true then z else y) ys).toD
    have e : PySem.W.dataLt z.toD y.toD = PV.ltv z y := ltv_toD (h z (by simp) y (by simp))
    rw [e]
    have e2 : (if PV.ltv z y = true then z.toD else y.toD) = (if PV.ltv z y = true then z else y).toD := by split <;> rfl
    rw [e2]
    have hm : (if PV.ltv z y = true then z else y) ∈ y :: z :: ys := by split <;> simp
    refine minP_toD ys _ fun a ha b hb => h a ?_ b ?_
    · rcases List.mem_cons.mp ha with rfl | ha
      · exact hm
      · exact List.mem_cons_of_mem _ (List.mem_cons_of_mem _ ha)
    · rcases List.mem_cons.mp hb with rfl | hb
      · exact hm
      · exact List.mem_cons_of_mem _ (List.mem_cons_of_mem _ hb)
theorem toDs_map : ∀ l : List PV, toDs l = l.map PV.toD
  | [] => rfl
  | x :: l => congrArg (x.toD :: ·) (toDs_map l)
theorem hks_mem {d : Nat} : ∀ {l : List PV}, hks d l = true → ∀ x ∈ l, x.hk d = true
  | [], _, _, h => by cases h
  | y :: l, g, x, h => by
    have g' : (PV.hk d y && hks d l) = true := g
    rw [Bool.and_eq_true] at g'
    rcases List.mem_cons.mp h with rfl | h
    · exact g'.1
    · exact hks_mem g'.2 x h
theorem case_min {M : Mem} {x : PV} {Qp : PV → Prop} (hf : biW .min1 [x] M Qp) : ∃ y ys, asL M x = some (y :: ys) ∧ hks 6 (y :: ys) = true ∧ (∀ a ∈ y :: ys, ∀ b ∈ y :: ys, PV.alk a b = true) ∧ Qp (minP y ys) := by
  unfold biW at hf
  cases e : asL M x with
  | none => simp only [e] at hf
  | some xs =>
    simp only [e] at hf
    cases xs with
    | nil => exact False.elim hf
    | cons y ys => exact ⟨y, ys, rfl, hf.1.1, hf.1.2, hf.2⟩
theorem b_min1 (hc : X.calm = true) (hu : X.A.units + 65 < cLine) : CallR X (.builtin "min") (rBi nm X.K .min1) := by
  intro pins s σ H xs us Q I r ⟨ι, M, ps, Qp, m, rs, hf, k⟩
  match ps, hf with
  | [x], hf =>
    obtain ⟨y, ys, h1, h2, h3, q⟩ := case_min hf
    obtain ⟨v, rfl, rv⟩ := rs.one
    obtain ⟨a, vs, rfl, ra, rt⟩ := asL_at m rv h1
    obtain ⟨u, rfl, ru⟩ := vals1 r
    cases ru
    obtain ⟨its, rvs, pl, _⟩ := I.list (.inl ra)
    have ho := hks_oks 6 20 _ (by decide) h2
    obtain ⟨as, hr⟩ := Dp.readsAll I (toDs (y :: ys)) vs its (rvs_dp 20 (y :: ys) vs ho rt) rvs
    have hd : PyData.depthAll (toDs (y :: ys)) ≤ 20 := by
      have := (okd_sh 21 (.lst (y :: ys)) (show oks 20 (y :: ys) = true from ho)).2
      have e : (PV.lst (y :: ys)).toD.depth = PyData.depthAll (toDs (y :: ys)) + 1 := by
        show (PyData.list (toDs (y :: ys))).depth = _
        simp [PyData.depth, Nat.add_comm]
      omega
    have ha : PySem.W.AlikeAll (toDs (y :: ys)) := by
      rw [toDs_map]
      refine ⟨fun p hp q hq => ?_, fun p hp z => ?_⟩
      · obtain ⟨p', hp', rfl⟩ := List.mem_map.mp hp
        obtain ⟨q', hq', rfl⟩ := List.mem_map.mp hq
        exact alk_toD (h3 p' hp' q' hq')
      · obtain ⟨p', hp', rfl⟩ := List.mem_map.mp hp
        have := h3 p' hp' p' hp'
        cases p' <;> first | (cases z; done) | (cases this; done)
    refine PySem.W.min_list_data (I.ok.hd hc) pl.isList (by exact hr) (by exact ha) (show X.A.units + 1 + PyData.depthAll (toDs (y :: ys)) < cLine by omega) fun i v h' tk bs hv hmin kp => ?_
    have hv' : its[i]? = some v := by simpa using hv
    obtain ⟨as1, r1, hlt, _, _⟩ := PySem.W.readsAll_at hr i v hv'
    have hlt' : i < (y :: ys).length := by rw [toDs_map, List.length_map] at hlt; exact hlt
    have hp : (y :: ys)[i]? = some (y :: ys)[i] := List.getElem?_eq_getElem hlt'
    obtain ⟨w, hw, rw'⟩ := rt.get hp
    obtain ⟨u, hu', ru⟩ := rvs.get hw
    rw [hv'] at hu'
    cases hu'
    have e1 : (toDs (y :: ys)).getD i PyData.none = ((y :: ys)[i]).toD := by
      rw [toDs_map, List.getD_eq_getElem?_getD, List.getElem?_map, hp]
      rfl
    rw [e1] at r1
    have hmin' : Reads h' v (minP y ys).toD bs := by rw [← minP_toD ys y h3]; exact hmin
    have ep : (y :: ys)[i] = minP y ys := reads_one 6 6 _ _ _ _ (hks_mem h2 _ (List.getElem_mem hlt')) (hks_mem h2 _ (minP_mem ys y)) (PySem.W.reads_keeps kp r1) hmin'
    rw [ep] at rw'
    exact ⟨w, H, I.kept kp, ru, k _ q ι H _ .refl m rw'⟩
  | [], hf => exact hf.elim
  | _ :: _ :: _, hf => exact hf.elim
theorem b_max2 (hc : X.calm = true) : CallR X (.builtin "max") (rBi nm X.K .max2) := by
  intro pins s σ H xs us Q I r ⟨ι, M, ps, Qp, m, rs, hf, k⟩
  match ps, hf with
  | [.int i, .int j], hf =>
    obtain ⟨v, w, rfl, rv, rw'⟩ := rs.two
    cases rv; cases rw'
    exact call_max2 hc pins s σ H _ us Q I r ⟨i, j, rfl, k _ hf ι H _ .refl m (.int _)⟩
theorem len_case {x : PV} {Qp : PV → Prop} (hf : biW .len [x] M Qp) : (∃ z, x = .str z ∧ z.length ≤ LL ∧ Qp (.int z.length)) ∨ (∃ z, x = .tup z ∧ Qp (.int z.length)) ∨ (∃ z, x = .scr z ∧ Qp (.int z.length)) ∨ ∃ ys, asL M x = some ys ∧ Qp (.int ys.length) := by
  cases x with
  | str z => exact .inl ⟨z, rfl, hf.1, hf.2⟩
  | tup z => exact .inr (.inl ⟨z, rfl, hf⟩)
  | scr z => exact .inr (.inr (.inl ⟨z, rfl, hf⟩))
  | lst z => exact .inr (.inr (.inr ⟨z, rfl, hf⟩))
  | ref n =>
    obtain ⟨ys, h1, q⟩ := bi_list1 (g := fun ys : List PV => Qp (.int ys.length)) (show (match asL M (.ref n) with
      | some xs => Qp (.int xs.length)
      | none => False) from hf)
    exact .inr (.inr (.inr ⟨ys, h1, q⟩))
  | _ => exact False.elim hf
theorem b_len : CallR X (.builtin "len") (rBi nm X.K .len) := by
  intro pins s σ H xs us Q I r ⟨ι, M, ps, Qp, m, rs, hf, k⟩
  match ps, hf with
  | [x], hf =>
    obtain ⟨v, rfl, rv⟩ := rs.one
    rcases len_case hf with ⟨z, rfl, hz, q⟩ | ⟨z, rfl, q⟩ | ⟨z, rfl, q⟩ | ⟨ys, h1, q⟩
    · cases rv
      refine call_len_str pins s σ H _ us Q I r ⟨_, rfl, by rw [toS_len, ← ll_eq]; exact hz, ?_⟩
      rw [toS_len]
      exact k _ q ι H _ .refl m (.int _)
    · cases rv with | @tup a vs _ h1 h2 =>
      refine call_len_seq pins s σ H _ us Q I r ⟨a, vs, rfl, .inr h1, ?_⟩
      rw [h2.length]
      exact k _ q ι H _ .refl m (.int _)
    · cases rv with | @scr a _ h1 =>
      refine call_len_seq pins s σ H _ us Q I r ⟨a, _, rfl, .inl h1.sq, ?_⟩
      rw [List.length_map]
      exact k _ q ι H _ .refl m (.int _)
    · obtain ⟨a, vs, rfl, ra, rt⟩ := asL_at m rv h1
      refine call_len_seq pins s σ H _ us Q I r ⟨a, vs, rfl, .inl (.inl ra), ?_⟩
      rw [rt.length]
      exact k _ q ι H _ .refl m (.int _)
  | [], hf => exact False.elim hf
  | .str _ :: _ :: _, hf => exact False.elim hf
  | .tup _ :: _ :: _, hf => exact False.elim hf
  | .scr _ :: _ :: _, hf => exact False.elim hf
  | .non :: _ :: _, hf => exact False.elim hf
  | .bl _ :: _ :: _, hf => exact False.elim hf
  | .int _ :: _ :: _, hf => exact False.elim hf
  | .lst _ :: _ :: _, hf => exact False.elim hf
  | .dct _ _ :: _ :: _, hf => exact False.elim hf
  | .ref _ :: _ :: _, hf => exact False.elim hf
theorem signs_vals {x : Str} : ∀ {its : List Value} {n : Nat}, (∀ i, i < n → ∃ c t, x.cps[i]? = some c ∧ its[i]? = some (Value.str ⟨#[c]⟩ t)) → its.length = n → n = x.cps.size →
    Vals (x.cps.toList.map fun c => V.str ⟨#[c]⟩) its := by
  intro its n h hl hn
  subst hn
  have key : ∀ (l : List Nat) (ks : List Value), ks.length = l.length → (∀ i, i < l.length → ∃ c t, l[i]? = some c ∧ ks[i]? = some (Value.str ⟨#[c]⟩ t)) → Vals (l.map fun c => V.str ⟨#[c]⟩) ks := by
    intro l
    induction l with
    | nil =>
      intro ks h1 _
      cases ks with
      | nil => exact .nil
      | cons _ _ => cases h1
    | cons c l ih =>
      intro ks h1 h2
      cases ks with
      | nil => cases h1
      | cons u ks =>
        obtain ⟨d, t, e1, e2⟩ := h2 0 (by simp)
        simp only [List.getElem?_cons_zero, Option.some.injEq] at e1 e2
        subst e1 e2
        refine .cons ⟨t, rfl⟩ (ih ks (by simpa using h1) fun i hi => ?_)
        have := h2 (i + 1) (by simpa using hi)
        simpa using this
  refine key _ _ (by simpa using hl) fun i hi => ?_
  obtain ⟨c, t, e1, e2⟩ := h i (by simpa using hi)
  exact ⟨c, t, by simpa using e1, e2⟩
theorem case_list {x : PV} {Qp : PV → Prop} (hf : biW .list [x] M Qp) : (∃ z, x = .str z ∧ z.length ≤ LL ∧ Qp (.lst (strVs z))) ∨ (∃ z, x = .tup z ∧ Qp (.lst z)) ∨ ∃ ys, asL M x = some ys ∧ Qp (.lst ys) := by
  cases x with
  | str z => exact .inl ⟨z, rfl, hf.1, hf.2⟩
  | tup z => exact .inr (.inl ⟨z, rfl, hf⟩)
  | lst z => exact .inr (.inr ⟨z, rfl, hf⟩)
  | ref n =>
    unfold biW at hf
    cases e : asL M (.ref n) with
    | none => simp only [e] at hf
    | some xs => simp only [e] at hf; exact .inr (.inr ⟨xs, rfl, hf⟩)
  | _ => exact False.elim hf
theorem case_tuple {x : PV} {Qp : PV → Prop} (hf : biW .tuple [x] M Qp) : (∃ z, x = .tup z ∧ Qp (.tup z)) ∨ ∃ ys, asL M x = some ys ∧ Qp (.tup ys) := by
  cases x with
  | tup z => exact (.inl ⟨z, rfl, hf⟩)
  | lst z => exact (.inr ⟨z, rfl, hf⟩)
  | ref n =>
    unfold biW at hf
    cases e : asL M (.ref n) with
    | none => simp only [e] at hf
    | some xs => simp only [e] at hf; exact (.inr ⟨xs, rfl, hf⟩)
  | _ => exact False.elim hf
theorem b_list (hc : X.calm = true) : CallR X (.type "list") (rBi nm X.K .list) := by
  intro pins s σ H xs us Q I r ⟨ι, M, ps, Qp, m, rs, hf, k⟩
  match ps, hf with
  | [x], hf =>
    obtain ⟨v, rfl, rv⟩ := rs.one
    rcases case_list hf with ⟨z, rfl, hz, q⟩ | ⟨z, rfl, q⟩ | ⟨ys, h1, q⟩
    · clear hf
      cases rv
      obtain ⟨u, rfl, t, rfl⟩ : ∃ u, us = [u] ∧ ∃ t, u = Value.str (toS z) t := by
        obtain ⟨u, rfl, r1⟩ := vals1 r
        exact ⟨u, rfl, r1⟩
      have hsz : (toS z).cps.size ≤ sizeLine := by
        have : (toS z).cps.size = z.length := by simp [toS]
        rw [this, ← ll_eq]
        exact hz
      have rs' : Rvs X.K ι H (z.map fun c => V.str ⟨#[c]⟩) (strVs z) := by
        clear q hz r rs hsz
        induction z with
        | nil => exact .nil
        | cons c z ih => exact .cons (.str [c]) ih
      refine ep_new m k rs' q ?_
      refine call_list_str (I.ok.hd hc) (toS z) t (fun h' tk acc c' kk e hi => ?_) hsz
      refine ⟨.ref s.heap.objs.size, _, I.laid (fun b o e' => kk b o e') (Nat.le_refl _) ?_, rfl, s.heap.objs.size, I.fresh, rfl, rfl⟩
      have hn : (toS z).cps.size = z.length := by simp [toS]
      have hv : Vals (z.map fun c => V.str ⟨#[c]⟩) acc.toList := signs_vals (x := toS z) (n := (toS z).cps.size) (fun i hi' => by
        have hi2 : i < acc.size := by rw [hi.1]; exact hi'
        obtain ⟨c, t, e2, e3⟩ := hi.2 i acc[i] (Array.getElem?_eq_getElem hi2)
        exact ⟨c, t, e2, by rw [← e3]; simp [hi2]⟩) (by rw [Array.length_toList]; exact hi.1) rfl
      refine ⟨?_, acc.toList, c', hv, by rw [e]⟩
      rw [List.length_map, ← hn]
      exact hsz
    · cases rv with | @tup a vs _ h1 h2 =>
      exact ep_new m k h2 q (call_list_of pins s σ H _ us _ I r ⟨a, vs, rfl, .inr h1, fun p hp => ⟨p, hp, rfl, rfl⟩⟩)
    · obtain ⟨a, vs, rfl, ra, rt⟩ := asL_at m rv h1
      exact ep_new m k rt q (call_list_of pins s σ H _ us _ I r ⟨a, vs, rfl, .inl (.inl ra), fun p hp => ⟨p, hp, rfl, rfl⟩⟩)
  | [], hf => exact False.elim hf
  | .str _ :: _ :: _, hf => exact False.elim hf
  | .tup _ :: _ :: _, hf => exact False.elim hf
  | .scr _ :: _ :: _, hf => exact False.elim hf
  | .non :: _ :: _, hf => exact False.elim hf
  | .bl _ :: _ :: _, hf => exact False.elim hf
  | .int _ :: _ :: _, hf => exact False.elim hf
  | .lst _ :: _ :: _, hf => exact False.elim hf
  | .dct _ _ :: _ :: _, hf => exact False.elim hf
  | .ref _ :: _ :: _, hf => exact False.elim hf
theorem b_tuple : CallR X (.type "tuple") (rBi nm X.K .tuple) := by
  intro pins s σ H xs us Q I r ⟨ι, M, ps, Qp, m, rs, hf, k⟩
  match ps, hf with
  | [x], hf =>
    obtain ⟨v, rfl, rv⟩ := rs.one
    rcases case_tuple hf with ⟨z, rfl, q⟩ | ⟨ys, h1, q⟩
    · cases rv with | @tup a vs _ h1 h2 =>
      exact call_tuple_of pins s σ H _ us _ I r ⟨a, vs, rfl, .inr ⟨h1, k _ q ι H _ .refl m (.tup h1 h2)⟩⟩
    · obtain ⟨a, vs, rfl, ra, rt⟩ := asL_at m rv h1
      exact ep_newT m k rt q (call_tuple_of pins s σ H _ us _ I r ⟨a, vs, rfl, .inl ⟨.inl ra, fun p hp => ⟨p, hp, rfl, rfl⟩⟩⟩)
  | [], hf => exact False.elim hf
  | .str _ :: _ :: _, hf => exact False.elim hf
  | .tup _ :: _ :: _, hf => exact False.elim hf
  | .scr _ :: _ :: _, hf => exact False.elim hf
  | .non :: _ :: _, hf => exact False.elim hf
  | .bl _ :: _ :: _, hf => exact False.elim hf
  | .int _ :: _ :: _, hf => exact False.elim hf
  | .lst _ :: _ :: _, hf => exact False.elim hf
  | .dct _ _ :: _ :: _, hf => exact False.elim hf
  | .ref _ :: _ :: _, hf => exact False.elim hf
/-! ### sorted, the greatest of three -/
theorem Rvs.three {vs : List V} {p q r : PV} (h : Rvs K ι H vs [p, q, r]) : ∃ u v w, vs = [u, v, w] ∧ Rv K ι H u p ∧ Rv K ι H v q ∧ Rv K ι H w r := by
  cases h with | cons h1 h2 =>
  obtain ⟨v, w, rfl, h3, h4⟩ := Rvs.two h2
  exact ⟨_, _, _, rfl, h1, h3, h4⟩
theorem b_max3 (hc : X.calm = true) : CallR X (.builtin "max") (rBi nm X.K .max3) := by
  intro pins s σ H xs us Q I r ⟨ι, M, ps, Qp, m, rs, hf, k⟩
  match ps, hf with
  | [.int i, .int j, .int l], hf =>
    obtain ⟨u, v, w, rfl, ru, rv, rw'⟩ := rs.three
    cases ru; cases rv; cases rw'
    refine call_max3Nu hc pins s σ H _ us Q I r ⟨.int i, .int j, .int l, .int (if l > (if j > i then j else i) then l else if j > i then j else i), rfl, ?_, k _ hf ι H _ .refl m (.int _)⟩
    show ((nuLt (.int i) (.int j)).map fun c => if c = true then V.int j else .int i).bind (fun m => (nuLt m (.int l)).map fun c => if c = true then V.int l else m) = _
    have e : ∀ a b : Int, nuLt (.int a) (.int b) = some (decide (a < b)) := fun a b => rfl
    simp only [e, Option.map_some, Option.bind_some]
    by_cases h1 : i < j
    · by_cases h2 : j < l
      · simp [h1, h2, e]
      · simp [h1, h2, e]
    · by_cases h2 : i < l
      · simp [h1, h2, e]
      · simp [h1, h2, e]
theorem strs_re {ss : List (List Nat)} : Rvs K ι H (ss.map fun x => V.str (toS x)) (ss.map PV.str) := by
  induction ss with
  | nil => exact .nil
  | cons x r ih => exact .cons (.str x) ih
theorem case_sorted {x : PV} {Qp : PV → Prop} (hf : biW .sorted [x] M Qp) : (∃ z, x = .str z ∧ z.length ≤ LL ∧ Qp (.lst (strVs (sortW (fun a b => decide (a < b)) z)))) ∨
    (∃ xs ss, (x = .tup xs ∨ asL M x = some xs) ∧ strsOf xs = some ss ∧ ss.length ≤ LL ∧ Qp (.lst ((sortW ltN ss).map PV.str))) ∨ ∃ xs ns, asL M x = some xs ∧ intsOf xs = some ns ∧ Qp (.lst ((sortW (fun a b => decide (a < b)) ns).map PV.int)) := by
  have lists : (match asL M x with
      | some xs => (match strsOf xs with
        | some ss => ss.length ≤ LL ∧ Qp (.lst ((sortW ltN ss).map PV.str))
        | none => (match intsOf xs with
          | some ns => Qp (.lst ((sortW (fun a b => decide (a < b)) ns).map PV.int))
          | none => False))
      | none => False) → (∃ xs ss, (x = .tup xs ∨ asL M x = some xs) ∧ strsOf xs = some ss ∧ ss.length ≤ LL ∧ Qp (.lst ((sortW ltN ss).map PV.str))) ∨ ∃ xs ns, asL M x = some xs ∧ intsOf xs = some ns ∧ Qp (.lst ((sortW (fun a b => decide (a < b)) ns).map PV.int)) := fun h => by
    cases e : asL M x with
    | none => simp only [e] at h
    | some xs =>
      simp only [e] at h
      cases e1 : strsOf xs with
      | some ss => simp only [e1] at h; exact .inl ⟨xs, ss, .inr rfl, e1, h.1, h.2⟩
      | none =>
        simp only [e1] at h
        cases e2 : intsOf xs with
        | none => simp only [e2] at h
        | some ns => simp only [e2] at h; exact .inr ⟨xs, ns, rfl, e2, h⟩
  cases x with
  | str z => exact .inl ⟨z, rfl, hf.1, hf.2⟩
  | tup xs =>
    have hf' : (match strsOf xs with
      | some ss => ss.length ≤ LL ∧ Qp (.lst ((sortW ltN ss).map PV.str))
      | none => False) := hf
    cases e1 : strsOf xs with
    | some ss => simp only [e1] at hf'; exact .inr (.inl ⟨xs, ss, .inl rfl, e1, hf'.1, hf'.2⟩)
    | none => simp only [e1] at hf'
  | _ => exact .inr (lists hf)
theorem b_sorted (hc : X.calm = true) : CallR X (.builtin "sorted") (rBi nm X.K .sorted) := by
  intro pins s σ H xs us Q I r ⟨ι, M, ps, Qp, m, rs, hf, k⟩
  match ps, hf with
  | [x], hf =>
    obtain ⟨v, rfl, rv⟩ := rs.one
    obtain ⟨u, rfl, ru⟩ := vals1 r
    rcases case_sorted hf with ⟨z, rfl, hz, q⟩ | ⟨ys, ss, h0, h1, h64, q⟩ | ⟨ys, ns, h0, h1, q⟩
    · clear hf
      cases rv
      obtain ⟨t, rfl⟩ := (show ∃ t, u = Value.str (toS z) t from ru)
      have q' : Qp (.lst ((sortW ltN (z.map fun c => [c])).map PV.str)) := by
        rw [sort_one, List.map_map]
        exact q
      refine ep_new m k strs_re q' ?_
      have hsz : (toS z).cps.size ≤ sizeLine := by
        have : (toS z).cps.size = z.length := by simp [toS]
        rw [this, ← ll_eq]
        exact hz
      refine sorted_of I (ss := z.map fun c => [c]) (by rw [List.length_map]; exact hz) (fun Q' hQ => wpAny_collect_str (A := X.A.in1) (I.ok.hd hc) (toS z) t (fun s' acc keep g1 g2 g3 hi => hQ _ s' keep g1 g2 g3 ?_) hsz) fun p s' hp J => ⟨.ref p, _, J, rfl, p, hp, rfl, rfl⟩
      have hv : Vals ((toS z).cps.toList.map fun c => V.str ⟨#[c]⟩) acc.toList := signs_vals (x := toS z) (n := (toS z).cps.size) (fun i hi' => by
        have hi2 : i < acc.size := by rw [hi.1]; exact hi'
        obtain ⟨c, t, e2, e3⟩ := hi.2 i acc[i] (Array.getElem?_eq_getElem hi2)
        exact ⟨c, t, e2, by rw [← e3]; simp [hi2]⟩) (by rw [Array.length_toList]; exact hi.1) rfl
      have e : ((toS z).cps.toList.map fun c => V.str ⟨#[c]⟩) = ((z.map fun c => [c]).map toS).map V.str := by
        rw [List.map_map, List.map_map]
        rfl
      rw [e] at hv
      exact hv.strs
    · obtain ⟨a, vs, o, its, n, ev, ho, hcl, hd, hzz, hvs, rt⟩ : ∃ (a : Addr) (vs : List V) (o : Obj) (its : Array Value) (n : Nat), v = .ref a ∧ s.heap.get? a = some o ∧ (o.cls = .type "list" ∨ o.cls = .type "tuple") ∧ o.data = .seq its n ∧ its.size ≤ sizeLine ∧ Vals vs its.toList ∧ Rvs X.K ι H vs ys := by
        rcases h0 with rfl | h0
        · cases rv with | @tup a vs _ g1 g2 =>
          obtain ⟨its, r1, ⟨o, e1, e2, n, e3⟩, hz⟩ := I.tuple g1
          exact ⟨a, vs, o, its.toArray, n, rfl, e1, .inr e2, e3, by rw [List.size_toArray, ← r1.length]; exact hz, by simpa using r1, g2⟩
        · obtain ⟨a, vs, rfl, ra, rt⟩ := asL_at m rv h0
          obtain ⟨its, r1, ⟨o, n, e1, e2, e3, e4⟩, hz⟩ := I.list (.inl ra)
          exact ⟨a, vs, o, its.toArray, n, rfl, e1, .inl e2, e4, by rw [List.size_toArray, ← r1.length]; exact hz, by simpa using r1, rt⟩
      subst ev
      cases (show u = Value.ref a from ru)
      have ev := strs_v rt h1
      subst ev
      refine ep_new m k strs_re q ?_
      refine sorted_of I (ss := ss) h64 (fun Q' hQ => ?_) fun p s' hp J => ⟨.ref p, _, J, rfl, p, hp, rfl, rfl⟩
      rcases hcl with hcl | hcl
      · exact wpAny_collect_seq a (.inl rfl) ho hcl hd (fun h' keep => hQ _ { s with heap := h' } keep rfl rfl rfl hvs.strs) hzz
      · exact wpAny_collect_seq a (.inr rfl) ho hcl hd (fun h' keep => hQ _ { s with heap := h' } keep rfl rfl rfl hvs.strs) hzz
    · obtain ⟨a, vs, rfl, ra, rt⟩ := asL_at m rv h0
      have e := ints_v rt h1
      subst e
      refine ep_new (xs := (sortW (fun a b => decide (a < b)) ns).map V.int) m k Rvs.ints q (cr_sortedI pins s σ H _ _ _ I r ⟨a, ns, rfl, .inl ra, fun ns' p hp hs hn => ?_⟩)
      rw [sorted_ints' hp hs]
      exact ⟨p, hn, rfl, rfl⟩
  | [], hf => exact False.elim hf
  | .str _ :: _ :: _, hf => exact False.elim hf
  | .tup _ :: _ :: _, hf => exact False.elim hf
  | .scr _ :: _ :: _, hf => exact False.elim hf
  | .non :: _ :: _, hf => exact False.elim hf
  | .bl _ :: _ :: _, hf => exact False.elim hf
  | .int _ :: _ :: _, hf => exact False.elim hf
  | .lst _ :: _ :: _, hf => exact False.elim hf
  | .dct _ _ :: _ :: _, hf => exact False.elim hf
  | .ref _ :: _ :: _, hf => exact False.elim hf
/-! ### isinstance -/
def tyS : Ty → String
  | .int => "int" | .bool => "bool" | .str => "str" | .tuple => "tuple" | .list => "list"
theorem rv_ty {v : V} {p : PV} (r : Rv X.K ι H v p) (h : isRef p = false) (t : Ty) : ∃ T : String, TyX X.K H v (.type T) ∧ kitB T (tyS t) = some (isTy t p) := by
  cases r with
  | non => exact ⟨"NoneType", .base .non, by cases t <;> first | (show kitB _ _ = some true; decide +kernel) | (show kitB _ _ = some false; decide +kernel)⟩
  | bl b => exact ⟨"bool", .base (.bl b), by cases t <;> first | (show kitB _ _ = some true; decide +kernel) | (show kitB _ _ = some false; decide +kernel)⟩
  | int i => exact ⟨"int", .base (.int i), by cases t <;> first | (show kitB _ _ = some true; decide +kernel) | (show kitB _ _ = some false; decide +kernel)⟩
  | str s => exact ⟨"str", .base (.str _), by cases t <;> first | (show kitB _ _ = some true; decide +kernel) | (show kitB _ _ = some false; decide +kernel)⟩
  | @tup a xs ps h1 h2 =>
    refine ⟨"tuple", ?_, by cases t <;> first | (show kitB _ _ = some true; decide +kernel) | (show kitB _ _ = some false; decide +kernel)⟩
    rcases h1 with (h1 | ⟨o, h1⟩) | ⟨o, its, n, h1, h3, _⟩
    · exact .base (.tup h1)
    · exact .fTuple h1
    · exact .kTuple h1 h3
  | lst h1 h2 => exact ⟨"list", .base (.frz h1), by cases t <;> first | (show kitB _ _ = some true; decide +kernel) | (show kitB _ _ = some false; decide +kernel)⟩
  | dct _ _ _ _ => cases h
  | dcd _ _ _ _ _ _ _ _ _ => cases h
  | ref _ => cases h
  | scr _ => cases h
/-- isinstance(x, T) -/
def rIsP (nm : Nm) (K : PySem.W.Frag) (t : Ty) : List V → Hp → VK → Prop := fun xs H Q => ∃ x, xs = [x, .ty (tyS t)] ∧ rBi nm K (.isi t) [x] H Q
theorem b_isi (t : Ty) : CallR X (.builtin "isinstance") (rIsP nm X.K t) := by
  intro pins s σ H xs us Q I r h
  obtain ⟨x, e0, ι, M, ps, Qp, m, rs, hf, k⟩ := h
  subst e0
  match ps, hf with
  | [p], hf =>
    obtain ⟨h1, q⟩ : isRef p = false ∧ Qp (.bl (isTy t p)) := hf
    obtain ⟨v, e, rv⟩ := rs.one
    cases e
    obtain ⟨T, ty, e⟩ := rv_ty rv h1 t
    exact call_isi pins s σ H _ us Q I r ⟨x, .ty (tyS t), _, _, _, rfl, .ty _, ty, kit_ty e, k _ q ι H _ .refl m (.bl _)⟩
end
end Qt
namespace Qt
open PySem PySem.Spec PyProof.Rows L2 TL
/-- what follows a value and a memory -/
abbrev KpM (nm : Nm) (K : PySem.W.Frag) (ι : List Addr) (H : Hp) (Qp : Kt) (Q : VK) : Prop :=
  ∀ p M', Qp p M' → ∀ ι' H' v, Ext ι H ι' H' → Rm nm K ι' H' M' → Rv K ι' H' v p → Q v H'
def rBm (nm : Nm) (K : PySem.W.Frag) (b : Bm) : V → List V → Hp → VK → Prop := fun x xs H Q => ∃ ι M px ps Qp, Rm nm K ι H M ∧ Rv K ι H x px ∧ Rvs K ι H xs ps ∧ bmW b px ps M Qp ∧ KpM nm K ι H Qp Q
section
variable {X : Cx} {nm : Nm} {pins : List (Addr × Obj)} {σ : L2.St} {H : Hp} {s s' : Shared} {ι : List Addr} {M : Mem} {K : PySem.W.Frag}
theorem KpM.kp {Qp : Kt} {Q : VK} (k : KpM nm K ι H Qp Q) (M : Mem) : Kp nm K ι H M (fun p => Qp p M) Q := fun p hp => k p M hp
theorem joinS_eq (S : List Nat) : ∀ l : List (List Nat), joinS S l = joinL S l
  | [] => rfl
  | [a] => rfl
  | a :: b :: r => by
    show a ++ S ++ joinS S (b :: r) = joinL S (a :: b :: r)
    rw [joinS_eq S (b :: r)]
    simp [joinL]
theorem join_toS (S : List Nat) (l : List (List Nat)) : Txt.join (toS S) (l.map toS) = toS (joinS S l) := by
  rw [join_eq]
  refine ext_tl ?_
  rw [tl_join, joinS_eq]
  show joinL S ((l.map toS).map tl) = joinL S l
  rw [List.map_map]
  congr 1
  exact (List.map_congr_left fun a _ => rfl).trans (List.map_id _)
theorem m_join : MtR X "str.join" (rBm nm X.K .join) := by
  intro pins s σ H x xs v us Q I rx rs h
  obtain ⟨ι, M, px, ps, Qp, m, hx, hs, hf, k⟩ := h
  match px, ps, hf with
  | .str z, [y], hf =>
    unfold bmW at hf
    cases e : asL M y with
    | none => simp only [e] at hf
    | some ys =>
      simp only [e] at hf
      cases e1 : strsOf ys with
      | none => simp only [e1] at hf
      | some l =>
        simp only [e1] at hf
        obtain ⟨hz, q⟩ := hf
        cases hx
        obtain ⟨w, rfl, rw'⟩ := hs.one
        obtain ⟨a, vs, rfl, ra, rt⟩ := asL_at m rw' e
        have ev := strs_v rt e1
        subst ev
        refine mt_join pins s σ H _ _ v us Q I rx rs ⟨toS z, a, l.map toS, rfl, rfl, .inl (.inl ra), ?_, ?_⟩
        · rw [List.map_map, List.length_map, toS_len, show ((fun x : Str => x.length) ∘ toS) = (·.length) from funext fun a => toS_len a]
          exact hz
        · rw [join_toS]
          exact k _ _ q ι H _ .refl m (.str _)
theorem occ_first {c : Nat} {z : List Nat} {j : Nat} (h : firstS c z = some j) : ∃ rest, Builtin.Str.occurrences (toS z) (toS [c]) 0 (toS z).length 1 = j :: rest := by
  have at1 : ∀ i, StrLaws.At (toS z) (toS [c]) (toS z).length i ↔ z[i]? = some c := fun i => by
    rw [at_iff (by simp [toS])]
    show pre [c] (z.drop i) = true ↔ _
    unfold pre
    simp only [List.length_singleton, beq_iff_eq]
    cases e : z.drop i with
    | nil =>
      rw [List.drop_eq_nil_iff] at e
      rw [List.getElem?_eq_none e]
      simp
    | cons d r =>
      have : z[i]? = some d := by
        have := congrArg (fun l => l[0]?) e
        simpa using this
      rw [this]
      simp
  have fs : z[j]? = some c ∧ ∀ k, k < j → z[k]? ≠ some c := by
    clear at1
    induction z generalizing j with
    | nil => cases h
    | cons d z ih =>
      unfold firstS at h
      by_cases hd : (d == c) = true
      · rw [if_pos hd] at h
        cases h
        refine ⟨?_, fun k hk => absurd hk (Nat.not_lt_zero _)⟩
        simpa using hd
      · rw [if_neg hd] at h
        cases e : firstS c z with
        | none => rw [e] at h; cases h
        | some i =>
          rw [e] at h
          cases h
          obtain ⟨h1, h2⟩ := ih e
          refine ⟨by simpa using h1, fun k hk => ?_⟩
          cases k with
          | zero => simpa using hd
          | succ k => simpa using h2 k (by omega)
  rcases StrLaws.occ_head (toS z) (toS [c]) 1 (by decide) with ⟨_, h0⟩ | ⟨i, r, h1, h2, h3⟩
  · exact absurd ((at1 j).mpr fs.1) (h0 j)
  · have : i = j := by
      rcases Nat.lt_trichotomy i j with hl | hl | hl
      · exact absurd ((at1 i).mp h2) (fs.2 i hl)
      · exact hl
      · exact absurd ((at1 j).mpr fs.1) (h3 j hl)
    subst this
    exact ⟨r, h1⟩
theorem m_index : MtR X "str.index" (rBm nm X.K .index) := by
  intro pins s σ H x xs v us Q I rx rs h
  obtain ⟨ι, M, px, ps, Qp, m, hx, hs, hf, k⟩ := h
  match px, ps, hf with
  | .str z, [.str [c]], hf =>
    unfold bmW at hf
    cases e : firstS c z with
    | none => simp only [e] at hf
    | some j =>
      simp only [e] at hf
      cases hx
      obtain ⟨w, rfl, rw'⟩ := hs.one
      cases rw'
      obtain ⟨rest, ho⟩ := occ_first e
      exact mt_sindex pins s σ H _ _ v us Q I rx rs ⟨_, _, j, rest, rfl, rfl, ho, k _ _ hf ι H _ .refl m (.int _)⟩
theorem firstV_at {y : PV} : ∀ {ys : List PV} {j : Nat}, firstV y ys = some j → (∃ z, ys[j]? = some z ∧ PV.eqv z y = true) ∧ ∀ (m : Nat) z, m < j → ys[m]? = some z → PV.eqv z y = false
  | [], j, h => by cases h
  | x :: r, j, h => by
    unfold firstV at h
    cases e : PV.eqv x y with
    | true =>
      rw [e] at h
      cases h
      exact ⟨⟨x, rfl, e⟩, fun m z hm _ => absurd hm (Nat.not_lt_zero _)⟩
    | false =>
      rw [e] at h
      cases e2 : firstV y r with
      | none => rw [e2] at h; cases h
      | some k =>
        rw [e2] at h
        cases h
        obtain ⟨⟨z, h1, h2⟩, h3⟩ := firstV_at e2
        refine ⟨⟨z, by simpa using h1, h2⟩, fun m w hm hw => ?_⟩
        cases m with
        | zero =>
          simp only [List.getElem?_cons_zero, Option.some.injEq] at hw
          rw [← hw]
          exact e
        | succ m => exact h3 m w (Nat.lt_of_succ_lt_succ hm) (by simpa using hw)
theorem m_lindex : MtR X "list.index" (rBm nm X.K .lindex) := by
  intro pins s σ H x xs v us Q I rx rs h
  obtain ⟨ι, M, px, ps, Qp, m, hx, hs, hf, k⟩ := h
  match px, ps, hf with
  | .lst ys, [y], hf =>
    have hf' : (isScal y && ys.all isScal) = true ∧ (match firstV y ys with
      | some k => Qp (.int k) M
      | none => False) := hf
    obtain ⟨h1, h2⟩ := hf'
    rw [Bool.and_eq_true] at h1
    cases e : firstV y ys with
    | none => rw [e] at h2; exact h2.elim
    | some j =>
      rw [e] at h2
      obtain ⟨⟨z, g1, g2⟩, g3⟩ := firstV_at e
      cases hx with | @lst a o vs _ ha rv =>
      obtain ⟨w, rfl, rw'⟩ := hs.one
      obtain ⟨u, gu, ru⟩ := rv.get g1
      have sc : ∀ (m : Nat) z', ys[m]? = some z' → isScal z' = true := fun m z' hz => List.all_eq_true.mp h1.2 z' (List.mem_of_getElem? hz)
      refine mt_index pins s σ H _ _ v us Q I rx rs ⟨a, vs, w, j, u, rfl, rfl, .inl (.inr ⟨o, ha⟩), scal_flat rw' h1.1, scal_all rv h1.2, gu, ?_, fun m z' hm hz => ?_, k _ _ h2 ι H _ .refl m (.int _)⟩
      · rw [scal_eqV ru rw' (sc _ _ g1) h1.1]
        exact g2
      · obtain ⟨p, hp, rp⟩ := rv.getV hz
        rw [scal_eqV rp rw' (sc _ _ hp) h1.1]
        exact g3 m p hm hp
theorem splitS_eq (S : List Nat) : ∀ (l : List Nat) (k : Nat) (acc : List Nat), splitS S k acc l = spl S k acc l
  | [], k, acc => by cases k <;> rfl
  | c :: r, 0, acc => by
    show (if preS S (c :: r) = true then acc :: splitS S (S.length - 1) [] r else splitS S 0 (acc ++ [c]) r) = (if pre S (c :: r) = true then acc :: spl S (S.length - 1) [] r else spl S 0 (acc ++ [c]) r)
    rw [splitS_eq S r, splitS_eq S r]
    rfl
  | c :: r, k + 1, acc => by
    show splitS S k acc r = spl S k acc r
    exact splitS_eq S r k acc
theorem split_toS {z a : List Nat} (ha : a ≠ []) (hk : a.all (· < 256) = true) : Txt.split (toS z) (toS a) = (splitS a 0 [] z).map toS := by
  have h1 := split_spl (toS z) (toS a) ha (kind_ok (by rw [← Array.all_toList]; exact hk))
  have h2 : (Txt.split (toS z) (toS a)).map tl = splitS a 0 [] z := by rw [h1, splitS_eq]; rfl
  rw [← h2, List.map_map]
  refine ((List.map_congr_left fun x _ => ?_).trans (List.map_id _)).symm
  exact toS_of x
theorem m_split : MtR X "str.split" (rBm nm X.K .split) := by
  intro pins s σ H x xs v us Q I rx rs h
  obtain ⟨ι, M, px, ps, Qp, m, hx, hs, hf, k⟩ := h
  match px, ps, hf with
  | .str z, [.str a], hf =>
    obtain ⟨⟨h1, h2, h3⟩, q⟩ : (a ≠ [] ∧ a.all (· < 256) = true ∧ z.length + 2 ≤ LL) ∧ Qp (.lst ((splitS a 0 [] z).map PV.str)) M := hf
    cases hx
    obtain ⟨w, rfl, rw'⟩ := hs.one
    cases rw'
    refine ep_new m (k.kp M) (xs := ((splitS a 0 [] z).map toS).map V.str) ?_ q (mt_split pins s σ H _ _ v us _ I rx rs ⟨_, _, rfl, rfl, ?_, ?_, fun p hp => ⟨p, hp, rfl, ?_⟩⟩)
    · rw [List.map_map]
      exact Rvs.strs
    · rw [toS_len]
      cases a with
      | nil => exact absurd rfl h1
      | cons _ _ => rfl
    · rw [toS_len, ← ll_eq]
      exact h3
    · rw [split_toS h1 h2]
theorem m_append : MtM X "list.append" (rBm nm X.K .append) := by
  intro pins s σ H x xs v us Q I rx rs h
  obtain ⟨ι, M, px, ps, Qp, m, hx, hs, hf, k⟩ := h
  match px, ps, hf with
  | .ref n, [y], hf =>
    unfold bmW at hf
    cases e : M[n]? with
    | none => simp only [e] at hf
    | some o =>
      cases o with
      | lst zs =>
        simp only [e] at hf
        obtain ⟨hz, q⟩ := hf
        cases hx with | @ref a _ h1 =>
        obtain ⟨w, rfl, rw'⟩ := hs.one
        obtain ⟨vs, h2, h3⟩ := m.at_ n a _ h1 e
        refine mt_append pins s σ H _ _ v us Q I rx rs ⟨a, vs, w, rfl, rfl, h2, by rw [h3.length, ← ll_eq]; exact hz, ?_⟩
        have hx : Ext ι H ι (upd H a (.lst (vs ++ [w]))) := Ext.upd_mut (List.mem_of_getElem? h1) h2 (fun z => z)
        exact k _ _ q ι _ _ hx (m.write h1 h2 (fun z => z) ⟨_, upd_same, (h3.append (.cons rw' .nil)).up hx⟩) .non
      | _ => simp only [e] at hf
theorem m_pop : MtM X "list.pop" (rBm nm X.K .pop) := by
  intro pins s σ H x xs v us Q I rx rs h
  obtain ⟨ι, M, px, ps, Qp, m, hx, hs, hf, k⟩ := h
  match px, ps, hf with
  | .ref n, [], hf =>
    unfold bmW at hf
    cases e : M[n]? with
    | none => simp only [e] at hf
    | some o =>
      cases o with
      | lst zs =>
        simp only [e] at hf
        cases e1 : zs.getLast? with
        | none => simp only [e1] at hf
        | some y =>
          simp only [e1] at hf
          cases hx with | @ref a _ h1 =>
          cases hs
          obtain ⟨vs, h2, h3⟩ := m.at_ n a _ h1 e
          have e2 : zs[zs.length - 1]? = some y := by rw [← List.getLast?_eq_getElem?]; exact e1
          obtain ⟨w, e3, rw'⟩ := h3.get e2
          rw [← h3.length] at e3
          refine mt_pop pins s σ H _ _ v us Q I rx rs ⟨a, vs, w, rfl, rfl, h2, e3, ?_⟩
          have hx : Ext ι H ι (upd H a (.lst vs.dropLast)) := Ext.upd_mut (List.mem_of_getElem? h1) h2 (fun z => z)
          refine k _ _ hf ι _ _ hx (m.write h1 h2 (fun z => z) ⟨_, upd_same, ?_⟩) (rw'.up hx)
          have h4 : Rvs X.K ι H vs.dropLast zs.dropLast := by
            rw [List.dropLast_eq_take, List.dropLast_eq_take, ← h3.length]
            exact h3.take _
          exact h4.up hx
      | _ => simp only [e] at hf
end
end Qt
/-! ### what an expression's semantics asks, as readings of the hand layer; one lemma a construct -/
namespace Qt
open PySem PySem.Spec PyProof.Rows L2
abbrev FE := Rho → Mem → Kt → Prop
abbrev FA := Rho → Mem → (List PV → Mem → Prop) → Prop
abbrev FO := Rho → Mem → (Option Int → Mem → Prop) → Prop
def tE (nm : Nm) (K : PySem.W.Frag) (f : FE) : TE := fun σ H Q => ∃ ι ρ M Qp, Sim nm K ι H M σ ρ ∧ f ρ M Qp ∧ KpM nm K ι H Qp Q
def tT (nm : Nm) (K : PySem.W.Frag) (f : FE) : TT := fun σ H Q => ∃ ι ρ M Qp, Sim nm K ι H M σ ρ ∧ f ρ M Qp ∧ ∀ p M', Qp p M' → ∃ b, truthy M' p = some b ∧ ∀ ι' H', Ext ι H ι' H' → Rm nm K ι' H' M' → Q b H'
def tL (nm : Nm) (K : PySem.W.Frag) (f : FA) : TA := fun σ H Q => ∃ ι ρ M Qp, Sim nm K ι H M σ ρ ∧ f ρ M Qp ∧ ∀ ps M', Qp ps M' → ∀ ι' H' vs, Ext ι H ι' H' → Rm nm K ι' H' M' → Rvs K ι' H' vs ps → Q vs H'
def tO (nm : Nm) (K : PySem.W.Frag) (f : FO) : TO := fun σ H Q => ∃ ι ρ M Qp, Sim nm K ι H M σ ρ ∧ f ρ M Qp ∧ ∀ o M', Qp o M' → ∀ ι' H', Ext ι H ι' H' → Rm nm K ι' H' M' → Q o H'
theorem PE.of {X : Cx} {e : Expr} {t t' : TE} (h : PE X e t) (i : ∀ σ H Q, t' σ H Q → t σ H Q) : PE X e t' := ⟨fun pins s σ H Q I q => h.run pins s σ H Q I (i σ H Q q)⟩
theorem PT.of {X : Cx} {e : Expr} {t t' : TT} (h : PT X e t) (i : ∀ σ H Q, t' σ H Q → t σ H Q) : PT X e t' := ⟨fun pins s σ H Q I q => h.run pins s σ H Q I (i σ H Q q)⟩
theorem PW.of {X : Cx} {e : Expr} {t t' : TT} (h : PW X e t) (i : ∀ σ H Q, t' σ H Q → t σ H Q) : PW X e t' := ⟨fun w pins s σ H Q I q => h.run w pins s σ H Q I (i σ H Q q)⟩
theorem PA.of {X : Cx} {e : List Expr} {t t' : TA} (h : PA X e t) (i : ∀ σ H Q, t' σ H Q → t σ H Q) : PA X e t' := ⟨fun p pins s σ H Q I q => h.run p pins s σ H Q I (i σ H Q q)⟩
theorem PO.of {X : Cx} {e : Option Expr} {t t' : TO} (h : PO X e t) (i : ∀ σ H Q, t' σ H Q → t σ H Q) : PO X e t' := ⟨fun pins s σ H Q I q => h.run pins s σ H Q I (i σ H Q q)⟩
section
variable {X : Cx} {nm : Nm} {ι ι' : List Addr} {H H' : Hp} {M M' : Mem} {σ : L2.St} {ρ : Rho} {a b c e : Expr} {pos : Pos} {fa fb fc : FE}
theorem Sim.up {K : PySem.W.Frag} (s : Sim nm K ι H M σ ρ) (x : Ext ι H ι' H') (m : Rm nm K ι' H' M') : Sim nm K ι' H' M' σ ρ := ⟨m, s.r.up x, s.l⟩
/-- never run -/
theorem q_never (h : ∀ ρ M Q, ¬ fa ρ M Q) : PE X e (tE nm X.K fa) := ⟨fun _ _ _ _ _ _ ⟨_, _, _, _, _, hf, _⟩ => (h _ _ _ hf).elim⟩
theorem q_const {u : V} {p : PV} (he : PE X e (tC u)) (r : ∀ ι H, Rv X.K ι H u p) : PE X e (tE nm X.K fun _ M Q => Q p M) :=
  PE.of he fun σ H Q ⟨ι, ρ, M, Qp, s, hf, k⟩ => k p M hf ι H u .refl s.m (r ι H)
theorem q_var {i : Nat} {x : Str} (hN : X.N[i]? = some x) (hv : Vis X.env.scope x) (hd : (x == ("__debug__" : Str)) = false) (hcd : (x == ("__classdict__" : Str)) = false) :
    PE X (.Name x pos) (tE nm X.K fun ρ M Q => match ρ[i]? with
      | some (some v) => Q v M
      | _ => False) :=
  PE.of (pe_var hN hv hd hcd) fun σ H Q ⟨ι, ρ, M, Qp, s, hf, k⟩ => by
    cases e : ρ[i]? with
    | none => simp only [e] at hf
    | some o =>
      cases o with
      | none => simp only [e] at hf
      | some p =>
        simp only [e] at hf
        obtain ⟨v, h1, h2⟩ := s.r i p e
        exact ⟨v, h1, k p M hf ι H v .refl s.m h2⟩
/-- two operands, one after the other -/
theorem two_of {R : V → V → Hp → Prop} {Q2 : PV → PV → Mem → Prop} (s : Sim nm X.K ι H M σ ρ) (hf : fa ρ M fun x M1 => fb ρ M1 fun y M2 => Q2 x y M2)
    (h : ∀ ι2 H2 M2 x y px py, Ext ι H ι2 H2 → Rm nm X.K ι2 H2 M2 → Rv X.K ι2 H2 x px → Rv X.K ι2 H2 y py → Q2 px py M2 → R x y H2) :
    tE nm X.K fa σ H fun x H1 => tE nm X.K fb σ H1 fun y H2 => R x y H2 :=
  ⟨ι, ρ, M, _, s, hf, fun px M1 h1 ι1 H1 x e1 m1 r1 => ⟨ι1, ρ, M1, _, s.up e1 m1, h1, fun py M2 h2 ι2 H2 y e2 m2 r2 => h ι2 H2 M2 x y px py (e1.trans e2) m2 (r1.up e2) r2 h2⟩⟩
theorem q_op {op : Operator} {f : PV → PV → Mem → (PV → Prop) → Prop} (ho : OpR X (binaryOp op) (rOp nm X.K f)) (ha : PE X a (tE nm X.K fa)) (hb : PE X b (tE nm X.K fb)) :
    PE X (.BinOp a op b pos) (tE nm X.K fun ρ M Q => fa ρ M fun x M1 => fb ρ M1 fun y M2 => f x y M2 fun z => Q z M2) :=
  PE.of (pe_op ho ha hb) fun σ H Q ⟨ι, ρ, M, Qp, s, hf, k⟩ =>
    two_of s hf fun ι2 H2 M2 x y px py e2 m2 r1 r2 h2 => ⟨ι2, M2, px, py, _, m2, r1, r2, h2, fun p hp ι3 H3 v e3 m3 r3 => k p M2 hp ι3 H3 v (e2.trans e3) m3 r3⟩
theorem q_cmp {op : CmpOp} {f : PV → PV → Mem → (Bool → Prop) → Prop} (ho : OpR X (compareOp op) (rOp nm X.K fun x y M Q => f x y M fun b => Q (.bl b))) (ha : PE X a (tE nm X.K fa)) (hb : PE X b (tE nm X.K fb)) (hm : behindInMarks op b = false) :
    PE X (.Compare a [op] [b] pos) (tE nm X.K fun ρ M Q => fa ρ M fun x M1 => fb ρ M1 fun y M2 => f x y M2 fun z => Q (.bl z) M2) :=
  PE.of (pe_cmpR ho ha hb hm) fun σ H Q ⟨ι, ρ, M, Qp, s, hf, k⟩ =>
    two_of s hf fun ι2 H2 M2 x y px py e2 m2 r1 r2 h2 => ⟨ι2, M2, px, py, fun z => Qp z M2, m2, r1, r2, h2, fun p hp ι3 H3 v e3 m3 r3 => k p M2 hp ι3 H3 v (e2.trans e3) m3 r3⟩
/-- a test from a value that is a bool -/
def onBl (P : Bool → Prop) : PV → Prop
  | .bl z => P z
  | _ => False
theorem bl_case {K : PySem.W.Frag} {v : V} {p : PV} {P : Bool → Prop} (r : Rv K ι H v p) (h : onBl P p) : ∃ z, v = .bl z ∧ p = .bl z ∧ P z := by
  cases r <;> first
    | exact ⟨_, rfl, rfl, h⟩
    | exact False.elim h
theorem qt_cmp {op : CmpOp} {f : PV → PV → Mem → (Bool → Prop) → Prop} (ho : OpR X (compareOp op) (rOp nm X.K fun x y M Q => f x y M fun b => Q (.bl b))) (ha : PE X a (tE nm X.K fa)) (hb : PE X b (tE nm X.K fb)) (hm : behindInMarks op b = false) :
    PT X (.Compare a [op] [b] pos) (tT nm X.K fun ρ M Q => fa ρ M fun x M1 => fb ρ M1 fun y M2 => f x y M2 fun z => Q (.bl z) M2) :=
  PT.of (pt_cmpR ho ha hb hm) fun σ H Q ⟨ι, ρ, M, Qp, s, hf, k⟩ =>
    two_of s hf fun ι2 H2 M2 x y px py e2 m2 r1 r2 h2 => ⟨ι2, M2, px, py, onBl fun z => Qp (.bl z) M2, m2, r1, r2, h2, fun p hp ι3 H3 v e3 m3 r3 => by
      obtain ⟨z, rfl, rfl, hz⟩ := bl_case r3 hp
      obtain ⟨b, h1, h2⟩ := k _ M2 hz
      cases h1
      exact ⟨z, rfl, h2 ι3 H3 (e2.trans e3) m3⟩⟩
theorem chain_of {f g : PV → PV → Mem → (Bool → Prop) → Prop} {Qp : Kt} {Q : VK} (s : Sim nm X.K ι H M σ ρ)
    (hf : fa ρ M fun x M1 => fb ρ M1 fun y M2 => f x y M2 fun z => match z with
      | true => fc ρ M2 fun w M3 => g y w M3 fun z => Qp (.bl z) M3
      | false => Qp (.bl false) M2) (k : ∀ z M', Qp (.bl z) M' → ∀ ι' H', Ext ι H ι' H' → Rm nm X.K ι' H' M' → Q (.bl z) H') :
    tChain (rOp nm X.K fun x y M Q => f x y M fun b => Q (.bl b)) (rOp nm X.K fun x y M Q => g x y M fun b => Q (.bl b)) (tE nm X.K fa) (tE nm X.K fb) (tE nm X.K fc) σ H Q :=
  two_of s hf fun ι2 H2 M2 x y px py e2 m2 r1 r2 h2 => ⟨ι2, M2, px, py, onBl fun z => match z with
      | true => fc ρ M2 fun w M3 => g py w M3 fun z => Qp (.bl z) M3
      | false => Qp (.bl false) M2, m2, r1, r2, h2, fun p hp ι3 H3 v e3 m3 r3 => by
    obtain ⟨z, rfl, rfl, hz⟩ := bl_case r3 hp
    refine ⟨z, rfl, ?_⟩
    cases z with
    | true =>
      rw [if_pos rfl]
      exact ⟨ι3, ρ, M2, _, s.up (e2.trans e3) m3, hz, fun pw M3 h3 ι4 H4 w' e4 m4 r4 => ⟨ι4, M3, py, pw, onBl fun z => Qp (.bl z) M3, m4, r2.up (e3.trans e4), r4, h3, fun p hp ι5 H5 v e5 m5 r5 => by
        obtain ⟨z, rfl, rfl, hz⟩ := bl_case r5 hp
        exact k z M3 hz ι5 H5 (e2.trans (e3.trans (e4.trans e5))) m5⟩⟩
    | false =>
      rw [if_neg Bool.false_ne_true]
      exact k false M2 hz ι3 H3 (e2.trans e3) m3⟩
theorem q_chn {op op' : CmpOp} {f g : PV → PV → Mem → (Bool → Prop) → Prop} (ho : OpR X (compareOp op) (rOp nm X.K fun x y M Q => f x y M fun b => Q (.bl b))) (ho' : OpR X (compareOp op') (rOp nm X.K fun x y M Q => g x y M fun b => Q (.bl b)))
    (ha : PE X a (tE nm X.K fa)) (hb : PE X b (tE nm X.K fb)) (hc : PE X c (tE nm X.K fc)) (hm : lastMarks [op, op'] [b, c] = false) :
    PE X (.Compare a [op, op'] [b, c] pos) (tE nm X.K fun ρ M Q => fa ρ M fun x M1 => fb ρ M1 fun y M2 => f x y M2 fun z => match z with
      | true => fc ρ M2 fun w M3 => g y w M3 fun z => Q (.bl z) M3
      | false => Q (.bl false) M2) :=
  PE.of (pe_chain ho ho' ha hb hc hm) fun σ H Q ⟨ι, ρ, M, Qp, s, hf, k⟩ => chain_of s hf fun z M' hz ι' H' e m => k _ M' hz ι' H' _ e m (.bl z)
theorem qt_chn {op op' : CmpOp} {f g : PV → PV → Mem → (Bool → Prop) → Prop} (ho : OpR X (compareOp op) (rOp nm X.K fun x y M Q => f x y M fun b => Q (.bl b))) (ho' : OpR X (compareOp op') (rOp nm X.K fun x y M Q => g x y M fun b => Q (.bl b)))
    (ha : PE X a (tE nm X.K fa)) (hb : PE X b (tE nm X.K fb)) (hc : PE X c (tE nm X.K fc)) (hm : lastMarks [op, op'] [b, c] = false) :
    PT X (.Compare a [op, op'] [b, c] pos) (tT nm X.K fun ρ M Q => fa ρ M fun x M1 => fb ρ M1 fun y M2 => f x y M2 fun z => match z with
      | true => fc ρ M2 fun w M3 => g y w M3 fun z => Q (.bl z) M3
      | false => Q (.bl false) M2) :=
  PT.of (pt_chain ho ho' ha hb hc hm) fun σ H Q ⟨ι, ρ, M, Qp, s, hf, k⟩ => chain_of (Q := fun x H' => ∃ k, x = .bl k ∧ Q k H') s hf fun z M' hz ι' H' e m => by
    obtain ⟨b, h1, h2⟩ := k _ M' hz
    cases h1
    exact ⟨z, rfl, h2 ι' H' e m⟩
/-- truth -/
theorem truthy_v {K : PySem.W.Frag} {v : V} {p : PV} {k : Bool} (r : Rv K ι H v p) (h : truthy M p = some k) : TruV K v H k := by
  cases r with
  | non => cases h; rfl
  | bl b => cases h; rfl
  | int i => cases h; rfl
  | str s => cases h
  | @tup a xs ps h1 h2 =>
    cases h
    refine .inr (.inl ⟨xs, h1, ?_⟩)
    cases h2 <;> rfl
  | @lst a o xs ps h1 h2 =>
    cases h
    refine .inl ⟨xs, .inl (.inr ⟨o, h1⟩), ?_⟩
    cases h2 <;> rfl
  | dct _ _ _ _ => cases h
  | dcd _ _ _ _ _ _ _ _ _ => cases h
  | ref _ => cases h
  | scr _ => cases h
theorem qt_plain (ha : PE X a (tE nm X.K fa)) (he : ∀ whole, isTrue a X.env whole = (do let v ← whole; standAt a.pos; holding [v] (PySem.truthy v))) : PT X a (tT nm X.K fa) :=
  PT.of (pt_truth ha he) fun σ H Q ⟨ι, ρ, M, Qp, s, hf, k⟩ => ⟨ι, ρ, M, Qp, s, hf, fun p M' hp ι' H' v e m r => by
    obtain ⟨b, h1, h2⟩ := k p M' hp
    exact ⟨b, truthy_v r h1, h2 ι' H' e m⟩⟩
/-! ### and, or, not, if-else -/
theorem q_not (ha : PE X a (tE nm X.K fa)) : PE X (.UnaryOp .Not a pos) (tE nm X.K fun ρ M Q => fa ρ M fun x M1 => match truthy M1 x with
    | some b => Q (.bl (!b)) M1
    | none => False) :=
  PE.of (pe_notT ha) fun σ H Q ⟨ι, ρ, M, Qp, s, hf, k⟩ => ⟨ι, ρ, M, _, s, hf, fun p M1 hp ι' H' v e m r => by
    cases h : truthy M1 p with
    | none => simp only [h] at hp
    | some b =>
      simp only [h] at hp
      exact ⟨b, truthy_v r h, k _ M1 hp ι' H' _ e m (.bl _)⟩⟩
theorem qt_not (ha : PT X a (tT nm X.K fa)) : PT X (.UnaryOp .Not a pos) (tT nm X.K fun ρ M Q => fa ρ M fun x M1 => match truthy M1 x with
    | some b => Q (.bl (!b)) M1
    | none => False) :=
  PT.of (pt_not ha) fun σ H Q ⟨ι, ρ, M, Qp, s, hf, k⟩ => ⟨ι, ρ, M, _, s, hf, fun p M1 hp => by
    cases h : truthy M1 p with
    | none => simp only [h] at hp
    | some b =>
      simp only [h] at hp
      obtain ⟨b', h1, h2⟩ := k _ M1 hp
      cases h1
      exact ⟨b, rfl, h2⟩⟩
variable {rest : List Expr}
abbrev fAnd (fa fb : FE) : FE := fun ρ M Q => fa ρ M fun x M1 => match truthy M1 x with
  | some true => fb ρ M1 Q
  | some false => Q x M1
  | none => False
abbrev fOr (fa fb : FE) : FE := fun ρ M Q => fa ρ M fun x M1 => match truthy M1 x with
  | some true => Q x M1
  | some false => fb ρ M1 Q
  | none => False
theorem q_and (ha : PE X a (tE nm X.K fa)) (hb : PE X (.BoolOp .And (b :: rest) pos) (tE nm X.K fb)) : PE X (.BoolOp .And (a :: b :: rest) pos) (tE nm X.K (fAnd fa fb)) :=
  PE.of (pe_andT ha hb) fun σ H Q ⟨ι, ρ, M, Qp, s, hf, k⟩ => ⟨ι, ρ, M, _, s, hf, fun p M1 hp ι' H' v e m r => by
    cases h : truthy M1 p with
    | none => simp only [h] at hp
    | some b =>
      simp only [h] at hp
      refine ⟨b, truthy_v r h, ?_⟩
      cases b with
      | true =>
        rw [if_pos rfl]
        exact ⟨ι', ρ, M1, _, s.up e m, hp, fun p2 M2 h2 ι2 H2 v2 e2 m2 r2 => k p2 M2 h2 ι2 H2 v2 (e.trans e2) m2 r2⟩
      | false =>
        rw [if_neg Bool.false_ne_true]
        exact k p M1 hp ι' H' v e m r⟩
theorem q_or (ha : PE X a (tE nm X.K fa)) (hb : PE X (.BoolOp .Or (b :: rest) pos) (tE nm X.K fb)) : PE X (.BoolOp .Or (a :: b :: rest) pos) (tE nm X.K (fOr fa fb)) :=
  PE.of (pe_orT ha hb) fun σ H Q ⟨ι, ρ, M, Qp, s, hf, k⟩ => ⟨ι, ρ, M, _, s, hf, fun p M1 hp ι' H' v e m r => by
    cases h : truthy M1 p with
    | none => simp only [h] at hp
    | some b =>
      simp only [h] at hp
      refine ⟨b, truthy_v r h, ?_⟩
      cases b with
      | false =>
        rw [if_neg Bool.false_ne_true]
        exact ⟨ι', ρ, M1, _, s.up e m, hp, fun p2 M2 h2 ι2 H2 v2 e2 m2 r2 => k p2 M2 h2 ι2 H2 v2 (e.trans e2) m2 r2⟩
      | true =>
        rw [if_pos rfl]
        exact k p M1 hp ι' H' v e m r⟩
theorem qw_and (ha : PT X a (tT nm X.K fa)) (hb : PW X (.BoolOp .And (b :: rest) pos) (tT nm X.K fb)) : PW X (.BoolOp .And (a :: b :: rest) pos) (tT nm X.K (fAnd fa fb)) :=
  PW.of (pw_and ha hb) fun σ H Q ⟨ι, ρ, M, Qp, s, hf, k⟩ => ⟨ι, ρ, M, _, s, hf, fun p M1 hp => by
    cases h : truthy M1 p with
    | none => simp only [h] at hp
    | some b =>
      simp only [h] at hp
      refine ⟨b, rfl, fun ι' H' e m => ?_⟩
      cases b with
      | true =>
        rw [if_pos rfl]
        exact ⟨ι', ρ, M1, _, s.up e m, hp, fun p2 M2 h2 => let ⟨b', g1, g2⟩ := k p2 M2 h2; ⟨b', g1, fun ι2 H2 e2 m2 => g2 ι2 H2 (e.trans e2) m2⟩⟩
      | false =>
        rw [if_neg Bool.false_ne_true]
        obtain ⟨b', g1, g2⟩ := k p M1 hp
        rw [h] at g1
        cases g1
        exact g2 ι' H' e m⟩
theorem qw_or (ha : PT X a (tT nm X.K fa)) (hb : PW X (.BoolOp .Or (b :: rest) pos) (tT nm X.K fb)) : PW X (.BoolOp .Or (a :: b :: rest) pos) (tT nm X.K (fOr fa fb)) :=
  PW.of (pw_or ha hb) fun σ H Q ⟨ι, ρ, M, Qp, s, hf, k⟩ => ⟨ι, ρ, M, _, s, hf, fun p M1 hp => by
    cases h : truthy M1 p with
    | none => simp only [h] at hp
    | some b =>
      simp only [h] at hp
      refine ⟨b, rfl, fun ι' H' e m => ?_⟩
      cases b with
      | false =>
        rw [if_neg Bool.false_ne_true]
        exact ⟨ι', ρ, M1, _, s.up e m, hp, fun p2 M2 h2 => let ⟨b', g1, g2⟩ := k p2 M2 h2; ⟨b', g1, fun ι2 H2 e2 m2 => g2 ι2 H2 (e.trans e2) m2⟩⟩
      | true =>
        rw [if_pos rfl]
        obtain ⟨b', g1, g2⟩ := k p M1 hp
        rw [h] at g1
        cases g1
        exact g2 ι' H' e m⟩
abbrev fIte (fc fa fb : FE) : FE := fun ρ M Q => fc ρ M fun x M1 => match truthy M1 x with
  | some true => fa ρ M1 Q
  | some false => fb ρ M1 Q
  | none => False
theorem q_ite (hc : PT X c (tT nm X.K fc)) (ha : PE X a (tE nm X.K fa)) (hb : PE X b (tE nm X.K fb)) : PE X (.IfExp c a b pos) (tE nm X.K (fIte fc fa fb)) :=
  PE.of (pe_ifExp hc ha hb) fun σ H Q ⟨ι, ρ, M, Qp, s, hf, k⟩ => ⟨ι, ρ, M, _, s, hf, fun p M1 hp => by
    cases h : truthy M1 p with
    | none => simp only [h] at hp
    | some b =>
      simp only [h] at hp
      refine ⟨b, rfl, fun ι' H' e m => ?_⟩
      cases b with
      | true =>
        rw [if_pos rfl]
        exact ⟨ι', ρ, M1, _, s.up e m, hp, fun p2 M2 h2 ι2 H2 v2 e2 m2 r2 => k p2 M2 h2 ι2 H2 v2 (e.trans e2) m2 r2⟩
      | false =>
        rw [if_neg Bool.false_ne_true]
        exact ⟨ι', ρ, M1, _, s.up e m, hp, fun p2 M2 h2 ι2 H2 v2 e2 m2 r2 => k p2 M2 h2 ι2 H2 v2 (e.trans e2) m2 r2⟩⟩
theorem pt_ifx {tc ta tb : TT} (hc : PT X c tc) (ha : PT X a ta) (hb : PT X b tb) : PT X (.IfExp c a b pos) (fun σ H Q => tc σ H fun z H1 => if z = true then ta σ H1 Q else tb σ H1 Q) := by
  refine ⟨fun pins s σ H Q I h => ?_⟩
  refine isTrue_IfExp (thn (hc.run pins s σ H _ I h) fun z s1 ⟨H1, I1, q1⟩ => ?_)
  cases z with
  | true => exact ha.run pins s1 σ H1 Q I1 q1
  | false => exact hb.run pins s1 σ H1 Q I1 q1
theorem qt_ite (hc : PT X c (tT nm X.K fc)) (ha : PT X a (tT nm X.K fa)) (hb : PT X b (tT nm X.K fb)) : PT X (.IfExp c a b pos) (tT nm X.K (fIte fc fa fb)) :=
  PT.of (pt_ifx hc ha hb) fun σ H Q ⟨ι, ρ, M, Qp, s, hf, k⟩ => ⟨ι, ρ, M, _, s, hf, fun p M1 hp => by
    cases h : truthy M1 p with
    | none => simp only [h] at hp
    | some b =>
      simp only [h] at hp
      refine ⟨b, rfl, fun ι' H' e m => ?_⟩
      cases b with
      | true =>
        rw [if_pos rfl]
        exact ⟨ι', ρ, M1, _, s.up e m, hp, fun p2 M2 h2 => let ⟨b', g1, g2⟩ := k p2 M2 h2; ⟨b', g1, fun ι2 H2 e2 m2 => g2 ι2 H2 (e.trans e2) m2⟩⟩
      | false =>
        rw [if_neg Bool.false_ne_true]
        exact ⟨ι', ρ, M1, _, s.up e m, hp, fun p2 M2 h2 => let ⟨b', g1, g2⟩ := k p2 M2 h2; ⟨b', g1, fun ι2 H2 e2 m2 => g2 ι2 H2 (e.trans e2) m2⟩⟩⟩
theorem q_neg (ha : PE X a (tE nm X.K fa)) : PE X (.UnaryOp .USub a pos) (tE nm X.K fun ρ M Q => fa ρ M fun x M1 => match x with
    | .int i => Q (.int (-i)) M1
    | _ => False) :=
  PE.of (pe_un un_neg ha) fun σ H Q ⟨ι, ρ, M, Qp, s, hf, k⟩ => ⟨ι, ρ, M, _, s, hf, fun p M1 hp ι' H' v e m r => by
    cases r <;> first
      | exact ⟨_, rfl, k _ M1 hp ι' H' _ e m (.int _)⟩
      | exact False.elim hp⟩
/-! ### arguments, displays -/
variable {es : List Expr} {fs : FA} {kk : Nat}
theorem q_nil : PA X [] (tL nm X.K fun _ M Q => Q [] M) := PA.of pa_nil fun σ H Q ⟨ι, ρ, M, Qp, s, hf, k⟩ => k [] M hf ι H [] .refl s.m .nil
abbrev fCons (fa : FE) (fs : FA) : FA := fun ρ M Q => fa ρ M fun x M1 => fs ρ M1 fun xs M2 => Q (x :: xs) M2
theorem q_cons (ha : PE X e (tE nm X.K fa)) (hr : PA X es (tL nm X.K fs)) (hs : starEach (e :: es) X.env = (false, eval e X.env) :: starEach es X.env) : PA X (e :: es) (tL nm X.K (fCons fa fs)) :=
  PA.of (pa_cons ha hr hs) fun σ H Q ⟨ι, ρ, M, Qp, s, hf, k⟩ => ⟨ι, ρ, M, _, s, hf, fun p M1 hp ι1 H1 v e1 m1 r1 =>
    ⟨ι1, ρ, M1, _, s.up e1 m1, hp, fun ps M2 h2 ι2 H2 vs e2 m2 r2 => k _ M2 h2 ι2 H2 _ (e1.trans e2) m2 (.cons (r1.up e2) r2)⟩⟩
theorem q_tp (h : PA X es (tL nm X.K fs)) : PE X (.Tuple es kk pos) (tE nm X.K fun ρ M Q => fs ρ M fun vs M1 => vs.length ≤ LL ∧ Q (.tup vs) M1) :=
  PE.of (pe_tup h) fun σ H Q ⟨ι, ρ, M, Qp, s, hf, k⟩ => ⟨ι, ρ, M, _, s, hf, fun ps M1 ⟨hz, hp⟩ ι1 H1 vs e1 m1 r1 => ⟨by rw [r1.length, ← ll_eq]; exact hz, fun p hn =>
    k _ M1 hp ι1 _ _ (e1.trans (Ext.upd_new hn)) (m1.new hn) (.tup (SqT.of upd_same) (r1.up (Ext.upd_new hn)))⟩⟩
/-- what is new and may change is locked -/
theorem PE.lock {t : TE} (h : PE X e t) : PE X e (fun σ H Q => t σ H fun v H' => ∃ p u, v = .ref p ∧ H' p = some u ∧ Mut (some u) ∧ ∀ od, Q v (upd H' p (.frz od u))) := by
  refine ⟨fun pins s σ H Q I q => thn (h.run pins s σ H _ I q) fun v s1 ⟨x, H1, I1, r, p, u, ex, hu, mu, k⟩ => ?_⟩
  obtain ⟨od, J⟩ := I1.lock hu mu
  exact ⟨x, _, J, r, k od⟩
theorem q_ls (h : PA X es (tL nm X.K fs)) : PE X (.List es pos) (tE nm X.K fun ρ M Q => fs ρ M fun vs M1 => vs.length ≤ LL ∧ Q (.lst vs) M1) :=
  PE.of (PE.lock (pe_lst h)) fun σ H Q ⟨ι, ρ, M, Qp, s, hf, k⟩ => ⟨ι, ρ, M, _, s, hf, fun ps M1 ⟨hz, hp⟩ ι1 H1 vs e1 m1 r1 => ⟨by rw [r1.length, ← ll_eq]; exact hz, fun p hn =>
    ⟨p, _, rfl, upd_same, trivial, fun od => by
      rw [upd_upd]
      exact k _ M1 hp ι1 _ _ (e1.trans (Ext.upd_new hn)) (m1.new hn) (.lst upd_same (r1.up (Ext.upd_new hn)))⟩⟩⟩
theorem rvs_rep {K : PySem.W.Frag} {ι : List Addr} {H : Hp} {vs : List V} {ps : List PV} (r : Rvs K ι H vs ps) : ∀ n : Nat, Rvs K ι H (List.replicate n vs).flatten (List.replicate n ps).flatten
  | 0 => .nil
  | n + 1 => by
    rw [List.replicate_succ, List.replicate_succ, List.flatten_cons, List.flatten_cons]
    exact r.append (rvs_rep r n)
/-- [e, ..] * n -/
theorem q_rp {n j : Nat} {cp lp : Pos} (hn : n < 1000000) (h : PA X es (tL nm X.K fs)) : PE X (.BinOp (.List es lp) .Mult (.Constant (.int (n : Int)) j cp) pos) (tE nm X.K fun ρ M Q => fs ρ M fun vs M1 => (vs.length ≤ LL ∧ vs.length * n ≤ LL) ∧ Q (.lst (List.replicate n vs).flatten) M1) :=
  PE.of (PE.lock (pe_op op_rep (pe_lst h) pe_int)) fun σ H Q ⟨ι, ρ, M, Qp, s, hf, k⟩ => ⟨ι, ρ, M, _, s, hf, fun ps M1 ⟨hz, hp⟩ ι1 H1 vs e1 m1 r1 => ⟨by rw [r1.length, ← ll_eq]; exact hz.1, fun p hn1 =>
    ⟨p, (n : Int), vs, rfl, rfl, upd_same, by omega, by omega, by rw [r1.length, ← ll_eq, Int.toNat_natCast]; exact hz.2, fun p2 hn2 => ⟨p2, _, rfl, upd_same, trivial, fun od => by
      rw [upd_upd, Int.toNat_natCast]
      have x1 : Ext ι1 H1 ι1 (upd H1 p (.lst vs)) := .upd_new hn1
      exact k _ M1 hp ι1 _ _ (e1.trans (x1.trans (Ext.upd_new hn2))) ((m1.new hn1).new hn2) (.lst upd_same (rvs_rep (r1.up (x1.trans (Ext.upd_new hn2))) n))⟩⟩⟩⟩
theorem q_lm (h : PA X es (tL nm X.K fs)) : PE X (.List es pos) (tE nm X.K fun ρ M Q => fs ρ M fun vs M1 => vs.length ≤ LL ∧ Q (.ref M1.length) (M1 ++ [.lst vs])) :=
  PE.of (pe_lst h) fun σ H Q ⟨ι, ρ, M, Qp, s, hf, k⟩ => ⟨ι, ρ, M, _, s, hf, fun ps M1 ⟨hz, hp⟩ ι1 H1 vs e1 m1 r1 => ⟨by rw [r1.length, ← ll_eq]; exact hz, fun p hn => by
    have hx : Ext ι1 H1 (ι1 ++ [p]) (upd H1 p (.lst vs)) := .app_new hn
    exact k _ _ hp (ι1 ++ [p]) _ _ (e1.trans hx) (m1.alloc hn ⟨vs, upd_same, r1.up hx⟩) (.ref (by rw [← m1.len]; simp))⟩⟩
end
end Qt
/-! ### calls, subscripts, fields, loops, statements as readings -/
namespace Qt
open PySem PySem.Spec PyProof.Rows L2
/-- an exception: its class, its dict -/
def XR (nm : Nm) (K : PySem.W.Frag) (ι : List Addr) (H : Hp) (c : Nat) (fs : List (Nat × PV)) (cls : Value) (d : Option Addr) : Prop := cls = .ref (nm.exc c) ∧ fs = [] ∧ d = none
def KxM (nm : Nm) (K : PySem.W.Frag) (ι : List Addr) (H : Hp) (Xp : Xt) (E : XK) : Prop := ∀ c fs M', Xp c fs M' → ∀ ι' H' cls d, Ext ι H ι' H' → Rm nm K ι' H' M' → XR nm K ι' H' c fs cls d → E cls d H'
/-- what a call of the def f promises, what it may raise too -/
def spX (nm : Nm) (K : PySem.W.Frag) (c : CE) (f : Nat) : Sp := fun vs H Q E => ∃ ι M ps Qp Xp, Rm nm K ι H M ∧ Rvs K ι H vs ps ∧ c f ps M Qp Xp ∧ KpM nm K ι H Qp Q ∧ KxM nm K ι H Xp E
/-- what a call of the def f promises -/
def spW (nm : Nm) (K : PySem.W.Frag) (c : CE) (f : Nat) : Sp := fun vs H Q _ => ∃ ι M ps Qp, Rm nm K ι H M ∧ Rvs K ι H vs ps ∧ c f ps M Qp X0 ∧ KpM nm K ι H Qp Q
/-- what a call of a method with a star parameter promises: the rest is a new tuple -/
def spR (sp : Sp) : Sp := fun vs H Q E => ∃ v rest, vs = v :: rest ∧ rest.length ≤ sizeLine ∧ ∀ p, H p = Option.none → sp [v, .ref p] (upd H p (.tup rest)) Q E
def spV (nm : Nm) (K : PySem.W.Frag) (c : CE) (f : Nat) : Sp := spR (spW nm K c f)
/-- nothing raised -/
theorem fn_of_X {P : Program} {w : World} {K : PySem.W.Frag} {mg : Str → Option Value} {base : Heap} {k : Nat} {f : Addr} {fd : FuncData} {ps : List Str} {nm : Nm} {c : CE} {id : Nat} (F : FnOk P w K mg base (L2.CX P w) k f fd ps (spX nm K c id)) : FnOk P w K mg base CX0 k f fd ps (spW nm K c id) where
  len := fun vs H Q E ⟨ι, M, ps', Qp, m, r, h, kk⟩ => F.len vs H Q E0 ⟨ι, M, ps', Qp, X0, m, r, h, kk, fun _ _ _ z => z.elim⟩
  run := fun A outer s H args us vs Q E hr he hb hv ⟨ι, M, ps', Qp, m, r, h, kk⟩ => codeAny_mono (F.run A outer s H args us vs Q E0 hr he hb hv ⟨ι, M, ps', Qp, X0, m, r, h, kk, fun _ _ _ z => z.elim⟩) fun r s' q => by
    cases r with
    | error e =>
      obtain ⟨_, _, _, _, _, _, _, _, _, _, _, _, z⟩ := (show L2.CX P w outer H s E0 e s' from q)
      exact z.elim
    | ok fl => cases fl <;> exact q
section
variable {X : Cx} {nm : Nm} {ι ι' : List Addr} {H H' : Hp} {M M' : Mem} {σ : L2.St} {ρ : Rho} {a b e o : Expr} {es : List Expr} {pos p apos : Pos} {fa fb fc : FE} {fs : FA} {c : CE}
theorem q_bi {x : Str} {id : String} {k : Bi} (hc : CallR X (.builtin id) (rBi nm X.K k)) (hg : Gl X x) (hm : X.mg x = none) (hv : bootBuiltins x = some (.builtin id)) (ha : PA X (e :: es) (tL nm X.K fs)) (hn : x ≠ "__name__") (hdb : (x == ("__debug__" : Str)) = false)
    (he : starEach (e :: es) X.env = (false, eval e X.env) :: starEach es X.env) (hpl : (backTo pos (starEach es X.env)).any (·.1) = false) :
    PE X (.Call (.Name x p) (e :: es) [] pos) (tE nm X.K fun ρ M Q => fs ρ M fun vs M1 => biW k vs M1 fun z => Q z M1) :=
  PE.of (pe_callB hc hg hm hv ha hn hdb he hpl) fun σ H Q ⟨ι, ρ, M, Qp, s, hf, k⟩ => ⟨ι, ρ, M, _, s, hf, fun ps M1 hp ι1 H1 vs e1 m1 r1 =>
    ⟨ι1, M1, ps, _, m1, r1, hp, fun p hp ι2 H2 v e2 m2 r2 => k p M1 hp ι2 H2 v (e1.trans e2) m2 r2⟩⟩
theorem q_bty {x : Str} {T : String} {k : Bi} (hc : CallR X (.type T) (rBi nm X.K k)) (hg : Gl X x) (hm : X.mg x = none) (hv : bootBuiltins x = some (.type T)) (ha : PA X (e :: es) (tL nm X.K fs)) (hn : x ≠ "__name__") (hdb : (x == ("__debug__" : Str)) = false)
    (he : starEach (e :: es) X.env = (false, eval e X.env) :: starEach es X.env) (hpl : (backTo pos (starEach es X.env)).any (·.1) = false) :
    PE X (.Call (.Name x p) (e :: es) [] pos) (tE nm X.K fun ρ M Q => fs ρ M fun vs M1 => biW k vs M1 fun z => Q z M1) :=
  PE.of (pe_callTy hc hg hm hv ha hn hdb he hpl) fun σ H Q ⟨ι, ρ, M, Qp, s, hf, k⟩ => ⟨ι, ρ, M, _, s, hf, fun ps M1 hp ι1 H1 vs e1 m1 r1 =>
    ⟨ι1, M1, ps, _, m1, r1, hp, fun p hp ι2 H2 v e2 m2 r2 => k p M1 hp ι2 H2 v (e1.trans e2) m2 r2⟩⟩
/-- isinstance(e, T) -/
theorem q_isi {t : Ty} {p2 : Pos} {x : Str} (hx : x = Str.ofString (tyS t)) (hg : Gl X "isinstance") (hm : X.mg "isinstance" = none) (hg2 : Gl X x) (hm2 : X.mg x = none) (hv2 : bootBuiltins x = some (.type (tyS t))) (hn2 : x ≠ "__name__") (hdb2 : (x == ("__debug__" : Str)) = false)
    (ha : PE X e (tE nm X.K fa)) (hs : starEach [e, .Name x p2] X.env = (false, eval e X.env) :: starEach [.Name x p2] X.env) :
    PE X (.Call (.Name "isinstance" p) [e, .Name x p2] [] pos) (tE nm X.K fun ρ M Q => (fCons fa fun _ M Q => Q [] M) ρ M fun vs M1 => biW (.isi t) vs M1 fun z => Q z M1) :=
  PE.of (pe_callB (b_isi (nm := nm) t) hg hm (by decide +kernel) (pa_cons ha (pa_cons (pe_bltn (v := .ty (tyS t)) hg2 hm2 hv2 rfl hn2 hdb2) pa_nil) hs) (by decide) (by decide) hs rfl) fun σ H Q ⟨ι, ρ, M, Qp, s, hf, k⟩ =>
    ⟨ι, ρ, M, _, s, hf, fun px M1 hp ι1 H1 v e1 m1 r1 => ⟨v, rfl, ι1, M1, [px], _, m1, .cons r1 .nil, hp, fun p hp ι2 H2 v e2 m2 r2 => k p M1 hp ι2 H2 v (e1.trans e2) m2 r2⟩⟩
/-! ### calls of defs -/
variable {k : Nat} {f C : Addr} {fd : FuncData} {ps : List Str} {id : Nat} {x : Str}
theorem q_call (F : FnOk X.prog X.w X.K X.mg X.base CX0 k f fd ps (spW nm X.K c id)) (hr : Room k X.A) (hg : Gl X x) (hm : X.mg x = some (.ref f)) (hk : PySem.W.keepIn X.K (.ref f) = true) (hb : Binds X.K fd ps [])
    (ha : PA X (e :: es) (tL nm X.K fs)) (hdb : (x == ("__debug__" : Str)) = false) (he : starEach (e :: es) X.env = (false, eval e X.env) :: starEach es X.env) (hpl : (backTo pos (starEach es X.env)).any (·.1) = false) :
    PE X (.Call (.Name x p) (e :: es) [] pos) (tE nm X.K fun ρ M Q => fs ρ M fun vs M1 => c id vs M1 Q X0) :=
  PE.of (pe_call F hr hg hm hk hb .nil pass0 ha hdb he hpl) fun σ H Q ⟨ι, ρ, M, Qp, s, hf, k⟩ => ⟨ι, ρ, M, _, s, hf, fun ps' M1 hp ι1 H1 vs e1 m1 r1 => by
    show spW nm X.K c id (vs ++ []) H1 Q E0
    rw [List.append_nil]
    exact ⟨ι1, M1, ps', Qp, m1, r1, hp, fun p M2 h2 ι2 H2 v e2 m2 r2 => k p M2 h2 ι2 H2 v (e1.trans e2) m2 r2⟩⟩
theorem q_call0 (F : FnOk X.prog X.w X.K X.mg X.base CX0 k f fd ps (spW nm X.K c id)) (hr : Room k X.A) (hg : Gl X x) (hm : X.mg x = some (.ref f)) (hk : PySem.W.keepIn X.K (.ref f) = true) (hb : Binds X.K fd ps [])
    (hdb : (x == ("__debug__" : Str)) = false) : PE X (.Call (.Name x p) [] [] pos) (tE nm X.K fun _ M Q => c id [] M Q X0) :=
  PE.of (pe_call0 F hr hg hm hk hb .nil pass0 hdb) fun σ H Q ⟨ι, ρ, M, Qp, s, hf, k⟩ => ⟨ι, M, [], Qp, s.m, .nil, hf, k⟩
/-- the new instance, laid -/
theorem made_at {x dx : Addr} {cid : Nat} (m : Rm nm X.K ι H M) (hx : H x = none) (hdx : H dx = none) (hne : dx ≠ x) :
    Ext ι H (ι ++ [x]) (upd (upd H dx (.own x)) x (.ins (nm.cls cid) dx [])) ∧ Rm nm X.K (ι ++ [x]) (upd (upd H dx (.own x)) x (.ins (nm.cls cid) dx [])) (M ++ [.ins cid []]) := by
  have m1 : Rm nm X.K ι (upd H dx (.own x)) M := m.new hdx
  have hx1 : upd H dx (.own x) x = none := by rw [upd_ne (Ne.symm hne)]; exact hx
  refine ⟨?_, m1.alloc hx1 ⟨dx, [], upd_same, trivial⟩⟩
  exact (Ext.upd_new (ι := ι) (o := HO.own x) hdx).trans (.app_new hx1)
theorem q_mk {cid : Nat} (Mk1 : Mk X.K (nm.cls cid) f) (F : FnOk X.prog X.w X.K X.mg X.base CX0 k f fd ps (spW nm X.K c id)) (hr : Room (k + 1) X.A) (hg : Gl X x) (hm : X.mg x = some (.ref (nm.cls cid))) (hb : Binds X.K fd ps [])
    (ha : PA X (e :: es) (tL nm X.K fs)) (hdb : (x == ("__debug__" : Str)) = false) (he : starEach (e :: es) X.env = (false, eval e X.env) :: starEach es X.env) (hpl : (backTo pos (starEach es X.env)).any (·.1) = false) :
    PE X (.Call (.Name x p) (e :: es) [] pos) (tE nm X.K fun ρ M Q => fs ρ M fun vs M1 => c id (.ref M1.length :: vs) (M1 ++ [.ins cid []]) (fun v M2 => match v with
      | .non => Q (.ref M1.length) M2
      | _ => False) X0) :=
  PE.of (pe_make Mk1 F hr hg hm hb .nil pass0 ha hdb he hpl) fun σ H Q ⟨ι, ρ, M, Qp, s, hf, k⟩ => ⟨ι, ρ, M, _, s, hf, fun ps' M1 hp ι1 H1 vs e1 m1 r1 y dy hy hdy hne => by
    show spW nm X.K c id (V.ref y :: (vs ++ [])) (upd (upd H1 dy (.own y)) y (.ins (nm.cls cid) dy [])) (fun v H2 => v = .non ∧ Q (.ref y) H2) E0
    rw [List.append_nil]
    obtain ⟨x1, m2⟩ := made_at (cid := cid) m1 hy hdy hne
    have hy' : (ι1 ++ [y])[M1.length]? = some y := by rw [← m1.len]; simp
    refine ⟨_, _, _ :: ps', _, m2, .cons (.ref hy') (r1.up x1), hp, fun p M2 h2 ι2 H2 v e2 m3 r2 => ?_⟩
    cases r2 <;> first
      | exact ⟨rfl, k _ M2 h2 ι2 H2 _ (e1.trans (x1.trans e2)) m3 (.ref (e2.ix _ _ hy'))⟩
      | exact False.elim h2⟩
theorem q_mk0 {cid : Nat} (Mk1 : Mk X.K (nm.cls cid) f) (F : FnOk X.prog X.w X.K X.mg X.base CX0 k f fd ps (spW nm X.K c id)) (hr : Room (k + 1) X.A) (hg : Gl X x) (hm : X.mg x = some (.ref (nm.cls cid))) (hb : Binds X.K fd ps [])
    (hdb : (x == ("__debug__" : Str)) = false) :
    PE X (.Call (.Name x p) [] [] pos) (tE nm X.K fun ρ M Q => c id [.ref M.length] (M ++ [.ins cid []]) (fun v M2 => match v with
      | .non => Q (.ref M.length) M2
      | _ => False) X0) :=
  PE.of (pe_make0 Mk1 F hr hg hm hb .nil pass0 hdb) fun σ H Q ⟨ι, ρ, M, Qp, s, hf, k⟩ y dy hy hdy hne => by
    obtain ⟨x1, m2⟩ := made_at (cid := cid) s.m hy hdy hne
    have hy' : (ι ++ [y])[M.length]? = some y := by rw [← s.m.len]; simp
    refine ⟨_, _, [_], _, m2, .cons (.ref hy') .nil, hf, fun p M2 h2 ι2 H2 v e2 m3 r2 => ?_⟩
    cases r2 <;> first
      | exact ⟨rfl, k _ M2 h2 ι2 H2 _ (x1.trans e2) m3 (.ref (e2.ix _ _ hy'))⟩
      | exact False.elim h2
/-! ### fields -/
theorem ref_ins {n cid : Nat} {fs : List (Nat × PV)} {v : V} (m : Rm nm X.K ι H M) (r : Rv X.K ι H v (.ref n)) (h : M[n]? = some (MO.ins cid fs)) : ∃ a dx gs, v = .ref a ∧ ι[n]? = some a ∧ H a = some (.ins (nm.cls cid) dx gs) ∧ Rf nm X.K ι H gs fs := by
  cases r with | @ref a _ h1 =>
  obtain ⟨dx, gs, h2, h3⟩ := m.at_ n a _ h1 h
  exact ⟨a, dx, gs, rfl, h1, h2, h3⟩
/-- hC: every class that the memory may bear has plain reads and no such name of its own -/
theorem q_fld {fi : Nat} (hC : ∀ cid, Cls X.K (nm.cls cid) ∧ NoAttr X.K (nm.cls cid) (nm.fld fi)) (ho : PE X o (tE nm X.K fa)) (hb : attributeBase o (nm.fld fi) X.env (eval o X.env) = eval o X.env) :
    PE X (.Attribute o (nm.fld fi) pos) (tE nm X.K fun ρ M Q => fa ρ M fun x M1 => match x with
      | .ref n => (match M1[n]? with
        | some (.ins _ fs) => (match fldGet fs fi with
          | some v => Q v M1
          | none => False)
        | _ => False)
      | _ => False) :=
  PE.of (pe_fld ho hb) fun σ H Q ⟨ι, ρ, M, Qp, s, hf, k⟩ => ⟨ι, ρ, M, _, s, hf, fun px M1 hp ι1 H1 v e1 m1 r1 => by
    cases px with
    | ref n =>
      simp only at hp
      cases e : M1[n]? with
      | none => simp only [e] at hp
      | some ob =>
        cases ob with
        | ins cid fs =>
          simp only [e] at hp
          cases e2 : fldGet fs fi with
          | none => simp only [e2] at hp
          | some y =>
            simp only [e2] at hp
            obtain ⟨a, dx, gs, rfl, h1, h2, h3⟩ := ref_ins m1 r1 e
            obtain ⟨w, h4, h5⟩ := h3.get e2
            exact ⟨a, _, dx, gs, w, rfl, h2, (hC cid).1, (hC cid).2, h4, k _ M1 hp ι1 H1 w e1 m1 h5⟩
        | _ => simp only [e] at hp
    | _ => exact False.elim hp⟩
/-! ### subscripts, slices -/
theorem q_ix (hu : X.A.units + 65 < cLine) (ha : PE X a (tE nm X.K fa)) (hb : PE X b (tE nm X.K fb)) (hs : PlainIx b) : PE X (.Subscript a b pos) (tE nm X.K fun ρ M Q => fa ρ M fun x M1 => fb ρ M1 fun y M2 => ixW x y M2 fun z => Q z M2) :=
  PE.of (pe_ix (w_ix (nm := nm) hu) ha hb hs) fun σ H Q ⟨ι, ρ, M, Qp, s, hf, k⟩ =>
    two_of s hf fun ι2 H2 M2 x y px py e2 m2 r1 r2 h2 => ⟨ι2, M2, px, py, _, m2, r1, r2, h2, fun p hp ι3 H3 v e3 m3 r3 => k p M2 hp ι3 H3 v (e2.trans e3) m3 r3⟩
variable {lo hi : Option Expr} {fl fh : FO}
theorem q_sl {p2 : Pos} (ha : PE X a (tE nm X.K fa)) (hl : PO X lo (tO nm X.K fl)) (hh : PO X hi (tO nm X.K fh)) :
    PE X (.Subscript a (.Slice lo hi none p2) pos) (tE nm X.K fun ρ M Q => fa ρ M fun x M1 => fl ρ M1 fun l M2 => fh ρ M2 fun h M3 => slW x l h M3 fun z => Q z M3) :=
  PE.of (pe_slice (w_sl (nm := nm)) ha hl hh) fun σ H Q ⟨ι, ρ, M, Qp, s, hf, k⟩ => ⟨ι, ρ, M, _, s, hf, fun px M1 h1 ι1 H1 x e1 m1 r1 =>
    ⟨ι1, ρ, M1, _, s.up e1 m1, h1, fun l M2 h2 ι2 H2 e2 m2 => ⟨ι2, ρ, M2, _, s.up (e1.trans e2) m2, h2, fun h M3 h3 ι3 H3 e3 m3 =>
      ⟨ι3, M3, px, _, m3, r1.up (e2.trans e3), h3, fun p hp ι4 H4 v e4 m4 r4 => k p M3 hp ι4 H4 v (e1.trans (e2.trans (e3.trans e4))) m4 r4⟩⟩⟩⟩
theorem qo_none : PO X none (tO nm X.K fun _ M Q => Q none M) := PO.of po_none fun σ H Q ⟨ι, ρ, M, Qp, s, hf, k⟩ => k none M hf ι H .refl s.m
theorem qo_some (ha : PE X e (tE nm X.K fa)) : PO X (some e) (tO nm X.K fun ρ M Q => fa ρ M fun x M1 => match x with
    | .int i => Q (some i) M1
    | _ => False) :=
  PO.of (po_some ha) fun σ H Q ⟨ι, ρ, M, Qp, s, hf, k⟩ => ⟨ι, ρ, M, _, s, hf, fun px M1 hp ι1 H1 v e1 m1 r1 => by
    cases r1 <;> first
      | exact ⟨_, rfl, k _ M1 hp ι1 H1 e1 m1⟩
      | exact False.elim hp⟩
/-! ### methods -/
theorem bmK_str {b : Bm} {px : PV} {v : V} (h : bmK b px M = true) (hb : b = .join ∨ b = .index ∨ b = .split) (r : Rv X.K ι H v px) : tyV X.K "str" v H := by
  rcases hb with rfl | rfl | rfl <;> (cases r <;> first | (cases h; done) | rfl)
theorem bmK_list {b : Bm} {px : PV} {v : V} (h : bmK b px M = true) (hb : b = .append ∨ b = .pop) (m : Rm nm X.K ι H M) (r : Rv X.K ι H v px) : tyV X.K "list" v H := by
  have key : ∀ (n : Nat) (a : Addr) (o : MO), ι[n]? = some a → M[n]? = some o → (∃ ps, o = MO.lst ps) → tyV X.K "list" (.ref a) H := fun n a o ha e ho => by
    obtain ⟨ps, rfl⟩ := ho
    obtain ⟨xs, h1, _⟩ := m.at_ n a _ ha e
    exact .inl ⟨rfl, xs, SqL.of h1⟩
  cases r with
  | @ref a n ha =>
    cases e : M[n]? with
    | none => rcases hb with rfl | rfl <;> (unfold bmK at h; simp only [e] at h; cases h)
    | some o =>
      refine key n a o ha e ?_
      cases o with
      | lst ps => exact ⟨ps, rfl⟩
      | _ => rcases hb with rfl | rfl <;> (unfold bmK at h; simp only [e] at h; cases h)
  | _ => rcases hb with rfl | rfl <;> cases h
/-- x.m(e, ..), m a method of a built-in type -/
theorem q_bm {T id : String} {name : Str} {b : Bm} {cpos : Pos} (pa : PlainAttrs T) (slot : Slot T name id) (hty : typeOf (.builtin id) = pure (.type "method_descriptor")) (hm : MtR X id (rBm nm X.K b))
    (ht : ∀ (px : PV) (M : Mem) (ι : List Addr) H v, bmK b px M = true → Rm nm X.K ι H M → Rv X.K ι H v px → tyV X.K T v H)
    (ho : PE X o (tE nm X.K fa)) (ha : PA X (e :: es) (tL nm X.K fs)) (hbase : attributeBase o name X.env (eval o X.env) = eval o X.env)
    (hfew : ((backTo cpos (starEach (e :: es) X.env)).all (fun x => !x.1) && (backToKw cpos (keywordEach [] X.env)).all (fun x => x.1.isSome)
      && decide ((e :: es).length + ([] : List Keyword).length + (if ([] : List Keyword).isEmpty then 0 else 1) < 30)) = true)
    (hline : (apos.endLine == cpos.line) = true) (hs : starEach (e :: es) X.env = (false, eval e X.env) :: starEach es X.env) (hplain : (backTo cpos (starEach es X.env)).any (·.1) = false) :
    PE X (.Call (.Attribute o name apos) (e :: es) [] cpos) (tE nm X.K fun ρ M Q => fa ρ M fun x M1 => match bmK b x M1 with
      | true => fs ρ M1 fun vs M2 => bmW b x vs M2 Q
      | false => False) :=
  PE.of (pe_bm pa slot hty hm ho ha hbase hfew hline hs hplain) fun σ H Q ⟨ι, ρ, M, Qp, s, hf, k⟩ => ⟨ι, ρ, M, _, s, hf, fun px M1 h1 ι1 H1 x e1 m1 r1 => by
    cases e0 : bmK b px M1 with
    | false => simp only [e0] at h1
    | true =>
      simp only [e0] at h1
      exact ⟨ht px M1 ι1 H1 x e0 m1 r1, ι1, ρ, M1, _, s.up e1 m1, h1, fun ps M2 h2 ι2 H2 vs e2 m2 r2 =>
        ⟨ι2, M2, px, ps, Qp, m2, r1.up e2, r2, h2, fun p M3 h3 ι3 H3 v e3 m3 r3 => k p M3 h3 ι3 H3 v (e1.trans (e2.trans e3)) m3 r3⟩⟩⟩
theorem q_bm0 {T id : String} {name : Str} {b : Bm} {cpos : Pos} (pa : PlainAttrs T) (slot : Slot T name id) (hty : typeOf (.builtin id) = pure (.type "method_descriptor")) (hm : MtR X id (rBm nm X.K b))
    (ht : ∀ (px : PV) (M : Mem) (ι : List Addr) H v, bmK b px M = true → Rm nm X.K ι H M → Rv X.K ι H v px → tyV X.K T v H)
    (ho : PE X o (tE nm X.K fa)) (hbase : attributeBase o name X.env (eval o X.env) = eval o X.env) (hline : (apos.endLine == cpos.line) = true) :
    PE X (.Call (.Attribute o name apos) [] [] cpos) (tE nm X.K fun ρ M Q => fa ρ M fun x M1 => match bmK b x M1 with
      | true => bmW b x [] M1 Q
      | false => False) :=
  PE.of (pe_bm0 pa slot hty hm ho hbase hline) fun σ H Q ⟨ι, ρ, M, Qp, s, hf, k⟩ => ⟨ι, ρ, M, _, s, hf, fun px M1 h1 ι1 H1 x e1 m1 r1 => by
    cases e0 : bmK b px M1 with
    | false => simp only [e0] at h1
    | true =>
      simp only [e0] at h1
      exact ⟨ht px M1 ι1 H1 x e0 m1 r1, ι1, M1, px, [], Qp, m1, r1, .nil, h1, fun p M3 h3 ι3 H3 v e3 m3 r3 => k p M3 h3 ι3 H3 v (e1.trans e3) m3 r3⟩⟩
/-- d.get(e, f): of texts, a dict that never changes; of tuples, one of the memory -/
theorem bmK_get {x : PV} (h : bmK .get x M = true) : (∃ ks vs, x = .dct ks vs ∧ isTxt ks = true) ∨ ∃ n ks vs, x = .ref n ∧ M[n]? = some (.dct ks vs) := by
  cases x with
  | dct ks vs => exact .inl ⟨ks, vs, rfl, h⟩
  | ref n =>
    unfold bmK at h
    cases e : M[n]? with
    | none => simp only [e] at h; cases h
    | some o =>
      cases o with
      | dct ks vs => exact .inr ⟨n, ks, vs, rfl, e⟩
      | _ => simp only [e] at h; cases h
  | _ => cases h
theorem q_get {d : Expr} {cpos : Pos} (hu : X.A.units + 65 < cLine) (hP : nm.P = X.prog) (hw : nm.w = X.w) (ho : PE X o (tE nm X.K fa)) (he : PE X a (tE nm X.K fb)) (hd : PE X b (tE nm X.K fc)) (m2 : M2 X o "get" apos a b cpos) :
    PE X (.Call (.Attribute o "get" apos) [a, b] [] cpos) (tE nm X.K fun ρ M Q => fa ρ M fun x M1 => match bmK .get x M1 with
      | true => (fCons fb (fCons fc fun _ M Q => Q [] M)) ρ M1 fun vs M2 => bmW .get x vs M2 Q
      | false => False) := by
  refine ⟨fun pins s σ H Q I ⟨ι, ρ, M, Qp, sm, hf, k⟩ => ?_⟩
  refine wpAny_Call_method m2.base m2.few m2.line PySem.F.plainAttrs_dict PySem.F.slot_dict_get PySem.F.type_dict_get (thn (ho.run pins s σ H (fun x H1 => ∃ ι1 M1 px, Ext ι H ι1 H1 ∧ Rm nm X.K ι1 H1 M1 ∧ Rv X.K ι1 H1 x px ∧ (match bmK .get px M1 with
      | true => (fCons fb (fCons fc fun _ M Q => Q [] M)) ρ M1 fun vs M2 => bmW .get px vs M2 Qp
      | false => False)) I ⟨ι, ρ, M, _, sm, hf, fun px M1 h1 ι1 H1 v e1 m1 r1 => ⟨ι1, M1, px, e1, m1, r1, h1⟩⟩) fun u s1 ⟨x, H1, I1, rx, ι1, M1, px, e1, m1, r1, h1⟩ => ?_)
  have hk : bmK .get px M1 = true := by
    cases e : bmK .get px M1 with
    | true => rfl
    | false => simp only [e] at h1
  simp only [hk] at h1
  obtain ⟨ad, rfl, t1, t2⟩ : ∃ ad, x = .ref ad ∧ s1.TypeIs (.ref ad) "dict" ∧ ∃ ob, s1.heap.get? ad = some ob ∧ ob.dict = none := by
    rcases bmK_get hk with ⟨ks, vs, rfl, ht⟩ | ⟨n, ks, vs, rfl, hn⟩
    · cases r1 with
      | dcd g1 g2 g3 g4 g5 g6 g7 g8 g9 => exact (txt_tup ht g7).elim
      | @dct ad ob kvs _ _ g0 g1 g2 g3 =>
        obtain ⟨q1, q2, _⟩ := isD_at I1 (a := ad) (.inl ⟨kvs, .inr ⟨ob, g1⟩⟩)
        exact ⟨ad, rfl, q1, q2 ad rfl⟩
    · obtain ⟨ad, L, rfl, _, hH, dr⟩ := ref_dct m1 r1 hn
      obtain ⟨_, _, xs, _, dd⟩ := dic_at I1 hP hw hH dr
      obtain ⟨ob, es, ep, q1, q2, _⟩ := id dd
      exact ⟨ad, rfl, dd.typeIs, ob, q1, q2.2.1⟩
  obtain rfl : u = Value.ref ad := rx
  refine ⟨t1, fun b e => by injection e with e; subst e; exact t2, ?_⟩
  rw [m2.trees]
  have h1' : fb ρ M1 fun py M2 => fc ρ M2 fun pz M3 => bmW .get px [py, pz] M3 Qp := h1
  refine Calls.callWith_builtin rfl (Calls.evalArgs_plain (Calls.spliced_cons (thn (he.run pins s1 σ H1 (fun y H2 => ∃ ι2 M2 py, Ext ι1 H1 ι2 H2 ∧ Rm nm X.K ι2 H2 M2 ∧ Rv X.K ι2 H2 y py ∧ fc ρ M2 fun pz M3 => bmW .get px [py, pz] M3 Qp) I1
    ⟨ι1, ρ, M1, _, sm.up e1 m1, h1', fun py M2 h2 ι2 H2 y e2 m2 r2 => ⟨ι2, M2, py, e2, m2, r2, h2⟩⟩) fun iv s2 ⟨y, H2, I2, ry, ι2, M2, py, e2, mm2, r2, h2⟩ =>
      Calls.spliced_cons (thn (hd.run pins s2 σ H2 (fun z H3 => ∃ ι3 M3 pz, Ext ι2 H2 ι3 H3 ∧ Rm nm X.K ι3 H3 M3 ∧ Rv X.K ι3 H3 z pz ∧ bmW .get px [py, pz] M3 Qp) I2
        ⟨ι2, ρ, M2, _, sm.up (e1.trans e2) mm2, h2, fun pz M3 h3 ι3 H3 z e3 m3 r3 => ⟨ι3, M3, pz, e3, m3, r3, h3⟩⟩) fun fv s3 ⟨z, H3, I3, rz, ι3, M3, pz, e3, mm3, r3, h3⟩ => Calls.spliced_nil ?_))))
  have rr := r1.up (e2.trans e3)
  have ry3 := r2.up e3
  rcases bmK_get hk with ⟨ks, vs, rfl, ht⟩ | ⟨n, ks, vs, rfl, hn⟩
  · cases py with
    | str w =>
      obtain ⟨_, h4⟩ : isTxt ks = true ∧ Qp ((dFind (.str w) ks vs).getD pz) M3 := h3
      cases ry3
      cases rr with
      | dcd g1 g2 g3 g4 g5 g6 g7 g8 g9 => exact (txt_tup ht g7).elim
      | @dct _ ob' kvs' _ _ g0' g1' g2' g3' =>
        have key := dFind_val (a := w) g2' g3'
        refine d_get2 (by omega) I3 (o := valV kvs' (Sum.inr (toS w))) (.inl ⟨kvs', Sum.inr (toS w), .inr ⟨ob', g1'⟩, rfl, rfl⟩) ry rz fun w' s4 I4 rw' => ⟨_, H3, I4, rw', ?_⟩
        cases e5 : dFind (.str w) ks vs with
        | none =>
          rw [e5] at h4
          rw [key.2 e5]
          exact k _ M3 h4 ι3 H3 z (e1.trans (e2.trans e3)) mm3 r3
        | some y' =>
          rw [e5] at h4
          obtain ⟨w', e6, r6⟩ := key.1 _ e5
          rw [e6]
          exact k _ M3 h4 ι3 H3 _ (e1.trans (e2.trans e3)) mm3 r6
    | _ => exact False.elim h3
  · have h3' : (match M3[n]? with
      | some (.dct ks vs) => (isTup py && py.hk 6) = true ∧ Qp ((dFind py ks vs).getD pz) M3
      | _ => False) := h3
    cases e5 : M3[n]? with
    | none => simp only [e5] at h3'
    | some o =>
      cases o with
      | dct ks vs =>
        simp only [e5] at h3'
        obtain ⟨ad', L, ea, hi, hH, dr⟩ := ref_dct mm3 rr e5
        cases ea
        exact dic_get I3 hu hP hw hH dr h3'.1 ry3 ry r3 rz fun v u s4 I4 ru rv => ⟨v, H3, I4, ru, k _ M3 h3'.2 ι3 H3 v (e1.trans (e2.trans e3)) mm3 rv⟩
      | _ => simp only [e5] at h3'
/-! ### new dicts of the memory -/
theorem dic_empty {P : Program} {w : World} {H : Hp} (h : Heap) (hb : sysModules < h.objs.size) : ObjOk P w H (h.push { cls := .type "dict", data := .dict #[] }) h.objs.size (DicO P w h.objs.size []) := by
  have hne : (h.objs.size == sysModules) = false := beq_eq_false_iff_ne.mpr (Nat.ne_of_gt hb)
  have hg : (h.push { cls := .type "dict", data := .dict #[] }).get? h.objs.size = some { cls := .type "dict", data := .dict #[] } := Heap.get?_push_size _ rfl
  refine ⟨⟨⟨Nat.zero_le _, hne⟩, [], .nil, _, #[], 0, hg, ⟨rfl, rfl, rfl⟩, rfl, rfl, List.nodup_nil⟩, ⟨_, hg⟩, ?_⟩
  rintro h1 h2 ⟨y, ys, k1, o', es', ep', k2, k3⟩ st
  exact ⟨y, ys, k1, o', es', ep', st o' k2, k3⟩
theorem q_dm0 (hP : nm.P = X.prog) (hw : nm.w = X.w) {pos : Pos} : PE X (.Dict [] [] pos) (tE nm X.K fun ρ M Q => Q (.ref M.length) (M ++ [.dct [] []])) := by
  refine ⟨fun pins s σ H Q I ⟨ι, ρ, M, Qp, sm, hf, k⟩ => wpAny_Dict_empty ?_⟩
  have hp : H s.heap.objs.size = none := I.fresh
  have J := I.laid (a := s.heap.objs.size) (o := DicO X.prog X.w s.heap.objs.size []) (t' := s.toks) (fun _ _ q => Heap.get?_push_of_some _ q) (Nat.le_refl _) (dic_empty s.heap I.big)
  have hx : Ext ι H (ι ++ [s.heap.objs.size]) (upd H s.heap.objs.size (DicO X.prog X.w s.heap.objs.size [])) := .app_new hp
  exact ⟨.ref s.heap.objs.size, _, J, rfl, k _ _ hf (ι ++ [s.heap.objs.size]) _ _ hx (sm.m.alloc hp ⟨[], by rw [hP, hw]; exact upd_same, rfl, rfl, .nil, .nil⟩) (.ref (by rw [← sm.m.len]; simp))⟩
theorem q_dm1 (hu : X.A.units + 65 < cLine) (hP : nm.P = X.prog) (hw : nm.w = X.w) {pos : Pos} (ha : PE X a (tE nm X.K fa)) (hb : PE X b (tE nm X.K fb)) :
    PE X (.Dict [some a] [b] pos) (tE nm X.K fun ρ M Q => fa ρ M fun x M1 => fb ρ M1 fun y M2 => (([x].length = [y].length ∧ [x].length ≤ 1) ∧ ([x].all fun k => isTup k && k.hk 6) = true) ∧ Q (.ref M2.length) (M2 ++ [.dct [x] [y]])) := by
  refine ⟨fun pins s σ H Q I ⟨ι, ρ, M, Qp, sm, hf, k⟩ => ?_⟩
  rw [arm_eval_Dict, show (evalEachOpt [some a] X.env).zip ((evalEach [b] X.env).map fun v => (do let x ← v; standAt pos; pure x : Sem Value)) = [(eval a X.env, (do let x ← eval b X.env; standAt pos; pure x : Sem Value))].map fun p => (some p.1, p.2) from rfl, dictDisplay_pairs _ (by simp) (by simp)]
  have hp : H s.heap.objs.size = none := I.fresh
  have hn : s.heap.objs.size ∉ ι := fun z => by
    obtain ⟨n, hn⟩ := List.getElem?_of_mem z
    obtain ⟨u, hu⟩ := sm.m.has hn
    rw [hp] at hu
    cases hu
  have J := I.laid (a := s.heap.objs.size) (o := DicO X.prog X.w s.heap.objs.size []) (t' := s.toks) (fun _ _ q => Heap.get?_push_of_some _ q) (Nat.le_refl _) (dic_empty s.heap I.big)
  have e0 : Ext ι H ι (upd H s.heap.objs.size (DicO X.prog X.w s.heap.objs.size [])) := .upd_new hp
  have sm0 := sm.up e0 (sm.m.new hp)
  refine wpAny_bind (wpAny_standAt (wpAny_bind (wpAny_subDictH (knd := deepKind X.prog X.w) (by show X.A.units + 8 < cLine; omega) (by simp) (evalPairs_cons ?_))))
  refine thn (ha.run pins _ σ _ (fun x H1 => ∃ ι1 M1 px, Ext ι (upd H s.heap.objs.size (DicO X.prog X.w s.heap.objs.size [])) ι1 H1 ∧ Rm nm X.K ι1 H1 M1 ∧ Rv X.K ι1 H1 x px ∧ fb ρ M1 fun y M2 => (([px].length = [y].length ∧ [px].length ≤ 1) ∧ ([px].all fun k => isTup k && k.hk 6) = true) ∧ Qp (.ref M2.length) (M2 ++ [.dct [px] [y]])) J
    ⟨ι, ρ, M, _, sm0, hf, fun px M1 h1 ι1 H1 v e1 m1 r1 => ⟨ι1, M1, px, e1, m1, r1, h1⟩⟩) fun u1 s1 ⟨x, H1, I1, rx, ι1, M1, px, e1, m1, r1, h1⟩ => ?_
  refine wpAny_bind (thn (hb.run pins s1 σ H1 (fun y H2 => ∃ ι2 M2 py, Ext ι1 H1 ι2 H2 ∧ Rm nm X.K ι2 H2 M2 ∧ Rv X.K ι2 H2 y py ∧ (([px].length = [py].length ∧ [px].length ≤ 1) ∧ ([px].all fun k => isTup k && k.hk 6) = true) ∧ Qp (.ref M2.length) (M2 ++ [.dct [px] [py]])) I1
    ⟨ι1, ρ, M1, _, sm0.up e1 m1, h1, fun py M2 h2 ι2 H2 y e2 m2 r2 => ⟨ι2, M2, py, e2, m2, r2, h2⟩⟩) fun u2 s2 ⟨y, H2, I2, ry, ι2, M2, py, e2, m2, r2, ⟨_, hx0⟩, hq⟩ => wpAny_bind (wpAny_standAt (wpAny_pure (evalPairs_nil ?_))))
  have hx : (isTup px && px.hk 6) = true := by
    rw [List.all_cons, List.all_nil, Bool.and_true] at hx0
    exact hx0
  have e12 := e1.trans e2
  have hD : H2 s.heap.objs.size = some (DicO X.prog X.w s.heap.objs.size []) := e12.pv _ _ upd_same hn
  have hn2 : s.heap.objs.size ∉ ι2 := e12.out (H := upd H s.heap.objs.size (DicO X.prog X.w s.heap.objs.size [])) (a := s.heap.objs.size) (o := DicO X.prog X.w s.heap.objs.size []) upd_same hn
  obtain ⟨z1, z2, xs, rel, dd⟩ := dic_at (ι := ι2) I2 hP hw (a := s.heap.objs.size) (L := []) (ks := []) (vs := []) (by rw [hP, hw]; exact hD) ⟨rfl, rfl, .nil, .nil⟩
  cases rel
  obtain ⟨b', rfl, rfl, kb⟩ := key_at I2 (r1.up e2) rx hx
  refine ⟨[(nrm px, b', u2)], ⟨rfl, rfl, kb, trivial⟩, dd, fun h' tk dd' hs => wpAny_pure ?_⟩
  obtain ⟨o, es, ep, g1, g2, g3, g4, _, g5⟩ := (show h'.DictOfH (deepKind X.prog X.w) s.heap.objs.size [(nrm px, b', u2)] from dd')
  have I3 := d_write (t' := tk) I2 (by rw [hD]; exact True.intro) hs ⟨o, g1⟩ (show ObjOk X.prog X.w (upd H2 s.heap.objs.size (DicO X.prog X.w s.heap.objs.size [(nrm px, b', y)])) h' s.heap.objs.size (DicO X.prog X.w s.heap.objs.size [(nrm px, b', y)]) from
    ⟨⟨⟨by rw [← ll_eq]; exact Nat.le_of_ble_eq_true rfl, z2⟩, _, .cons ⟨⟨rfl, rfl⟩, ry⟩ .nil, o, es, ep, g1, g2, g3, g4, g5⟩, ⟨o, g1⟩, by
      rintro h1 h2 ⟨y, ys, k1, o', es', ep', k2, k3⟩ st
      exact ⟨y, ys, k1, o', es', ep', st o' k2, k3⟩⟩)
  have x0 : Ex0 ι2 H2 (ι2 ++ [s.heap.objs.size]) (upd H2 s.heap.objs.size (DicO X.prog X.w s.heap.objs.size [(nrm px, b', y)])) := ⟨fun n a z => by rw [List.getElem?_append_left (List.getElem?_eq_some_iff.mp z).1]; exact z, fun a u hu hf => by
    rw [upd_ne]
    · exact hu
    · rintro rfl
      rw [hD] at hu
      cases hu
      exact hf.elim⟩
  have e3 := e0.trans e12
  have e4 : Ext ι H (ι2 ++ [s.heap.objs.size]) (upd H2 s.heap.objs.size (DicO X.prog X.w s.heap.objs.size [(nrm px, b', y)])) := by
    refine ⟨fun n a z => x0.ix n a (e3.ix n a z), fun a u hu hf => ?_, fun a u hu hn' => ?_, fun a z => ?_⟩
    · rw [upd_ne (ne_of_none hu hp)]; exact e3.fx a u hu hf
    · rw [upd_ne (ne_of_none hu hp)]; exact e3.pv a u hu hn'
    · rcases List.mem_append.mp z with z | z
      · exact e3.nw a z
      · rw [List.mem_singleton] at z
        rw [z]
        exact .inr hp
  refine ⟨.ref s.heap.objs.size, _, I3, rfl, k _ _ hq (ι2 ++ [s.heap.objs.size]) _ _ e4 ⟨by simp [m2.len], ?_, fun n a mo h1 h2 => ?_⟩ (.ref (by rw [← m2.len]; simp))⟩
  · rw [List.nodup_append]
    refine ⟨m2.nd, by simp, fun a ha b hb => ?_⟩
    rw [List.mem_singleton] at hb
    rintro rfl
    exact hn2 (by rw [← hb]; exact ha)
  · by_cases hl : n < ι2.length
    · rw [List.getElem?_append_left hl] at h1
      rw [List.getElem?_append_left (by rw [← m2.len]; exact hl)] at h2
      refine ro_stay (m2.at_ n a mo h1 h2) x0 fun w hw => ?_
      rw [upd_ne fun z => hn2 (by rw [← z]; exact List.mem_of_getElem? h1)]
      exact hw
    · have hn' : n = ι2.length := by
        have := (List.getElem?_eq_some_iff.mp h1).1
        simp at this
        omega
      subst hn'
      rw [List.getElem?_append_right (Nat.le_refl _)] at h1
      rw [m2.len, List.getElem?_append_right (Nat.le_refl _)] at h2
      simp at h1 h2
      subst h1 h2
      exact ⟨[(nrm px, b', y)], by rw [hP, hw]; exact upd_same, rfl, by simp only [List.all_cons, List.all_nil, Bool.and_true]; exact hx, .cons ((r1.up e2).up0 x0) .nil, .cons (r2.up0 x0) .nil⟩
end
end Qt
/-! ### sets of ints, of texts, from a list -/
namespace Qt
open PySem PySem.Spec PyProof.Rows L2
section
variable {P : Program} {w : World} {K : Type} [DecidableEq K] (knd : PySem.KeyKind P w K)
/-- an entry of the table, and its key -/
structure ElK (e : Int × Value) (k : K) : Prop where
  is : knd.is k e.2 = true
  hash : e.1 = knd.hash k
  sc : e.2.scannable = true
/-- the set at a: its members, as they came; its table can be walked -/
def Sg (h : Heap) (a : Addr) (ks : List K) : Prop :=
  ∃ o es ep t, ∃ ps : List ((Int × Value) × K), (h.get? a = some o ∧ o.ExactSet ∧ o.data = .set es ep t) ∧ ((ps.map Prod.fst).Perm es.toList ∧ ps.map Prod.snd = ks ∧ (∀ p ∈ ps, ElK knd p.1 p.2) ∧ ks.Nodup) ∧
    es.size < scanBound ∧ t.fits es.size = true ∧ Ris t.place.toList ∧ (w.params.followText "set-order" = true ∨ t.led = true)
variable {knd}
theorem Sg.at {h h' : Heap} {a : Addr} {ks : List K} (R : Sg knd h a ks) (k : ∀ o, h.get? a = some o → h'.get? a = some o) : Sg knd h' a ks := by
  obtain ⟨o, es, ep, t, ps, ⟨ho, hx⟩, r⟩ := R
  exact ⟨o, es, ep, t, ps, ⟨k o ho, hx⟩, r⟩
theorem elems_of {es : List (Int × Value)} {ps : List ((Int × Value) × K)} (h : (ps.map Prod.fst).Perm es) (g : ∀ p ∈ ps, ElK knd p.1 p.2) : ElemsOf knd es := fun e he => by
  obtain ⟨p, hp, rfl⟩ := List.mem_map.mp (h.mem_iff.mpr he)
  exact ⟨⟨p.2, (g p hp).is, (g p hp).hash⟩, (g p hp).sc⟩
variable {A : Around} {E : Value → Shared → Prop} {s : Shared} {a : Addr}
theorem sg_tail {g : Bool → Sem Unit} (hg : ∀ (b : Bool) (s₁ : Shared) (Q' : Unit → Shared → Prop), Q' () s₁ → wpAny (model P w) A (g b) Q' E s₁)
    {o : Obj} {es : Array (Int × Value)} {ep : Nat} {t : SetTable} (ho : s.heap.get? a = some o) (hex : o.ExactSet) (hd : o.data = .set es ep t)
    {es1 : Array (Int × Value)} {t2 : SetTable} {ks : List K} {ps : List ((Int × Value) × K)} (hp : (ps.map Prod.fst).Perm es1.toList) (hk : ps.map Prod.snd = ks) (he : ∀ p ∈ ps, ElK knd p.1 p.2) (hn : ks.Nodup)
    (hb1 : es1.size < scanBound) (hf2 : t2.fits es1.size = true) (hr : Ris t2.place.toList) (hl : w.params.followText "set-order" = true ∨ t2.led = true) {wasDummy : Bool} {R : Option Bool → Shared → Prop}
    (hR : ∀ h', Heap.SameBut a s.heap h' → Sg knd h' a ks → R (some true) { s with heap := h' }) :
    wpAny (model P w) A (do
        storeSet a es1 t2
        if (!wasDummy && t2.tooFull) = true then do
            g (relayAll t2 es1 (SetTable.grown es1.size)).2.2
            storeSet a (relayAll t2 es1 (SetTable.grown es1.size)).1 (relayAll t2 es1 (SetTable.grown es1.size)).2.1
            pure (some true)
          else pure (some true)) R E s := by
  refine wpAny_bind (wpAny_storeSet_of ho hd ?_ (fits_of_scanBound hb1))
  have ho1 := store_at (es' := es1) (t' := t2) ho hd
  have sb1 := Heap.SameBut.update s.heap a (Obj.putSet es1 t2)
  split
  · have pm := relayAll_perm t2 es1 (SetTable.grown es1.size)
    have hf3 := relayAll_fits t2 es1 (SetTable.grown es1.size)
    have hr3 := relayAll_ris t2 es1 (SetTable.grown es1.size)
    have hl3 := relayAll_led t2 es1 (SetTable.grown es1.size)
    generalize relayAll t2 es1 (SetTable.grown es1.size) = Z at pm hf3 hr3 hl3 ⊢
    obtain ⟨es2, t3, gave⟩ := Z
    dsimp only at pm hf3 hr3 hl3 ⊢
    have hsz : es2.size = es1.size := by rw [← Array.length_toList, pm.length_eq, Array.length_toList]
    have hb2 : es2.size < scanBound := by rw [hsz]; exact hb1
    refine wpAny_bind (hg _ _ _ (wpAny_bind (wpAny_storeSet_of ho1 rfl ?_ (fits_of_scanBound hb2))))
    have ho2 := store_at (es' := es2) (t' := t3) ho1 rfl
    exact wpAny_pure (hR _ (sb1.trans (Heap.SameBut.update _ a _)) ⟨_, es2, _, t3, ps, ⟨ho2, hex, rfl⟩, ⟨hp.trans pm.symm, hk, he, hn⟩, hb2, hf3, hr3, hl.imp id fun z => by rw [hl3]; exact z⟩)
  · exact wpAny_pure (hR _ sb1 ⟨_, es1, _, t2, ps, ⟨ho1, hex, rfl⟩, ⟨hp, hk, he, hn⟩, hb1, hf2, hr, hl⟩)
theorem sg_add {k : K} {v : Value} {ks : List K} {Q : Bool → Shared → Prop} (hkey : knd.is k v = true) (hsc : v.scannable = true) (R : Sg knd s.heap a ks) (room : ks.length + 1 < scanBound)
    (hQ : ∀ h' b, Heap.SameBut a s.heap h' → Sg knd h' a (if k ∈ ks then ks else ks ++ [k]) → Q b { s with heap := h' }) :
    wpAny (model P w) A (setAddHashed a v (knd.hash k)) Q E s := by
  obtain ⟨o, es, ep, t, ps, ⟨ho, hex, hd⟩, ⟨hp, hk, he, hn⟩, hb, hf, hr, hl⟩ := R
  have hel : ElemsOf knd es.toList := elems_of hp he
  have hlen : es.size = ks.length := by rw [← Array.length_toList, ← hp.length_eq, List.length_map, ← hk, List.length_map]
  unfold setAddHashed setAddHashedIn
  refine wpAny_holding (wpAny_bind (wpAny_setState_of ho hd hf ?_))
  dsimp only
  rw [byScan_of hsc hb hel]
  simp only [↓reduceIte]
  unfold setAddByScan
  refine wpAny_bind ?_
  refine wpAny_bind (wpAny_rule ?_)
  refine wpAny_bind (wpAny_setScan_of hkey ho hd hf hel ?_)
  cases hfi : List.findIdx? (fun e => knd.is k e.2) es.toList with
  | some j =>
    dsimp only
    obtain ⟨hj, pj, _⟩ := List.findIdx?_eq_some_iff_getElem.mp hfi
    have hkm : k ∈ ks := by
      obtain ⟨p, hp1, hp2⟩ := List.mem_map.mp (hp.mem_iff.mpr (List.getElem_mem hj))
      have e := knd.inj _ _ _ pj (by rw [← hp2]; exact (he p hp1).is)
      rw [e, ← hk]
      exact List.mem_map.mpr ⟨p, hp1, rfl⟩
    refine wpAny_pure (wpAny_pure ?_)
    exact hQ s.heap _ (Heap.SameBut.refl a s.heap) (by rw [if_pos hkm]; exact ⟨o, es, ep, t, ps, ⟨ho, hex, hd⟩, ⟨hp, hk, he, hn⟩, hb, hf, hr, hl⟩)
  | none =>
    dsimp only
    have hnk : k ∉ ks := fun z => by
      rw [← hk] at z
      obtain ⟨p, hp1, rfl⟩ := List.mem_map.mp z
      have c := List.findIdx?_eq_none_iff.mp hfi p.1 (hp.mem_iff.mp (List.mem_map.mpr ⟨p, hp1, rfl⟩))
      rw [(he p hp1).is] at c
      cases c
    have pm := layNew_perm t es (knd.hash k) v
    have hf1 := layNew_fits t es (knd.hash k) v
    have hr1 := layNew_ris t es (knd.hash k) v hr
    have hl1 := layNew_led t es (knd.hash k) v
    generalize layNew t es (knd.hash k) v = Z at pm hf1 hr1 hl1 ⊢
    obtain ⟨es1, t1, wasDummy, gave⟩ := Z
    dsimp only at pm hf1 hr1 hl1 ⊢
    rw [Array.toList_push] at pm
    have hp1 : ((ps ++ [((knd.hash k, v), k)]).map Prod.fst).Perm es1.toList := by
      rw [List.map_append]
      exact (hp.append_right _).trans pm.symm
    have hk1 : (ps ++ [((knd.hash k, v), k)]).map Prod.snd = ks ++ [k] := by rw [List.map_append, hk]; rfl
    have he1 : ∀ p ∈ ps ++ [((knd.hash k, v), k)], ElK knd p.1 p.2 := fun p hpm => by
      rcases List.mem_append.mp hpm with z | z
      · exact he p z
      · rw [List.mem_singleton] at z
        rw [z]
        exact ⟨hkey, rfl, hsc⟩
    have hn1 : (ks ++ [k]).Nodup := List.nodup_append.mpr ⟨hn, by simp, fun x hx y hy => by
      rw [List.mem_singleton] at hy
      rintro rfl
      rw [hy] at hx
      exact hnk hx⟩
    have hsz : es1.size = ks.length + 1 := by rw [← Array.length_toList, pm.length_eq, List.length_append, Array.length_toList, hlen]; rfl
    have hb1 : es1.size < scanBound := by rw [hsz]; exact room
    have hled : w.params.followText "set-order" = true ∨ t1.led = true := hl.imp id fun z => by rw [hl1]; exact z
    have fin : ∀ h' b, Heap.SameBut a s.heap h' → Sg knd h' a (ks ++ [k]) → Q b { s with heap := h' } := fun h' b sb r => hQ h' b sb (by rw [if_neg hnk]; exact r)
    refine wpAny_bind ((by cases gave <;> first | exact wpAny_pure | exact wpAny_rule : ∀ {Q' : Unit → Shared → Prop}, Q' () s → wpAny (model P w) A (match gave with | true => rule "set.scan.the-table-gave-way" | false => pure ()) Q' E s) ?_)
    split
    · refine wpAny_bind ?_
      rw [hashByValue_scannable 8 hsc]
      refine wpAny_pure ?_
      refine sg_tail ?_ ho hex hd hp1 hk1 he1 hn1 hb1 ?_ ?_ ?_ ?_
      · intro b s₁ Q' q; cases b <;> first | exact wpAny_pure q | exact wpAny_rule q
      · first | (split <;> first | exact hf1 | exact SetTable.fits_plain_off hf1) | exact hf1
      · first | (split <;> exact hr1) | exact hr1
      · first | (split <;> exact hled) | exact hled
      · intro h' sb r; dsimp only; exact wpAny_pure (fin h' _ sb r)
    · refine wpAny_bind (wpAny_pure ?_)
      simp only [↓reduceIte]
      refine sg_tail ?_ ho hex hd hp1 hk1 he1 hn1 hb1 hf1 hr1 hled ?_
      · intro b s₁ Q' q; cases b <;> first | exact wpAny_pure q | exact wpAny_rule q
      · intro h' sb r; dsimp only; exact wpAny_pure (fin h' _ sb r)
/-- the members, as they come -/
def dedN (key : Nat → K) : Nat → List K
  | 0 => []
  | i + 1 => if key i ∈ dedN key i then dedN key i else dedN key i ++ [key i]
theorem dedN_len (key : Nat → K) : ∀ i, (dedN key i).length ≤ i
  | 0 => Nat.le_refl _
  | i + 1 => by
    have := dedN_len key i
    unfold dedN
    split
    · omega
    · rw [List.length_append, List.length_singleton]; omega
theorem dedN_mem (key : Nat → K) : ∀ i k, k ∈ dedN key i ↔ ∃ j, j < i ∧ key j = k
  | 0, k => by simp [dedN]
  | i + 1, k => by
    have ih := dedN_mem key i
    have e : k ∈ dedN key (i + 1) ↔ k ∈ dedN key i ∨ k = key i := by
      show k ∈ (if key i ∈ dedN key i then dedN key i else dedN key i ++ [key i]) ↔ _
      split
      · rename_i h
        exact ⟨.inl, fun z => z.elim id fun q => by rw [q]; exact h⟩
      · rw [List.mem_append, List.mem_singleton]
    rw [e, ih]
    constructor
    · rintro (⟨j, h1, h2⟩ | rfl)
      · exact ⟨j, by omega, h2⟩
      · exact ⟨i, by omega, rfl⟩
    · rintro ⟨j, h1, h2⟩
      by_cases z : j = i
      · rw [z] at h2; exact .inr h2.symm
      · exact .inl ⟨j, by omega, h2⟩
/-- set.update's loop over what a walk yields -/
theorem sg_loop {R : Result → Shared → Prop} {I : Addr} {fp wr : List Addr} {Gn : Array GenState → Array GenState → Prop} {n : Nat} {Pv : Nat → Value → Prop} {St : Nat → Shared → Prop} (W : WalksS P w A.in1 I fp wr Gn n Pv St) (S : Addr) (hSf : S ∉ fp)
    (key : Nat → K) (hval : ∀ i v, Pv i v → knd.is (key i) v = true ∧ v.scannable = true) (hb : n + 1 < scanBound) :
    ∀ (k i : Nat) (s : Shared), n - i = k → i ≤ n → St i s → Sg knd s.heap S (dedN key i) →
      (∀ s', Moved (S :: wr) Gn s s' → Sg knd s'.heap S (dedN key n) → R (.ok (.ret .none)) s') →
      codeAny (model P w) A (.builtin "set.update.loop" ⟨[.ref S, .ref I], []⟩) R s := by
  have hSw : S ∉ wr := fun h => hSf (W.sub _ h)
  have hsub : ∀ b ∈ wr, b ∈ S :: wr := fun b hb => List.mem_cons_of_mem _ hb
  intro k
  induction k with
  | zero =>
    intro i s hk hi hst hS hR
    have hin : i = n := by omega
    subst hin
    refine codeAny_builtin F.entry_set_update_loop ?_
    rw [Around.under_plainId F.plain_set_update_loop _]
    show wpAny _ A.in1 (pyNext (.ref I) >>= _) _ _ s
    refine wpAny_bind (W.done s _ _ hst fun s' hm => ?_)
    show wpAny _ A.in1 (ret Value.none) _ _ s'
    exact wpAny_pure (hR s' (hm.mono hsub) (hS.at fun o e => hm.heap S o hSw e))
  | succ k ih =>
    intro i s hk hi hst hS hR
    have hlt : i < n := by omega
    refine codeAny_builtin F.entry_set_update_loop ?_
    rw [Around.under_plainId F.plain_set_update_loop _]
    show wpAny _ A.in1 (pyNext (.ref I) >>= _) _ _ s
    refine wpAny_bind (W.item i s _ _ hlt hst fun v s' hP hst' hm => ?_)
    obtain ⟨hv1, hv2⟩ := hval i v hP
    have hS' : Sg knd s'.heap S (dedN key i) := hS.at fun o e => hm.heap S o hSw e
    show wpAny _ A.in1 (holding [v] (setAdd S v) >>= _) _ _ s'
    refine wpAny_bind (wpAny_holding ?_)
    unfold setAdd
    refine wpAny_holding (wpAny_bind (knd.pyHash hv1 ?_))
    have hroom : (dedN key i).length + 1 < scanBound := by have := dedN_len key i; omega
    refine sg_add (s := { s' with toks := s'.toks + 1 }) hv1 hv2 hS' hroom fun h' b hsb hS2 => ?_
    refine wpAny_pure ⟨plainId_quiet F.plain_set_update_loop _, ih (i + 1) _ (by omega) hlt (W.frame _ s' _ _ hst' (Nat.le_succ _) fun b hb o e => ?_) hS2 fun s'' hm'' hS'' => ?_⟩
    · rw [hsb.2 b (fun h : b = S => hSf (by rw [← h]; exact hb))]; exact e
    · refine hR s'' (Moved.trans W.gtrans ((hm.mono hsub).then_heap (Nat.le_succ _) fun b o hb e => ?_) hm'') hS''
      rw [hsb.2 b (fun h : b = S => hb (by rw [h]; exact List.mem_cons_self))]; exact e
theorem sg_fresh {h : Heap} : Sg knd (h.push { cls := .type "set", dict := none, data := .set #[] 0 (.fresh 0 0 (!w.params.followText "set-order")) }) h.objs.size [] :=
  ⟨_, #[], 0, _, ([] : List ((Int × Value) × K)), ⟨Heap.get?_push_size _ rfl, ⟨rfl, rfl, rfl⟩, rfl⟩, ⟨.refl _, rfl, fun p z => absurd z List.not_mem_nil, List.nodup_nil⟩, by decide, rfl, List.Pairwise.nil, by
    show _ ∨ (!w.params.followText "set-order") = true
    cases w.params.followText "set-order"
    · exact .inr rfl
    · exact .inl rfl⟩
/-- set.__new__ with what shall come into it: empty as yet -/
theorem set_new_led (x : Value) {Q₁ : Value → Shared → Prop}
    (h : Q₁ (.ref s.heap.objs.size) { s with heap := s.heap.push { cls := .type "set", dict := none, data := .set #[] 0 (.fresh 0 0 (!w.params.followText "set-order")) } }) :
    codeAny (model P w) A (.call (.builtin "set.__new__") ⟨[.type "set", x], []⟩) (wants Q₁ E) s := by
  refine codeAny_of_tree ?_
  show wpAny _ A.in1 (do checkBuiltinCall "set.__new__" ⟨[.type "set", x], []⟩; again (.builtin "set.__new__" ⟨[.type "set", x], []⟩)) _ _ s
  refine wpAny_bind (wpAny_of_eq (F.newCall_set_1 x) (wpAny_pure ⟨plainId_quiet F.plain_set_new _, codeAny_builtin F.entry_set_new ?_⟩))
  rw [Around.under_plainId F.plain_set_new _]
  unfold Builtin.«set.__new__» Builtin.Frozenset.newClass
  have hsub := sub_set_self
  obtain ⟨hp, g, d, tk, os⟩ := s
  dsimp only
  wp_walk
  refine wpAny_askSetting (wpAny_pure ?_)
  dsimp only
  simp only [newObj]
  exact wpAny_bind (wpAny_alloc (wpAny_pure (wpAny_pure h)))

theorem set_of_list {l : Addr} {items : Array Value} {key : Nat → K} {Q : Value → Shared → Prop} (hh : A.handled = none) (hl : s.heap.IsList l items) (hval : ∀ i v, items[i]? = some v → knd.is (key i) v = true ∧ v.scannable = true) (hb : items.size + 1 < scanBound)
    (h : ∀ (h' : Heap) (tk : Nat), Sg knd h' s.heap.objs.size (dedN key items.size) → (∀ b o, b < s.heap.objs.size → s.heap.get? b = some o → h'.get? b = some o) → Q (.ref s.heap.objs.size) { s with heap := h', toks := tk }) :
    wpAny (model P w) A (call (.type "set") [.ref l]) Q E s := by
  obtain ⟨c, rest, hmro⟩ := F.called_set.mro
  have hmade := F.called_set.made
  have hsub := F.called_set.sub
  have h1 := F.called_set.notType
  have h2 := F.called_set.canCreate
  have hct := F.typeCall_set_1 (.ref l)
  refine wpAny_call (codeAny_of_tree ?_)
  show wpAny _ _ (callAny (.type "set") _) _ _ _
  refine wpAny_pure ⟨Code.quiet_builtin _ (by decide +kernel), codeAny_builtin F.entry_type_call ?_⟩
  rw [Around.under_plain (weight_type_call_type "set" [.ref l] []) rfl]
  repeat (any_goals (first | assumption | wp_step))
  let so : Obj := { cls := .type "set", dict := none, data := .set #[] 0 (.fresh 0 0 (!w.params.followText "set-order")) }
  refine codeAny_mono (set_new_led (.ref l) (E := E) (Q₁ := fun obj s₁ => obj = .ref s.heap.objs.size ∧ s₁ = { s with heap := s.heap.push so }) ⟨rfl, rfl⟩) fun r s₁ hr => ?_
  cases r with
  | error e => exact hr
  | ok fl =>
    cases fl with
    | ret obj =>
      obtain ⟨rfl, rfl⟩ := hr
      have hS : (s.heap.push so).get? s.heap.objs.size = some so := Heap.get?_push_size _ rfl
      have hT : Shared.TypeIs { s with heap := s.heap.push so } (.ref s.heap.objs.size) "set" := ⟨_, hS, rfl⟩
      have hli := F.called_set.init.lookup
      have hbi := F.called_set.init.bind (.ref s.heap.objs.size)
      repeat (any_goals (first | assumption | wp_step))
      refine codeAny_mono (codeAny_call_builtin (R := wants (fun r s₂ => r = .none ∧ ∃ h' tk, s₂ = { s with heap := h', toks := tk } ∧ Sg knd h' s.heap.objs.size (dedN key items.size) ∧
          (∀ b o, b < s.heap.objs.size → s.heap.get? b = some o → h'.get? b = some o)) E) F.called_set.init.plain F.entry_set_init (check_set_init_1 hT ?_)) fun r₂ s₂ hr₂ => ?_
      · obtain ⟨⟨ocls, odict, odata, oslots⟩, hol, hcl, nl, hdl⟩ := hl
        simp only at hcl hdl
        subst hcl
        subst hdl
        have hol' : (s.heap.push so).get? l = some { cls := .type "list", dict := odict, data := .seq items nl, slots := oslots } := Heap.get?_push_of_some _ hol
        have hs1 := F.sub_list_set
        have hs2 := F.sub_list_frozenset
        have hne : (Value.type "list" == Value.type "dict") = false := by decide
        have hl1 : (s.heap.push so).IsList l items := ⟨_, hol', rfl, nl, rfl⟩
        unfold Builtin.«set.__init__» noKeywords Builtin.Frozenset.updateFrom
        generalize hPI : pyIter = PI
        wp_walk
        subst hPI
        refine wpAny_pyIter_list hl1 (wpAny_bind (wpAny_runValue ?_))
        have hlS : l < s.heap.objs.size := Heap.lt_size hol
        have sz1 : (s.heap.push so).objs.size = s.heap.objs.size + 1 := Heap.size_push ..
        have hne2 : l ≠ (s.heap.push so).objs.size := by rw [sz1]; exact Nat.ne_of_lt (Nat.lt_succ_of_lt hlS)
        have hSf : s.heap.objs.size ∉ [(s.heap.push so).objs.size, l] := by
          rw [sz1]
          simp only [List.mem_cons, List.not_mem_nil, or_false, not_or]
          exact ⟨Nat.ne_of_lt (Nat.lt_succ_self _), Nat.ne_of_gt hlS⟩
        refine sg_loop (knd := knd) ((Walks.list (by simp [hh] : A.in1.in1.in1.handled = none) _ l hne2 items).toS) s.heap.objs.size hSf key hval hb (items.size - 0) 0 _ (by omega) (Nat.zero_le _) ⟨⟨_, Heap.get?_push_size _ rfl, rfl, rfl⟩, hl1.push _⟩ ?_ ?_
        · exact sg_fresh.at fun o e => Heap.get?_push_of_some _ e
        · intro s' hm hS'
          obtain ⟨h', g', d', tk', os'⟩ := s'
          have eg : g' = s.gens := hm.gens
          have ed : d' = s.drawn := hm.drawn
          have eo : os' = s.os := hm.os
          subst eg
          subst ed
          subst eo
          show wpAny _ _ _ _ _ _
          refine wpAny_pure ?_
          show wpAny _ _ (ret Value.none) _ _ _
          refine wpAny_pure ⟨rfl, h', tk', rfl, hS', fun b o hb e => ?_⟩
          refine hm.heap b o ?_ (Heap.get?_push_of_some _ (Heap.get?_push_of_some _ e))
          simp only [List.mem_cons, List.not_mem_nil, or_false, not_or]
          exact ⟨Nat.ne_of_lt hb, by rw [sz1]; exact Nat.ne_of_lt (Nat.lt_succ_of_lt hb)⟩
      · cases r₂ with
        | error e => exact hr₂
        | ok fl₂ =>
          cases fl₂ with
          | ret r =>
            obtain ⟨rfl, h', tk, rfl, hS', hk'⟩ := hr₂
            repeat (any_goals (first | assumption | wp_step))
            exact h _ _ hS' hk'
          | _ => exact hr₂.elim
    | _ => exact hr.elim

theorem set_of_tuple {l : Addr} {items : Array Value} {key : Nat → K} {Q : Value → Shared → Prop} (hh : A.handled = none) (hl : s.heap.IsTuple l items) (hval : ∀ i v, items[i]? = some v → knd.is (key i) v = true ∧ v.scannable = true) (hb : items.size + 1 < scanBound)
    (h : ∀ (h' : Heap) (tk : Nat), Sg knd h' s.heap.objs.size (dedN key items.size) → (∀ b o, b < s.heap.objs.size → s.heap.get? b = some o → h'.get? b = some o) → Q (.ref s.heap.objs.size) { s with heap := h', toks := tk }) :
    wpAny (model P w) A (call (.type "set") [.ref l]) Q E s := by
  obtain ⟨c, rest, hmro⟩ := F.called_set.mro
  have hmade := F.called_set.made
  have hsub := F.called_set.sub
  have h1 := F.called_set.notType
  have h2 := F.called_set.canCreate
  have hct := F.typeCall_set_1 (.ref l)
  refine wpAny_call (codeAny_of_tree ?_)
  show wpAny _ _ (callAny (.type "set") _) _ _ _
  refine wpAny_pure ⟨Code.quiet_builtin _ (by decide +kernel), codeAny_builtin F.entry_type_call ?_⟩
  rw [Around.under_plain (weight_type_call_type "set" [.ref l] []) rfl]
  repeat (any_goals (first | assumption | wp_step))
  let so : Obj := { cls := .type "set", dict := none, data := .set #[] 0 (.fresh 0 0 (!w.params.followText "set-order")) }
  refine codeAny_mono (set_new_led (.ref l) (E := E) (Q₁ := fun obj s₁ => obj = .ref s.heap.objs.size ∧ s₁ = { s with heap := s.heap.push so }) ⟨rfl, rfl⟩) fun r s₁ hr => ?_
  cases r with
  | error e => exact hr
  | ok fl =>
    cases fl with
    | ret obj =>
      obtain ⟨rfl, rfl⟩ := hr
      have hS : (s.heap.push so).get? s.heap.objs.size = some so := Heap.get?_push_size _ rfl
      have hT : Shared.TypeIs { s with heap := s.heap.push so } (.ref s.heap.objs.size) "set" := ⟨_, hS, rfl⟩
      have hli := F.called_set.init.lookup
      have hbi := F.called_set.init.bind (.ref s.heap.objs.size)
      repeat (any_goals (first | assumption | wp_step))
      refine codeAny_mono (codeAny_call_builtin (R := wants (fun r s₂ => r = .none ∧ ∃ h' tk, s₂ = { s with heap := h', toks := tk } ∧ Sg knd h' s.heap.objs.size (dedN key items.size) ∧
          (∀ b o, b < s.heap.objs.size → s.heap.get? b = some o → h'.get? b = some o)) E) F.called_set.init.plain F.entry_set_init (check_set_init_1 hT ?_)) fun r₂ s₂ hr₂ => ?_
      · obtain ⟨⟨ocls, odict, odata, oslots⟩, hol, hcl, nl, hdl⟩ := hl
        simp only at hcl hdl
        subst hcl
        subst hdl
        have hol' : (s.heap.push so).get? l = some { cls := .type "tuple", dict := odict, data := .seq items nl, slots := oslots } := Heap.get?_push_of_some _ hol
        have hs1 := F.sub_tuple_set
        have hs2 := F.sub_tuple_frozenset
        have hne : (Value.type "tuple" == Value.type "dict") = false := by decide
        have hl1 : (s.heap.push so).IsTuple l items := ⟨_, hol', rfl, nl, rfl⟩
        unfold Builtin.«set.__init__» noKeywords Builtin.Frozenset.updateFrom
        generalize hPI : pyIter = PI
        wp_walk
        subst hPI
        refine wpAny_pyIter_tuple hl1 (wpAny_bind (wpAny_runValue ?_))
        have hlS : l < s.heap.objs.size := Heap.lt_size hol
        have sz1 : (s.heap.push so).objs.size = s.heap.objs.size + 1 := Heap.size_push ..
        have hne2 : l ≠ (s.heap.push so).objs.size := by rw [sz1]; exact Nat.ne_of_lt (Nat.lt_succ_of_lt hlS)
        have hSf : s.heap.objs.size ∉ [(s.heap.push so).objs.size, l] := by
          rw [sz1]
          simp only [List.mem_cons, List.not_mem_nil, or_false, not_or]
          exact ⟨Nat.ne_of_lt (Nat.lt_succ_self _), Nat.ne_of_gt hlS⟩
        refine sg_loop (knd := knd) ((Walks.tuple (by simp [hh] : A.in1.in1.in1.handled = none) _ l hne2 items).toS) s.heap.objs.size hSf key hval hb (items.size - 0) 0 _ (by omega) (Nat.zero_le _) ⟨⟨_, Heap.get?_push_size _ rfl, rfl, rfl⟩, hl1.push _⟩ ?_ ?_
        · exact sg_fresh.at fun o e => Heap.get?_push_of_some _ e
        · intro s' hm hS'
          obtain ⟨h', g', d', tk', os'⟩ := s'
          have eg : g' = s.gens := hm.gens
          have ed : d' = s.drawn := hm.drawn
          have eo : os' = s.os := hm.os
          subst eg
          subst ed
          subst eo
          show wpAny _ _ _ _ _ _
          refine wpAny_pure ?_
          show wpAny _ _ (ret Value.none) _ _ _
          refine wpAny_pure ⟨rfl, h', tk', rfl, hS', fun b o hb e => ?_⟩
          refine hm.heap b o ?_ (Heap.get?_push_of_some _ (Heap.get?_push_of_some _ e))
          simp only [List.mem_cons, List.not_mem_nil, or_false, not_or]
          exact ⟨Nat.ne_of_lt hb, by rw [sz1]; exact Nat.ne_of_lt (Nat.lt_succ_of_lt hb)⟩
      · cases r₂ with
        | error e => exact hr₂
        | ok fl₂ =>
          cases fl₂ with
          | ret r =>
            obtain ⟨rfl, h', tk, rfl, hS', hk'⟩ := hr₂
            repeat (any_goals (first | assumption | wp_step))
            exact h _ _ hS' hk'
          | _ => exact hr₂.elim
    | _ => exact hr.elim
end
section
variable {P : Program} {w : World} {K : Type} [DecidableEq K] {knd : PySem.KeyKind P w K} {A : Around} {E : Value → Shared → Prop} {s : Shared} {a : Addr}
/-- the members of a set, collected -/
theorem sg_collect {ks : List K} (un : Value → K) (hun : ∀ k v, knd.is k v = true → un v = k) {Q : List Value → Shared → Prop} (hh : A.handled = none) (R : Sg knd s.heap a ks)
    (hQ : ∀ vs s', (∀ b o, s.heap.get? b = some o → s'.heap.get? b = some o) → s.heap.objs.size ≤ s'.heap.objs.size → s'.gens = s.gens → s'.os = s.os → (vs.map un).Perm ks → (∀ v ∈ vs, knd.is (un v) v = true) → Q vs s') :
    wpAny (model P w) A (collect (.ref a)) Q E s := by
  obtain ⟨o, es, ep, t, ps, ⟨ho, hex, hd⟩, ⟨hp, hk, he, hn⟩, hb, hf, hr, hl⟩ := R
  refine collect_set hh ⟨o, ho, hex.1, hd⟩ hf hb hr hl fun s' vs k1 hz g1 o1 pm => hQ vs s' k1 hz g1 o1 ?_ ?_
  · have h1 : (vs.map un).Perm ((es.toList.map (·.2)).map un) := pm.map un
    have h2 : ((es.toList.map (·.2)).map un).Perm (((ps.map Prod.fst).map (·.2)).map un) := ((hp.symm.map (·.2)).map un)
    have h3 : ((ps.map Prod.fst).map (·.2)).map un = ks := by
      rw [← hk, List.map_map, List.map_map]
      refine List.map_congr_left fun p hp => ?_
      exact hun _ _ (he p hp).is
    rw [h3] at h2
    exact h1.trans h2
  · intro v hv
    obtain ⟨e, he1, rfl⟩ := List.mem_map.mp (pm.mem_iff.mp hv)
    obtain ⟨p, hp1, rfl⟩ := List.mem_map.mp (hp.mem_iff.mpr he1)
    have := (he p hp1).is
    rw [hun _ _ this]
    exact this
end
section
variable {X : Cx} {pins : List (Addr × Obj)} {σ : L2.St} {H : Hp} {s : Shared}
/-- the end of sorted: the new list is laid -/
theorem sorted_end (I : L2.Inv X pins σ H s) {s' : Shared} {vs : List Value} {out : Array Value} {ys : List V} (keep : ∀ b o, s.heap.get? b = some o → s'.heap.get? b = some o) (hz : s.heap.objs.size ≤ s'.heap.objs.size) (hg : s'.gens = s.gens) (ho : s'.os = s.os)
    (hlen : ys.length ≤ sizeLine) (hv : Vals ys out.toList) :
    H s'.heap.objs.size = none ∧ L2.Inv X pins σ (upd H s'.heap.objs.size (.lst ys)) { s' with heap := sortedHeap (s'.heap.push (seqObj "list" vs.toArray 0)) s'.heap.objs.size vs out } := by
  have hob : (s'.heap.push (seqObj "list" vs.toArray 0)).get? s'.heap.objs.size = some (seqObj "list" vs.toArray 0) := Heap.get?_push_size _ rfl
  obtain ⟨c, hc⟩ := PyProof.Rows.sortedHeap_at (vs := vs) (out := out) hob
  have hn : H s'.heap.objs.size = none := I.hok.fresh hz
  have k : ∀ b o, s.heap.get? b = some o → (sortedHeap (s'.heap.push (seqObj "list" vs.toArray 0)) s'.heap.objs.size vs out).get? b = some o := fun b o e => by
    have e1 := keep b o e
    have lt := Heap.lt_size e1
    rw [PyProof.Rows.sortedHeap_old (Nat.ne_of_lt lt) (by rw [Heap.size_push]; exact Nat.lt_succ_of_lt lt)]
    exact Heap.get?_push_of_some _ e1
  refine ⟨hn, ?_⟩
  have J : L2.Inv X pins σ (upd H s'.heap.objs.size (.lst ys)) { s with heap := sortedHeap (s'.heap.push (seqObj "list" vs.toArray 0)) s'.heap.objs.size vs out, gens := s'.gens, drawn := s'.drawn, toks := s'.toks } :=
    I.call (ch := []) (Un.laid k hz hn) (I.hok.laid k hz ⟨hlen, out.toList, c, hv, hc⟩) (by rw [hg]; exact I.bare) (fun _ z => nomatch z)
  have e : ({ s' with heap := sortedHeap (s'.heap.push (seqObj "list" vs.toArray 0)) s'.heap.objs.size vs out } : Shared) = { s with heap := sortedHeap (s'.heap.push (seqObj "list" vs.toArray 0)) s'.heap.objs.size vs out, gens := s'.gens, drawn := s'.drawn, toks := s'.toks } := by
    cases s
    cases s'
    simp only at hg ho
    subst hg ho
    rfl
  rw [e]
  exact J
def unI : Value → Int
  | .int k _ => k
  | _ => 0
theorem unI_is {P : Program} {w : World} (k : Int) (v : Value) (h : (PySem.intKind P w).is k v = true) : unI v = k := by
  cases v <;> simp [PySem.intKind, Value.isInt, unI] at h ⊢
  exact h
theorem intsAre_un {P : Program} {w : World} : ∀ vs : List Value, (∀ v ∈ vs, (PySem.intKind P w).is (unI v) v = true) → IntsAre vs (vs.map unI)
  | [], _ => .nil
  | v :: l, h => by
    have h1 := h v (List.mem_cons_self ..)
    have h2 := intsAre_un l fun u hu => h u (List.mem_cons_of_mem _ hu)
    cases v with
    | int k tk => exact .cons k tk h2
    | _ => simp [PySem.intKind, Value.isInt, unI] at h1
end
end Qt
/-! ### sorted(set(xs)) -/
namespace Qt
open PySem PySem.Spec PyProof.Rows L2
/-- the members once each -/
theorem dedL_mem {α : Type} [DecidableEq α] : ∀ (l : List α) (x : α), x ∈ dedL l ↔ x ∈ l
  | [], _ => Iff.rfl
  | y :: r, x => by
    unfold dedL
    by_cases h : y ∈ r
    · rw [if_pos h, dedL_mem r x, List.mem_cons]
      exact ⟨.inr, fun z => z.elim (fun e => e ▸ h) id⟩
    · rw [if_neg h, List.mem_cons, dedL_mem r x, List.mem_cons]
theorem dedL_nodup {α : Type} [DecidableEq α] : ∀ l : List α, (dedL l).Nodup
  | [] => List.nodup_nil
  | y :: r => by
    unfold dedL
    by_cases h : y ∈ r
    · rw [if_pos h]; exact dedL_nodup r
    · rw [if_neg h]; exact List.nodup_cons.mpr ⟨fun z => h ((dedL_mem r y).mp z), dedL_nodup r⟩
theorem dedN_nodup {K : Type} [DecidableEq K] (key : Nat → K) : ∀ i, (dedN key i).Nodup
  | 0 => List.nodup_nil
  | i + 1 => by
    unfold dedN
    split
    · exact dedN_nodup key i
    · rename_i h
      refine List.nodup_append.mpr ⟨dedN_nodup key i, by simp, fun x hx y hy => ?_⟩
      rw [List.mem_singleton] at hy
      rintro rfl
      rw [hy] at hx
      exact h hx
theorem dedN_perm {K : Type} [DecidableEq K] (d : K) (l : List K) : (dedN (fun i => l.getD i d) l.length).Perm (dedL l) := by
  refine (List.perm_ext_iff_of_nodup (dedN_nodup _ _) (dedL_nodup l)).mpr fun x => ?_
  rw [dedN_mem, dedL_mem, List.mem_iff_getElem]
  constructor
  · rintro ⟨j, h1, h2⟩
    exact ⟨j, h1, by rw [← h2]; simp [List.getD, h1]⟩
  · rintro ⟨j, h1, h2⟩
    exact ⟨j, h1, by rw [← h2]; simp [List.getD, h1]⟩
theorem sortW_permI {l m : List Int} (h : l.Perm m) : sortW (fun a b => decide (a < b)) l = sortW (fun a b => decide (a < b)) m :=
  sort_unique (fun a b c h1 h2 => by
    have h1' := of_decide_eq_false h1
    have h2' := of_decide_eq_false h2
    exact decide_eq_false (by omega)) (fun a b h => by
    have h' := of_decide_eq_true h
    exact decide_eq_false (by omega)) (fun a b h1 h2 => by
    have h1' := of_decide_eq_false h1
    have h2' := of_decide_eq_false h2
    omega) ((sortW_perm _ _).trans h) (sortW_pw (fun a b c h1 h2 => by
    have h1' := of_decide_eq_false h1
    have h2' := of_decide_eq_false h2
    exact decide_eq_false (by omega)) (fun a b h => by
    have h' := of_decide_eq_true h
    exact decide_eq_false (by omega)) l)
theorem sortW_permS {l m : List (List Nat)} (h : l.Perm m) : sortW ltN l = sortW ltN m :=
  sort_unique ltN_tr ltN_asym ltN_tri ((sortW_perm _ _).trans h) (sortW_pw ltN_tr ltN_asym l)
def unS : Value → Str
  | .str k _ => k
  | _ => Str.empty
theorem unS_is {P : Program} {w : World} (k : Str) (v : Value) (h : (PySem.strKind P w).is k v = true) : unS v = k := by
  obtain ⟨t, rfl⟩ := Value.isStrOf_shape (show Value.isStrOf k v = true from h)
  rfl
theorem strsAre_un {P : Program} {w : World} : ∀ vs : List Value, (∀ v ∈ vs, (PySem.strKind P w).is (unS v) v = true) → StrsAre vs (vs.map unS)
  | [], _ => .nil
  | v :: l, h => by
    have h1 := h v (List.mem_cons_self ..)
    have h2 := strsAre_un l fun u hu => h u (List.mem_cons_of_mem _ hu)
    obtain ⟨t, e⟩ := Value.isStrOf_shape (show Value.isStrOf (unS v) v = true from h1)
    rw [List.map_cons]
    generalize unS v = x at e ⊢
    subst e
    exact .cons x t h2
section
variable {X : Cx} {pins : List (Addr × Obj)} {σ : L2.St} {H : Hp} {s : Shared}
/-- sorted(a set of texts) -/
theorem sorted_sgS (I : L2.Inv X pins σ H s) {a : Addr} {ks : List Str} {Q : Value → Shared → Prop} {E : Value → Shared → Prop} (hh : X.A.handled = none) (hk : ks.length ≤ sizeLine) (R : Sg (PySem.strKind X.prog X.w) s.heap a ks)
    (q : ∀ (p : Addr) (s' : Shared), H p = none → L2.Inv X pins σ (upd H p (.lst ((sortW ltN (ks.map fun x => x.cps.toList)).map fun x => V.str (toS x)))) s' → Q (.ref p) s') :
    wpAny (model X.prog X.w) X.A (call (.builtin "sorted") [.ref a]) Q E s := by
  refine Calls.call_function_entry kind_sorted plain_sorted entry_sorted (args_sorted1 _) ?_
  unfold Builtin.«sorted»
  refine wpAny_bind (m := checkCount "sorted" 1 1 _) (wpAny_pure (wpAny_bind (sg_collect (A := X.A.in1) unS unS_is hh R fun vs s' keep hz g1 o1 pm hv => wpAny_bind (wpAny_newList ?_ (by have e := pm.length_eq; rw [List.length_map] at e; rw [e]; exact hk)))))
  have hvl : vs.length = ks.length := by rw [← pm.length_eq, List.length_map]
  have hS := strsAre_un vs hv
  have hob : (s'.heap.push (seqObj "list" vs.toArray 0)).get? s'.heap.objs.size = some (seqObj "list" vs.toArray 0) := Heap.get?_push_size _ rfl
  show wpAny _ _ _ _ _ { s' with heap := s'.heap.push (seqObj "list" vs.toArray 0) }
  refine wpAny_bind (wpAny_holding (wpAny_call_entry PyProof.Rows.slot_list_sort ⟨_, hob, rfl⟩ PyProof.Rows.entry_list_sort
    (list_sort_treeKAny strKind_oneLt hob hS.keysOf (fun v₁ v₂ rest e => keyKind_strs (by rw [← e]; exact hS)) (by rw [hvl]; exact hk) fun st' hp hs => ⟨.none, rfl, ?_⟩) (PyProof.Rows.args_list_sort _)))
  obtain ⟨ys, k1, k2, k3⟩ := sorted_out_str hS hp hs
  have pm2 : ys.Perm ((ks.map fun x => x.cps.toList).map toS) := by
    have e : (ks.map fun x => x.cps.toList).map toS = ks := by
      rw [List.map_map]
      have e2 : (toS ∘ fun y : Str => y.cps.toList) = id := by
        funext x
        exact toS_of x
      rw [e2, List.map_id]
    rw [e]
    exact k2.trans pm
  have ey := sorted_texts pm2 k3
  have hlen : ((sortW ltN (ks.map fun x => x.cps.toList)).map fun x => V.str (toS x)).length ≤ sizeLine := by
    rw [List.length_map, (sortW_perm ltN _).length_eq, List.length_map]
    exact hk
  have hvl2 : Vals ((sortW ltN (ks.map fun x => x.cps.toList)).map fun x => V.str (toS x)) ((arrOf st').map (·.2)).toList := by
    have := vals_of_strs k1
    rw [ey, List.map_map] at this
    exact this
  obtain ⟨hn, J⟩ := sorted_end I (vs := vs) keep hz g1 o1 hlen hvl2
  exact wpAny_pure ⟨_, rfl, q _ _ hn J⟩
/-- sorted(a set of ints) -/
theorem sorted_sgI (I : L2.Inv X pins σ H s) {a : Addr} {ks : List Int} {Q : Value → Shared → Prop} {E : Value → Shared → Prop} (hh : X.A.handled = none) (hk : ks.length ≤ sizeLine) (R : Sg (PySem.intKind X.prog X.w) s.heap a ks)
    (q : ∀ (p : Addr) (s' : Shared), H p = none → L2.Inv X pins σ (upd H p (.lst ((sortW (fun a b => decide (a < b)) ks).map V.int))) s' → Q (.ref p) s') :
    wpAny (model X.prog X.w) X.A (call (.builtin "sorted") [.ref a]) Q E s := by
  refine Calls.call_function_entry kind_sorted plain_sorted entry_sorted (args_sorted1 _) ?_
  unfold Builtin.«sorted»
  refine wpAny_bind (m := checkCount "sorted" 1 1 _) (wpAny_pure (wpAny_bind (sg_collect (A := X.A.in1) unI unI_is hh R fun vs s' keep hz g1 o1 pm hv => wpAny_bind (wpAny_newList ?_ (by have e := pm.length_eq; rw [List.length_map] at e; rw [e]; exact hk)))))
  have hvl : vs.length = ks.length := by rw [← pm.length_eq, List.length_map]
  have hI := intsAre_un vs hv
  have hob : (s'.heap.push (seqObj "list" vs.toArray 0)).get? s'.heap.objs.size = some (seqObj "list" vs.toArray 0) := Heap.get?_push_size _ rfl
  show wpAny _ _ _ _ _ { s' with heap := s'.heap.push (seqObj "list" vs.toArray 0) }
  refine wpAny_bind (wpAny_holding (wpAny_call_entry PyProof.Rows.slot_list_sort ⟨_, hob, rfl⟩ PyProof.Rows.entry_list_sort
    (list_sort_treeAny hob hI (by rw [hvl]; exact hk) fun out ns' a1 a2 a3 => ⟨.none, rfl, ?_⟩) (PyProof.Rows.args_list_sort _)))
  have en : ns' = sortW (fun a b => decide (a < b)) ks := sorted_ints' (a2.trans pm) a3
  have hlen : (ns'.map V.int).length ≤ sizeLine := by rw [List.length_map, a2.length_eq, List.length_map, hvl]; exact hk
  obtain ⟨hn, J⟩ := sorted_end I (ys := ns'.map V.int) (vs := vs) keep hz g1 o1 hlen (vals_of_ints a1)
  rw [en] at J
  exact wpAny_pure ⟨_, rfl, q _ _ hn J⟩
end
end Qt
/-! ### sorted(set(xs)), as one reading -/
namespace Qt
open PySem PySem.Spec PyProof.Rows L2
/-- set(xs) of ints or of texts -/
def rSet (K : PySem.W.Frag) (P : Program) (w : World) : List V → Hp → VK → Prop := fun xs H Q => ∃ a vs, xs = [.ref a] ∧ (SqL K H a vs ∨ SqT K H a vs) ∧ vs.length < 4095 ∧
  ((∃ ns : List Int, vs = ns.map V.int ∧ ∀ p ks, H p = none → ks.length ≤ LL → ks.Perm (dedL ns) → Q (.ref p) (upd H p (.ext fun h => Sg (PySem.intKind P w) h p ks))) ∨
    ∃ ss : List (List Nat), vs = (ss.map toS).map V.str ∧ ∀ p ks, H p = none → ks.length ≤ LL → ks.Perm (dedL (ss.map toS)) → Q (.ref p) (upd H p (.ext fun h => Sg (PySem.strKind P w) h p ks)))
def rSoS (P : Program) (w : World) : List V → Hp → VK → Prop := fun xs H Q => ∃ p, xs = [.ref p] ∧
  ((∃ ks : List Int, H p = some (.ext fun h => Sg (PySem.intKind P w) h p ks) ∧ ks.length ≤ LL ∧ ∀ q, H q = none → Q (.ref q) (upd H q (.lst ((sortW (fun a b => decide (a < b)) ks).map V.int)))) ∨
    ∃ ks : List Str, H p = some (.ext fun h => Sg (PySem.strKind P w) h p ks) ∧ ks.length ≤ LL ∧ ∀ q, H q = none → Q (.ref q) (upd H q (.lst ((sortW ltN (ks.map fun x => x.cps.toList)).map fun x => V.str (toS x)))))
section
variable {X : Cx} {nm : Nm} {pins : List (Addr × Obj)} {σ : L2.St} {H : Hp} {s s' : Shared} {ι : List Addr} {M : Mem} {K : PySem.W.Frag}
theorem vals_int_at : ∀ {ns : List Int} {its : List Value}, Vals (ns.map V.int) its → ∀ (i : Nat) v, its[i]? = some v → (∃ t, v = .int (ns.getD i 0) t)
  | [], _, h, i, v, e => by cases h; simp at e
  | n :: ns, its, h, i, v, e => by
    cases h with | cons h1 h2 =>
    cases i with
    | zero =>
      simp only [List.getElem?_cons_zero, Option.some.injEq] at e
      subst e
      obtain ⟨t, rfl⟩ := h1
      exact ⟨t, rfl⟩
    | succ i =>
      simp only [List.getElem?_cons_succ] at e
      exact vals_int_at h2 i v e
theorem vals_str_at : ∀ {ss : List Str} {its : List Value}, Vals (ss.map V.str) its → ∀ (i : Nat) v, its[i]? = some v → (∃ t, v = .str (ss.getD i Str.empty) t)
  | [], _, h, i, v, e => by cases h; simp at e
  | n :: ns, its, h, i, v, e => by
    cases h with | cons h1 h2 =>
    cases i with
    | zero =>
      simp only [List.getElem?_cons_zero, Option.some.injEq] at e
      subst e
      obtain ⟨t, rfl⟩ := h1
      exact ⟨t, rfl⟩
    | succ i =>
      simp only [List.getElem?_cons_succ] at e
      exact vals_str_at h2 i v e
theorem sg_obj {P : Program} {w : World} {Kk : Type} [DecidableEq Kk] {knd : PySem.KeyKind P w Kk} {H : Hp} {h : Heap} {p : Addr} {ks : List Kk} (R : Sg knd h p ks) : ObjOk P w H h p (.ext fun h => Sg knd h p ks) := by
  refine ⟨R, ?_, fun h1 h2 r k => r.at k⟩
  obtain ⟨o, es, ep, t, ps, ⟨ho, _⟩, _⟩ := R
  exact ⟨o, ho⟩
theorem b_set (hc : X.calm = true) : CallR X (.type "set") (rSet X.K X.prog X.w) := by
  intro pins s σ H xs us Q I r ⟨a, vs, exs, hsq, hl, h⟩
  subst exs
  obtain ⟨u, rfl, ru⟩ := vals1 r
  cases (show u = Value.ref a from ru)
  have hh : X.A.handled = none := I.ok.hd hc
  have put : ∀ {Kk : Type} [DecidableEq Kk] (knd : PySem.KeyKind X.prog X.w Kk) (ks : List Kk) (h' : Heap) (tk : Nat), Sg knd h' s.heap.objs.size ks → (∀ b o, b < s.heap.objs.size → s.heap.get? b = some o → h'.get? b = some o) →
      Q (.ref s.heap.objs.size) (upd H s.heap.objs.size (.ext fun h => Sg knd h s.heap.objs.size ks)) → EP X pins σ Q (.ref s.heap.objs.size) { s with heap := h', toks := tk } := fun knd ks h' tk R kp q =>
    ⟨.ref s.heap.objs.size, _, I.laid (fun b o e => kp b o (Heap.lt_size e) e) (Nat.le_refl _) (sg_obj R), rfl, q⟩
  have bnd : ∀ {n : Nat}, n < 4095 → n + 1 < scanBound := fun h => by unfold scanBound; omega
  rcases h with ⟨ns, rfl, q⟩ | ⟨ss, rfl, q⟩
  · have hlen : ns.length < 4095 := by rw [List.length_map] at hl; exact hl
    have fin : ∀ (its : List Value), Vals (ns.map V.int) its → ∀ (h' : Heap) (tk : Nat), Sg (PySem.intKind X.prog X.w) h' s.heap.objs.size (dedN (fun i => ns.getD i 0) its.toArray.size) → (∀ b o, b < s.heap.objs.size → s.heap.get? b = some o → h'.get? b = some o) →
        EP X pins σ Q (.ref s.heap.objs.size) { s with heap := h', toks := tk } := fun its hv h' tk R kp => by
      have e : its.toArray.size = ns.length := by rw [List.size_toArray, ← hv.length, List.length_map]
      rw [e] at R
      refine put _ _ h' tk R kp (q _ _ I.fresh ?_ (dedN_perm 0 ns))
      have := dedN_len (fun i => ns.getD i 0) ns.length
      show _ ≤ 16777216
      omega
    have hval : ∀ (its : List Value), Vals (ns.map V.int) its → ∀ i v, its.toArray[i]? = some v → (PySem.intKind X.prog X.w).is (ns.getD i 0) v = true ∧ v.scannable = true := fun its hv i v e => by
      obtain ⟨t, rfl⟩ := vals_int_at hv i v (by simpa using e)
      exact ⟨intKind_is _ _ _ _, rfl⟩
    rcases hsq with hsq | hsq
    · obtain ⟨its, hv, pl, _⟩ := I.list hsq
      have e : its.toArray.size = ns.length := by rw [List.size_toArray, ← hv.length, List.length_map]
      exact set_of_list (knd := PySem.intKind X.prog X.w) hh pl.isList (hval its hv) (bnd (by rw [e]; exact hlen)) (fin its hv)
    · obtain ⟨its, hv, pl, _⟩ := I.tuple hsq
      have e : its.toArray.size = ns.length := by rw [List.size_toArray, ← hv.length, List.length_map]
      exact set_of_tuple (knd := PySem.intKind X.prog X.w) hh pl (hval its hv) (bnd (by rw [e]; exact hlen)) (fin its hv)
  · have hlen : ss.length < 4095 := by rw [List.length_map, List.length_map] at hl; exact hl
    have fin : ∀ (its : List Value), Vals ((ss.map toS).map V.str) its → ∀ (h' : Heap) (tk : Nat), Sg (PySem.strKind X.prog X.w) h' s.heap.objs.size (dedN (fun i => (ss.map toS).getD i Str.empty) its.toArray.size) → (∀ b o, b < s.heap.objs.size → s.heap.get? b = some o → h'.get? b = some o) →
        EP X pins σ Q (.ref s.heap.objs.size) { s with heap := h', toks := tk } := fun its hv h' tk R kp => by
      have e : its.toArray.size = (ss.map toS).length := by rw [List.size_toArray, ← hv.length, List.length_map]
      rw [e] at R
      refine put _ _ h' tk R kp (q _ _ I.fresh ?_ (dedN_perm Str.empty (ss.map toS)))
      have := dedN_len (fun i => (ss.map toS).getD i Str.empty) (ss.map toS).length
      rw [List.length_map] at this ⊢
      show _ ≤ 16777216
      omega
    have hval : ∀ (its : List Value), Vals ((ss.map toS).map V.str) its → ∀ i v, its.toArray[i]? = some v → (PySem.strKind X.prog X.w).is ((ss.map toS).getD i Str.empty) v = true ∧ v.scannable = true := fun its hv i v e => by
      obtain ⟨t, rfl⟩ := vals_str_at hv i v (by simpa using e)
      exact ⟨strKind_is _ _ _ _, rfl⟩
    rcases hsq with hsq | hsq
    · obtain ⟨its, hv, pl, _⟩ := I.list hsq
      have e : its.toArray.size = ss.length := by rw [List.size_toArray, ← hv.length, List.length_map, List.length_map]
      exact set_of_list (knd := PySem.strKind X.prog X.w) hh pl.isList (hval its hv) (bnd (by rw [e]; exact hlen)) (fin its hv)
    · obtain ⟨its, hv, pl, _⟩ := I.tuple hsq
      have e : its.toArray.size = ss.length := by rw [List.size_toArray, ← hv.length, List.length_map, List.length_map]
      exact set_of_tuple (knd := PySem.strKind X.prog X.w) hh pl (hval its hv) (bnd (by rw [e]; exact hlen)) (fin its hv)
theorem b_sos (hc : X.calm = true) : CallR X (.builtin "sorted") (rSoS X.prog X.w) := by
  intro pins s σ H xs us Q I r ⟨p, exs, h⟩
  subst exs
  obtain ⟨u, rfl, ru⟩ := vals1 r
  cases (show u = Value.ref p from ru)
  have hh : X.A.handled = none := I.ok.hd hc
  rcases h with ⟨ks, hp, hl, q⟩ | ⟨ks, hp, hl, q⟩
  · have R := (show ObjOk X.prog X.w H s.heap p (.ext fun h => Sg (PySem.intKind X.prog X.w) h p ks) from I.hok p _ hp).1
    exact sorted_sgI I hh (by rw [← ll_eq]; exact hl) R fun q' s' hn J => ⟨.ref q', _, J, rfl, q q' hn⟩
  · have R := (show ObjOk X.prog X.w H s.heap p (.ext fun h => Sg (PySem.strKind X.prog X.w) h p ks) from I.hok p _ hp).1
    exact sorted_sgS I hh (by rw [← ll_eq]; exact hl) R fun q' s' hn J => ⟨.ref q', _, J, rfl, q q' hn⟩
theorem seq_at (m : Rm nm K ι H M) {v : V} {p : PV} {ps : List PV} (r : Rv K ι H v p) (h : seqOf M p = some ps) : ∃ a xs, v = .ref a ∧ (SqL K H a xs ∨ SqT K H a xs) ∧ Rvs K ι H xs ps := by
  have lists : asL M p = some ps → ∃ a xs, v = .ref a ∧ (SqL K H a xs ∨ SqT K H a xs) ∧ Rvs K ι H xs ps := fun h => by
    obtain ⟨a, xs, e, ra, rt⟩ := asL_at m r h
    exact ⟨a, xs, e, .inl (.inl ra), rt⟩
  cases p with
  | tup xs =>
    cases h
    cases r with | @tup a vs _ g1 g2 => exact ⟨a, vs, rfl, .inr g1, g2⟩
  | _ => exact lists h
theorem dedL_toS (ss : List (List Nat)) : dedL (ss.map toS) = (dedL ss).map toS := by
  induction ss with
  | nil => rfl
  | cons x r ih =>
    have inj : toS x ∈ r.map toS ↔ x ∈ r := by
      rw [List.mem_map]
      constructor
      · rintro ⟨y, hy, e⟩
        have : y = x := by
          have := congrArg (fun s : Str => s.cps.toList) e
          simpa [toS] using this
        rw [← this]; exact hy
      · exact fun h => ⟨x, h, rfl⟩
    rw [List.map_cons]
    unfold dedL
    by_cases h : x ∈ r
    · rw [if_pos h, if_pos (inj.mpr h), ih]
    · rw [if_neg h, if_neg (fun z => h (inj.mp z)), ih]; rfl
theorem q_sset {a : Expr} {p p2 pos pos2 : Pos} {fa : FE} (hc : X.calm = true) (hg : Gl X "sorted") (hm : X.mg "sorted" = none) (hg2 : Gl X "set") (hm2 : X.mg "set" = none) (ha : PE X a (tE nm X.K fa)) (hs : starEach [a] X.env = (false, eval a X.env) :: starEach [] X.env) :
    PE X (.Call (.Name "sorted" p) [.Call (.Name "set" p2) [a] [] pos2] [] pos) (tE nm X.K fun ρ M Q => fa ρ M fun x M1 => ssW x M1 fun z => Q z M1) :=
  PE.of (PE.lock (pe_callB (b_sos hc) hg hm (by decide +kernel) (pa_cons (pe_callTy (b_set hc) hg2 hm2 (by decide +kernel) (pa_cons ha pa_nil hs) (by decide) (by decide) hs rfl) pa_nil) (by decide) (by decide) rfl rfl)) fun σ H Q ⟨ι, ρ, M, Qp, s, hf, k⟩ =>
    ⟨ι, ρ, M, _, s, hf, fun px M1 hp ι1 H1 v e1 m1 r1 => by
      unfold ssW at hp
      cases eq : seqOf M1 px with
      | none => simp only [eq] at hp
      | some xs =>
        simp only [eq] at hp
        obtain ⟨hl, hp⟩ := hp
        obtain ⟨a, vs, rfl, hsq, rs⟩ := seq_at m1 r1 eq
        refine ⟨a, vs, rfl, hsq, by rw [rs.length]; exact hl, ?_⟩
        cases ei : intsOf xs with
        | some ns =>
          simp only [ei] at hp
          refine .inl ⟨ns, ints_v rs ei, fun p ks hn hk pm => ⟨p, rfl, .inl ⟨ks, upd_same, hk, fun q hq => ⟨q, _, rfl, upd_same, trivial, fun od => ?_⟩⟩⟩⟩
          rw [upd_upd, sortW_permI pm]
          have x1 : Ext ι1 H1 ι1 (upd H1 p (.ext fun h => Sg (PySem.intKind X.prog X.w) h p ks)) := .upd_new hn
          exact k _ M1 hp ι1 _ _ (e1.trans (x1.trans (Ext.upd_new hq))) ((m1.new hn).new hq) (.lst upd_same Rvs.ints)
        | none =>
          simp only [ei] at hp
          cases es : strsOf xs with
          | none => simp only [es] at hp
          | some ss =>
            simp only [es] at hp
            refine .inr ⟨ss, strs_v rs es, fun p ks hn hk pm => ⟨p, rfl, .inr ⟨ks, upd_same, hk, fun q hq => ⟨q, _, rfl, upd_same, trivial, fun od => ?_⟩⟩⟩⟩
            have e : sortW ltN (ks.map fun x => x.cps.toList) = sortW ltN (dedL ss) := by
              refine sortW_permS ?_
              have := pm.map (fun x : Str => x.cps.toList)
              rw [dedL_toS, List.map_map] at this
              have e : ((fun y : Str => y.cps.toList) ∘ toS) = id := by funext l; rfl
              rw [e, List.map_id] at this
              exact this
            rw [upd_upd, e]
            have x1 : Ext ι1 H1 ι1 (upd H1 p (.ext fun h => Sg (PySem.strKind X.prog X.w) h p ks)) := .upd_new hn
            exact k _ M1 hp ι1 _ _ (e1.trans (x1.trans (Ext.upd_new hq))) ((m1.new hn).new hq) (.lst upd_same strs_re)⟩
end
end Qt
/-! ### what loops walk -/
namespace Qt
open PySem PySem.Spec PyProof.Rows L2 RZ
/-- at turn i the iterator yields the i-th of xs, whatever was laid meanwhile -/
structure Yl (K : PySem.W.Frag) (J : It) (ι : List Addr) (H : Hp) (xs : List PV) : Prop where
  item : ∀ (i : Nat) p, xs[i]? = some p → ∀ ι2 H2, Ext ι H ι2 H2 → J.go i H2 ∧ ∀ v H3, J.yld i H2 v H3 → Ext ι2 H2 ι2 H3 ∧ (∀ b u, H2 b = some u → H3 b = some u) ∧ Rv K ι2 H3 v p
  stop : ∀ ι2 H2, Ext ι H ι2 H2 → J.stop xs.length H2
abbrev FI := Rho → Mem → (List PV → Mem → Prop) → Prop
def tI (nm : Nm) (K : PySem.W.Frag) (f : FI) : TI := fun σ H R => ∃ ι ρ M Qp, Sim nm K ι H M σ ρ ∧ f ρ M Qp ∧ ∀ xs M', Qp xs M' → ∀ ι' H' J, Ext ι H ι' H' → Rm nm K ι' H' M' → Yl K J ι' H' xs → R J H'
theorem PI.of {X : Cx} {tg e : Expr} {t t' : TI} (h : PI X tg e t) (i : ∀ σ H Q, t' σ H Q → t σ H Q) : PI X tg e t' := ⟨fun pins s σ H Q I q => h.run pins s σ H Q I (i σ H Q q)⟩
section
variable {K : PySem.W.Frag} {ι : List Addr} {H : Hp} {ps qs : List PV} {xs ys : List V} {a b : Addr}
theorem yl_list {o : Obj} (h : H a = some (.frz o (.lst xs))) (r : Rvs K ι H xs ps) : Yl K (Itl K a) ι H ps := by
  have hq : ∀ ι2 H2, Ext ι H ι2 H2 → SqL K H2 a xs := fun ι2 H2 e => .inl (.inr ⟨o, e.fx _ _ h trivial⟩)
  refine ⟨fun i p hp ι2 H2 e => ?_, fun ι2 H2 e => ⟨xs, hq _ _ e, by rw [r.length] <;> exact Nat.le_refl _⟩⟩
  obtain ⟨v, hv, rv⟩ := r.get hp
  refine ⟨⟨xs, v, hq _ _ e, hv⟩, fun w H3 hy => ?_⟩
  obtain ⟨rfl, hy⟩ := hy
  have hw := hy xs (hq _ _ e)
  rw [hv] at hw
  cases hw
  exact ⟨.refl, fun _ _ z => z, rv.up e⟩
theorem yl_tup (h : SqT K H a xs) (r : Rvs K ι H xs ps) : Yl K (Itt K a) ι H ps := by
  refine ⟨fun i p hp ι2 H2 e => ?_, fun ι2 H2 e => ⟨xs, e.sqT h, by rw [r.length] <;> exact Nat.le_refl _⟩⟩
  obtain ⟨v, hv, rv⟩ := r.get hp
  refine ⟨⟨xs, v, e.sqT h, hv⟩, fun w H3 hy => ?_⟩
  obtain ⟨rfl, hy⟩ := hy
  have hw := hy xs (e.sqT h)
  rw [hv] at hw
  cases hw
  exact ⟨.refl, fun _ _ z => z, rv.up e⟩
theorem strVs_get {s : List Nat} {i : Nat} {p : PV} (h : (strVs s)[i]? = some p) : ∃ c, s[i]? = some c ∧ p = .str [c] := by
  unfold strVs at h
  rw [List.getElem?_map] at h
  cases e : s[i]? with
  | none => rw [e] at h; cases h
  | some c => rw [e] at h; cases h; exact ⟨c, rfl, rfl⟩
theorem strVs_len (s : List Nat) : (strVs s).length = s.length := List.length_map ..
theorem toS_at (s : List Nat) (i : Nat) : (toS s).cps[i]? = s[i]? := by simp [toS]
theorem yl_str (s : List Nat) : Yl K (Its (toS s)) ι H (strVs s) := by
  refine ⟨fun i p hp ι2 H2 e => ?_, fun ι2 H2 e => ?_⟩
  · obtain ⟨c, hc, rfl⟩ := strVs_get hp
    have hi : i < (toS s).cps.size := by have := (List.getElem?_eq_some_iff.mp hc).1; simpa [toS] using this
    refine ⟨hi, fun w H3 hy => ?_⟩
    obtain ⟨rfl, d, hd, rfl⟩ := hy
    rw [toS_at, hc] at hd
    cases hd
    exact ⟨.refl, fun _ _ z => z, .str [c]⟩
  · show (toS s).cps.size ≤ (strVs s).length
    rw [strVs_len]
    simp [toS]
theorem rngL_get : ∀ {n : Nat} {lo : Int} {i : Nat} {p : PV}, (rngL lo n)[i]? = some p → i < n ∧ p = .int (lo + i)
  | 0, lo, i, p, h => by simp [rngL] at h
  | n + 1, lo, 0, p, h => by
    simp only [rngL, List.getElem?_cons_zero, Option.some.injEq] at h
    exact ⟨Nat.succ_pos _, by rw [← h]; simp⟩
  | n + 1, lo, i + 1, p, h => by
    simp only [rngL, List.getElem?_cons_succ] at h
    obtain ⟨h1, h2⟩ := rngL_get h
    exact ⟨Nat.succ_lt_succ h1, by rw [h2]; congr 1; omega⟩
theorem rngL_len : ∀ {n : Nat} {lo : Int}, (rngL lo n).length = n
  | 0, _ => rfl
  | n + 1, lo => by simp only [rngL, List.length_cons, rngL_len]
theorem yl_rng (lo : Int) (n : Nat) : Yl K (Itr lo n) ι H (rngL lo n) := by
  refine ⟨fun i p hp ι2 H2 e => ?_, fun ι2 H2 e => ?_⟩
  · obtain ⟨h1, rfl⟩ := rngL_get hp
    refine ⟨h1, fun w H3 hy => ?_⟩
    obtain ⟨rfl, rfl⟩ := hy
    exact ⟨.refl, fun _ _ z => z, .int _⟩
  · show n ≤ _
    rw [rngL_len] <;> exact Nat.le_refl _
theorem enumL_get : ∀ {ps : List PV} {n i : Nat} {p : PV}, (enumL n ps)[i]? = some p → ∃ q, ps[i]? = some q ∧ p = .tup [.int ((n + i : Nat) : Int), q]
  | [], n, i, p, h => by simp [enumL] at h
  | q :: ps, n, 0, p, h => by
    simp only [enumL, List.getElem?_cons_zero, Option.some.injEq] at h
    exact ⟨q, rfl, h.symm⟩
  | q :: ps, n, i + 1, p, h => by
    simp only [enumL, List.getElem?_cons_succ] at h
    obtain ⟨r, h1, h2⟩ := enumL_get h
    refine ⟨r, h1, ?_⟩
    rw [h2, Nat.add_right_comm] <;> rfl
theorem enumL_len : ∀ {ps : List PV} {n : Nat}, (enumL n ps).length = ps.length
  | [], _ => rfl
  | _ :: ps, n => by simp only [enumL, List.length_cons, enumL_len]
/-- a new pair -/
theorem rv_pair {ι2 : List Addr} {H2 : Hp} {T : Addr} {x y : V} {p q : PV} (hT : H2 T = none) (r1 : Rv K ι2 H2 x p) (r2 : Rv K ι2 H2 y q) :
    Ext ι2 H2 ι2 (upd H2 T (.tup [x, y])) ∧ (∀ b u, H2 b = some u → upd H2 T (.tup [x, y]) b = some u) ∧ Rv K ι2 (upd H2 T (.tup [x, y])) (.ref T) (.tup [p, q]) := by
  have e := Ext.upd_new (ι := ι2) (o := HO.tup [x, y]) hT
  refine ⟨e, fun b u hb => ?_, .tup (SqT.of upd_same) (.cons (r1.up e) (.cons (r2.up e) .nil))⟩
  rw [upd_ne (ne_of_none hb hT)]
  exact hb
theorem yl_enum {o : Obj} (h : H a = some (.frz o (.lst xs))) (r : Rvs K ι H xs ps) : Yl K (Ite K a) ι H (enumL 0 ps) := by
  have hq : ∀ ι2 H2, Ext ι H ι2 H2 → SqL K H2 a xs := fun ι2 H2 e => .inl (.inr ⟨o, e.fx _ _ h trivial⟩)
  refine ⟨fun i p hp ι2 H2 e => ?_, fun ι2 H2 e => ⟨xs, hq _ _ e, by rw [enumL_len, r.length] <;> exact Nat.le_refl _⟩⟩
  obtain ⟨q, hp', rfl⟩ := enumL_get hp
  obtain ⟨v, hv, rv⟩ := r.get hp'
  refine ⟨⟨xs, v, hq _ _ e, hv⟩, fun w H3 hy => ?_⟩
  obtain ⟨T, x, rfl, hT, rfl, hy⟩ := hy
  have hw := hy xs (hq _ _ e)
  rw [hv] at hw
  cases hw
  rw [Nat.zero_add]
  exact rv_pair hT (.int _) (rv.up e)
theorem zipL_get : ∀ {ps qs : List PV} {i : Nat} {p : PV}, (zipL ps qs)[i]? = some p → ∃ x y, ps[i]? = some x ∧ qs[i]? = some y ∧ p = .tup [x, y]
  | [], _, i, p, h => by simp [zipL] at h
  | _ :: _, [], i, p, h => by simp [zipL] at h
  | x :: ps, y :: qs, 0, p, h => by
    simp only [zipL, List.getElem?_cons_zero, Option.some.injEq] at h
    exact ⟨x, y, rfl, rfl, h.symm⟩
  | x :: ps, y :: qs, i + 1, p, h => by
    simp only [zipL, List.getElem?_cons_succ] at h
    obtain ⟨u, w, h1, h2, h3⟩ := zipL_get h
    exact ⟨u, w, h1, h2, h3⟩
theorem zipL_len : ∀ {ps qs : List PV}, ps.length ≤ (zipL ps qs).length ∨ qs.length ≤ (zipL ps qs).length
  | [], _ => .inl (Nat.zero_le _)
  | _ :: _, [] => .inr (Nat.zero_le _)
  | x :: ps, y :: qs => by
    simp only [zipL, List.length_cons]
    rcases zipL_len (ps := ps) (qs := qs) with h | h
    · exact .inl (Nat.succ_le_succ h)
    · exact .inr (Nat.succ_le_succ h)
theorem yl_zipL {o o' : Obj} (h : H a = some (.frz o (.lst xs))) (r : Rvs K ι H xs ps) (h' : H b = some (.frz o' (.lst ys))) (r' : Rvs K ι H ys qs) : Yl K (Itz K a b) ι H (zipL ps qs) := by
  have hq : ∀ ι2 H2, Ext ι H ι2 H2 → SqL K H2 a xs := fun ι2 H2 e => .inl (.inr ⟨o, e.fx _ _ h trivial⟩)
  have hq' : ∀ ι2 H2, Ext ι H ι2 H2 → SqL K H2 b ys := fun ι2 H2 e => .inl (.inr ⟨o', e.fx _ _ h' trivial⟩)
  refine ⟨fun i p hp ι2 H2 e => ?_, fun ι2 H2 e => ⟨xs, ys, hq _ _ e, hq' _ _ e, by rw [r.length, r'.length]; exact zipL_len⟩⟩
  obtain ⟨x, y, hx, hy, rfl⟩ := zipL_get hp
  obtain ⟨v, hv, rv⟩ := r.get hx
  obtain ⟨w, hw, rw'⟩ := r'.get hy
  refine ⟨⟨xs, ys, v, w, hq _ _ e, hq' _ _ e, hv, hw⟩, fun w' H3 hyl => ?_⟩
  obtain ⟨T, x', y', rfl, hT, rfl, f1, f2⟩ := hyl
  have g1 := f1 xs (hq _ _ e)
  have g2 := f2 ys (hq' _ _ e)
  rw [hv] at g1
  rw [hw] at g2
  cases g1
  cases g2
  exact rv_pair hT (rv.up e) (rw'.up e)
theorem yl_zipT (h : SqT K H a xs) (r : Rvs K ι H xs ps) (h' : SqT K H b ys) (r' : Rvs K ι H ys qs) : Yl K (ItzT K a b) ι H (zipL ps qs) := by
  refine ⟨fun i p hp ι2 H2 e => ?_, fun ι2 H2 e => ⟨xs, ys, e.sqT h, e.sqT h', by rw [r.length, r'.length]; exact zipL_len⟩⟩
  obtain ⟨x, y, hx, hy, rfl⟩ := zipL_get hp
  obtain ⟨v, hv, rv⟩ := r.get hx
  obtain ⟨w, hw, rw'⟩ := r'.get hy
  refine ⟨⟨xs, ys, v, w, e.sqT h, e.sqT h', hv, hw⟩, fun w' H3 hyl => ?_⟩
  obtain ⟨T, x', y', rfl, hT, rfl, f1, f2⟩ := hyl
  have g1 := f1 xs (e.sqT h)
  have g2 := f2 ys (e.sqT h')
  rw [hv] at g1
  rw [hw] at g2
  cases g1
  cases g2
  exact rv_pair hT (rv.up e) (rw'.up e)
end
/-! ### enumerate of a text -/
/-- the signs of x with their places, each in a new pair -/
def ItE (x : Str) : It := ⟨fun i _ => i < x.cps.size, fun i H v H' => ∃ T c, x.cps[i]? = some c ∧ v = .ref T ∧ H T = none ∧ H' = upd H T (.tup [.int (i : Nat), .str ⟨#[c]⟩]), fun i _ => x.cps.size ≤ i⟩
theorem draws_str {P : Program} {w : World} {A : Around} (hh : A.handled = none) (j : Addr) (x : Str) (t : Tok) :
    Draws P w A j [j] x.cps.size (fun i v => ∃ c u, x.cps[i]? = some c ∧ v = .str ⟨#[c]⟩ u) (fun i h => h.IsStrIter j (strIterType x) x t i) := by
  unfold strIterType
  split
  · exact Draws.strAscii hh j x t
  · exact Draws.strWide hh j x t
theorem turn_enumS {P : Program} {w : World} {K : PySem.W.Frag} {elts : List Expr} {kk : Nat} {tpos : Pos} (e j : Addr) (x : Str) (t : Tok) :
    Turn P w K (.Tuple elts kk tpos) (ItE x) [e, j] e (fun i h => (∃ old, IsEnum h e j ((i : Nat) : Int) old) ∧ h.IsStrIter j (strIterType x) x t i ∧ e ≠ j) where
  mem := List.mem_cons_self ..
  obj := fun i h st b hb => by
    obtain ⟨⟨old, he⟩, ⟨o, ho, hc, hd⟩, _⟩ := st
    rcases List.mem_cons.mp hb with z | z
    · exact ⟨_, by rw [z]; exact he, fun v q => by cases q⟩
    · rcases List.mem_cons.mp z with z | z
      · exact ⟨o, by rw [z]; exact ho, fun v q => by rw [hd] at q; cases q⟩
      · cases z
  keep := fun i h h' st k => by
    obtain ⟨⟨old, he⟩, ⟨o, ho, hr⟩, hne⟩ := st
    exact ⟨⟨old, k e (by simp) _ he⟩, ⟨o, k j (by simp) o ho, hr⟩, hne⟩
  item := by
    intro X hP hw hK hc i pins s σ H E I hf st hg
    subst hP hw hK
    obtain ⟨⟨old, he⟩, hj, hne⟩ := st
    have hel : e < s.heap.objs.size := Heap.lt_size he
    have hjl : j < s.heap.objs.size := by obtain ⟨_, q, _⟩ := hj; exact Heap.lt_size q
    have D := draws_str (P := X.prog) (w := X.w) (A := X.A.in1) (I.ok.hd hc) j x t
    refine wpAny_pyNext_enum_itemD D he hj hg hne (by simpa using hne) fun u h1 tk hu ho hj1 hT hz hk => ?_
    obtain ⟨c, tc, hcx, rfl⟩ := hu
    refine ⟨_, rfl, wpAny_letOwnedTupleGo_enum (s := { s with heap := h1, toks := tk + 1 }) ho fun h2 he2 sb => ?_⟩
    have hT2 : h2.get? s.heap.objs.size = some { cls := .type "tuple", data := .seq #[.int i tk, .str ⟨#[c]⟩ tc] } := (sb.2 _ (Nat.ne_of_gt hel)).trans hT
    have new : ObjOk X.prog X.w (upd H s.heap.objs.size (.tup [.int (i : Nat), .str ⟨#[c]⟩])) h2 s.heap.objs.size (.tup [.int (i : Nat), .str ⟨#[c]⟩]) :=
      ⟨by show 2 ≤ sizeLine; decide, [.int i tk, .str ⟨#[c]⟩ tc], .cons ⟨_, rfl⟩ (.cons ⟨_, rfl⟩ .nil), ⟨_, hT2, rfl, _, rfl⟩⟩
    have J1 : Inv X pins σ (upd H s.heap.objs.size (.tup [.int (i : Nat), .str ⟨#[c]⟩])) { s with heap := h2, toks := tk + 1 } := by
      refine I.turnedNew (ch := [e, j]) (fun b ob hb q => ?_) hf (Nat.le_refl _) new
      have n1 : b ≠ e := fun z => hb (by rw [z]; simp)
      have n2 : b ≠ j := fun z => hb (by rw [z]; simp)
      exact (sb.2 b n1).trans (hk b ob n1 n2 q)
    have hj2 : h2.IsStrIter j (strIterType x) x t (i + 1) := by
      obtain ⟨o, ho, hr⟩ := hj1
      exact ⟨o, (sb.2 j (Ne.symm hne)).trans ho, hr⟩
    refine ⟨.ref s.heap.objs.size, _, J1, rfl, ⟨_, c, hcx, rfl, I.hok.fresh (Nat.le_refl _), rfl⟩, ⟨⟨.str ⟨#[c]⟩ tc, ?_⟩, hj2, hne⟩, fun b hb => ?_⟩
    · have e1 : ((i + 1 : Nat) : Int) = (i : Int) + 1 := by omega
      rw [e1]
      exact he2
    · have hbl : b < s.heap.objs.size := by
        rcases List.mem_cons.mp hb with z | z
        · rw [z]; exact hel
        · rcases List.mem_cons.mp z with z | z
          · rw [z]; exact hjl
          · cases z
      rw [upd_ne (Nat.ne_of_lt hbl)]
      exact (hf b hb).1
  done := by
    intro X hP hw hK hc i pins s σ H E I hf st hg
    subst hP hw hK
    obtain ⟨⟨old, he⟩, hj, hne⟩ := st
    obtain ⟨f0, f1, f2, f3, f4, f5⟩ := hf j (by simp)
    have hi : x.cps.size ≤ i := hg
    by_cases hx : i = x.cps.size
    · subst hx
      have D := draws_str (P := X.prog) (w := X.w) (A := X.A.in1) (I.ok.hd hc) j x t
      exact wpAny_pyNext_enum_endD D he hj fun h1 eb => ⟨rfl, I.turned (t' := s.toks) (fun b o hb q => eb b o hb q) f0 f1 f3 f4 f5⟩
    · refine wpAny_pyNext_enum_endD (n := i) (fp := [j]) (P := fun _ _ => False) (St := fun k h => k = i ∧ h.IsStrIter j (strIterType x) x t i) ?_ he ⟨rfl, hj⟩ fun h1 eb => ⟨rfl, I.turned (t' := s.toks) (fun b o hb q => eb b o hb q) f0 f1 f3 f4 f5⟩
      have hn : x.cps[i]? = none := Array.getElem?_eq_none hi
      refine ⟨fun k h hst => ?_, fun k h h' hst hk => ?_, fun k s2 Q2 E2 hlt hst _ => ?_, fun s2 Q2 E2 hst hE => ?_⟩
      · obtain ⟨_, o, ho, _⟩ := hst; exact ⟨o, ho⟩
      · obtain ⟨hk1, o, ho, hr⟩ := hst; exact ⟨hk1, o, hk j (by simp) o ho, hr⟩
      · exact absurd hst.1 (Nat.ne_of_lt hlt)
      · have hst2 := hst.2
        unfold strIterType at hst2
        split at hst2
        · exact wpAny_nextOf_ascii_end (I.ok.hd hc) hst2 hn hE
        · exact wpAny_nextOf_wide_end (I.ok.hd hc) hst2 hn hE
  self := fun A i s Q E st h => by
    obtain ⟨⟨_, he⟩, _⟩ := st
    exact wpAny_pyIter_enum he h
theorem yl_enumS {K : PySem.W.Frag} {ι : List Addr} {H : Hp} (s : List Nat) : Yl K (ItE (toS s)) ι H (enumL 0 (strVs s)) := by
  refine ⟨fun i p hp ι2 H2 e => ?_, fun ι2 H2 e => ?_⟩
  · obtain ⟨q, hq, rfl⟩ := enumL_get hp
    obtain ⟨c, hc, rfl⟩ := strVs_get hq
    have hi : i < (toS s).cps.size := by have := (List.getElem?_eq_some_iff.mp hc).1; simpa [toS] using this
    refine ⟨hi, fun w H3 hy => ?_⟩
    obtain ⟨T, d, hd, rfl, hT, rfl⟩ := hy
    rw [toS_at, hc] at hd
    cases hd
    rw [Nat.zero_add]
    exact rv_pair hT (.int _) (.str [c])
  · show (toS s).cps.size ≤ (enumL 0 (strVs s)).length
    rw [enumL_len, strVs_len]
    simp [toS]
/-! ### zip of two texts -/
/-- the signs of x and of y side by side, in new pairs -/
def ItS2 (x y : Str) : It := ⟨fun i _ => i < x.cps.size ∧ i < y.cps.size, fun i H v H' => ∃ T c d, x.cps[i]? = some c ∧ y.cps[i]? = some d ∧ v = .ref T ∧ H T = none ∧ H' = upd H T (.tup [.str ⟨#[c]⟩, .str ⟨#[d]⟩]), fun i _ => x.cps.size ≤ i ∨ y.cps.size ≤ i⟩
theorem turn_zipS {P : Program} {w : World} {K : PySem.W.Frag} {elts : List Expr} {kk : Nat} {tpos : Pos} {z TI TO i1 i2 : Addr} (D : ZipSep2 z TI TO i1 i2 [i1] [i2]) (x y : Str) (t1 t2 : Tok) :
    Turn P w K (.Tuple elts kk tpos) (ItS2 x y) [z, TI, TO, i1, i2] z (fun i h => IsZip h z TI TO .none ∧ IsTupOf2 h TI (.ref i1) (.ref i2) ∧ (∃ a b, IsTupOf2 h TO a b) ∧ h.IsStrIter i1 (strIterType x) x t1 i ∧ h.IsStrIter i2 (strIterType y) y t2 i ∧ i ≤ x.cps.size ∧ i ≤ y.cps.size) where
  mem := by simp
  obj := fun i h st c hc => by
    obtain ⟨hz, hTI, ⟨a, b, hTO⟩, ⟨o1, e1, _, d1⟩, ⟨o2, e2, _, d2⟩, _⟩ := st
    have e' : c = z ∨ c = TI ∨ c = TO ∨ c = i1 ∨ c = i2 := by simpa using hc
    rcases e' with q | q | q | q | q
    · rw [q]; exact ⟨_, hz, fun v q => nomatch q⟩
    · rw [q]; exact ⟨_, hTI, fun v q => nomatch q⟩
    · rw [q]; exact ⟨_, hTO, fun v q => nomatch q⟩
    · rw [q]; exact ⟨o1, e1, fun v q => by rw [d1] at q; cases q⟩
    · rw [q]; exact ⟨o2, e2, fun v q => by rw [d2] at q; cases q⟩
  keep := fun i h h' st k => by
    obtain ⟨hz, hTI, ⟨a, b, hTO⟩, ⟨o1, e1, r1⟩, ⟨o2, e2, r2⟩, hl⟩ := st
    exact ⟨k z (by simp) _ hz, k TI (by simp) _ hTI, ⟨a, b, k TO (by simp) _ hTO⟩, ⟨o1, k i1 (by simp) o1 e1, r1⟩, ⟨o2, k i2 (by simp) o2 e2, r2⟩, hl⟩
  item := by
    intro X hP hw hK hc i pins s σ H E I hf st hg
    subst hP hw hK
    obtain ⟨hz, hTI, ⟨a, b, hTO⟩, h1, h2, l1, l2⟩ := st
    obtain ⟨g1, g2⟩ := hg
    have hzl : z < s.heap.objs.size := Heap.lt_size hz
    have D1 := draws_str (P := X.prog) (w := X.w) (A := X.A.in1) (I.ok.hd hc) i1 x t1
    have D2 := draws_str (P := X.prog) (w := X.w) (A := X.A.in1) (I.ok.hd hc) i2 y t2
    refine wpAny_pyNext_zipD2_item D D1 D2 hz hTI hTO h1 h2 g1 g2 fun x1 x2 h' tk hu hv z' TO' h1' h2' hT hsz hk => ?_
    obtain ⟨c, tc, hcx, rfl⟩ := hu
    obtain ⟨d, td, hdy, rfl⟩ := hv
    refine ⟨_, rfl, wpAny_letOwnedTupleGo_zip (s := { s with heap := h', toks := tk }) z' fun h'' z'' sb => ?_⟩
    have hT2 : h''.get? s.heap.objs.size = some { cls := .type "tuple", data := .seq #[.str ⟨#[c]⟩ tc, .str ⟨#[d]⟩ td] } := (sb.2 _ (Nat.ne_of_gt hzl)).trans hT
    have new : ObjOk X.prog X.w (upd H s.heap.objs.size (.tup [.str ⟨#[c]⟩, .str ⟨#[d]⟩])) h'' s.heap.objs.size (.tup [.str ⟨#[c]⟩, .str ⟨#[d]⟩]) :=
      ⟨by show 2 ≤ sizeLine; decide, [.str ⟨#[c]⟩ tc, .str ⟨#[d]⟩ td], .cons ⟨_, rfl⟩ (.cons ⟨_, rfl⟩ .nil), ⟨_, hT2, rfl, _, rfl⟩⟩
    have I1 : Inv X pins σ (upd H s.heap.objs.size (.tup [.str ⟨#[c]⟩, .str ⟨#[d]⟩])) { s with heap := h'', toks := tk } :=
      I.turnedNew (ch := [z, TI, TO, i1, i2]) (fun b o hb q => (sb.2 b (fun q' => hb (by simp [q']))).trans (hk b o (fun q' => hb (by simp [q'])) (fun q' => hb (by simp [q'])) (fun q' => hb (by simp [q'])) (fun q' => hb (by simp [q'])) q)) hf (Nat.le_refl _) new
    refine ⟨.ref s.heap.objs.size, _, I1, rfl, ⟨_, c, d, hcx, hdy, rfl, I.hok.fresh (Nat.le_refl _), rfl⟩, ⟨z'', ?_, ⟨.str ⟨#[c]⟩ tc, .str ⟨#[d]⟩ td, ?_⟩, ?_, ?_, g1, g2⟩, fun b hbm => ?_⟩
    · exact (sb.2 _ D.TIz).trans (hk _ _ D.TIz D.TITO D.TIi1 D.TIi2 hTI)
    · exact (sb.2 _ D.TOz).trans TO'
    · obtain ⟨o, ho, hr⟩ := h1'
      exact ⟨o, (sb.2 _ (Ne.symm D.zi1)).trans ho, hr⟩
    · obtain ⟨o, ho, hr⟩ := h2'
      exact ⟨o, (sb.2 _ (Ne.symm D.zi2)).trans ho, hr⟩
    · have hlt : b < s.heap.objs.size := by
        have e' : b = z ∨ b = TI ∨ b = TO ∨ b = i1 ∨ b = i2 := by simpa using hbm
        rcases e' with q | q | q | q | q
        · rw [q]; exact hzl
        · rw [q]; exact Heap.lt_size hTI
        · rw [q]; exact Heap.lt_size hTO
        · rw [q]; obtain ⟨_, e1, _⟩ := h1; exact Heap.lt_size e1
        · rw [q]; obtain ⟨_, e2, _⟩ := h2; exact Heap.lt_size e2
      rw [upd_ne (Nat.ne_of_lt hlt)]
      exact (hf b hbm).1
  done := by
    intro X hP hw hK hc i pins s σ H E I hf st hg
    subst hP hw hK
    obtain ⟨hz, hTI, ⟨a, b, hTO⟩, h1, h2, l1, l2⟩ := st
    have D1 := draws_str (P := X.prog) (w := X.w) (A := X.A.in1) (I.ok.hd hc) i1 x t1
    have D2 := draws_str (P := X.prog) (w := X.w) (A := X.A.in1) (I.ok.hd hc) i2 y t2
    refine wpAny_pyNext_zipD2_end D D1 D2 hz hTI hTO h1 h2 l1 l2 (by rcases hg with q | q <;> omega) fun h' tk hk => ⟨rfl, I.turnedL (ch := [z, TI, TO, i1, i2]) (fun c o hb q =>
      hk c o (fun q' => hb (by simp [q'])) (fun q' => hb (by simp [q'])) (fun q' => hb (by simp [q'])) (fun q' => hb (by simp [q'])) q) hf⟩
  self := fun A i s Q E st h => wpAny_pyIter_zip st.1 h
theorem yl_zipS {K : PySem.W.Frag} {ι : List Addr} {H : Hp} (s t : List Nat) : Yl K (ItS2 (toS s) (toS t)) ι H (zipL (strVs s) (strVs t)) := by
  have sz : ∀ u : List Nat, (toS u).cps.size = u.length := fun u => by simp [toS]
  refine ⟨fun i p hp ι2 H2 e => ?_, fun ι2 H2 e => ?_⟩
  · obtain ⟨q, r, hq, hr, rfl⟩ := zipL_get hp
    obtain ⟨c, hc, rfl⟩ := strVs_get hq
    obtain ⟨d, hd, rfl⟩ := strVs_get hr
    refine ⟨⟨by rw [sz]; exact (List.getElem?_eq_some_iff.mp hc).1, by rw [sz]; exact (List.getElem?_eq_some_iff.mp hd).1⟩, fun w H3 hy => ?_⟩
    obtain ⟨T, c', d', hc', hd', rfl, hT, rfl⟩ := hy
    rw [toS_at, hc] at hc'
    rw [toS_at, hd] at hd'
    cases hc'
    cases hd'
    exact rv_pair hT (.str [c]) (.str [d])
  · show (toS s).cps.size ≤ _ ∨ (toS t).cps.size ≤ _
    rw [sz, sz, ← strVs_len s, ← strVs_len t]
    exact zipL_len
def iZip3 (K : PySem.W.Frag) (ta : TA) : TI := fun σ H R => ta σ H fun vs H1 => (∃ a b xs ys, vs = [.ref a, .ref b] ∧ ((SqL K H1 a xs ∧ SqL K H1 b ys ∧ R (Itz K a b) H1) ∨ (SqT K H1 a xs ∧ SqT K H1 b ys ∧ R (ItzT K a b) H1))) ∨ ∃ x y, vs = [.str x, .str y] ∧ R (ItS2 x y) H1
theorem pi_zip3 {X : Cx} {e e2 : Expr} {ta : TA} {p pos tpos : Pos} {elts : List Expr} {kk : Nat} (hg : Gl X "zip") (hm : X.mg "zip" = none) (ha : PA X [e, e2] ta)
    (hs : starEach [e, e2] X.env = (false, eval e X.env) :: starEach [e2] X.env := by rfl) (hpl : (backTo pos (starEach [e2] X.env)).any (·.1) = false := by rfl) :
    PI X (.Tuple elts kk tpos) (.Call (.Name "zip" p) [e, e2] [] pos) (iZip3 X.K ta) := by
  refine ⟨fun pins s σ H R I h => ?_⟩
  refine Call_ (ld_blt I hg hm PyProof.Rows.boot_zip (PyProof.Rows.callWith_type1 (thn (ha.run pos pins s σ H _ I h) fun us s1 ⟨vs, H1, I1, r1, q1⟩ => ?_) hs hpl))
  have fresh5 : ∀ c, c ∈ [s1.heap.objs.size + 4, s1.heap.objs.size + 2, s1.heap.objs.size + 3, s1.heap.objs.size, s1.heap.objs.size + 1] → FpOk X pins H1 c := fun c hcm => by
    have hle : s1.heap.objs.size ≤ c := by
      have e' : c = s1.heap.objs.size + 4 ∨ c = s1.heap.objs.size + 2 ∨ c = s1.heap.objs.size + 3 ∨ c = s1.heap.objs.size ∨ c = s1.heap.objs.size + 1 := by simpa using hcm
      rcases e' with z | z | z | z | z <;> rw [z] <;> first | exact Nat.le_refl _ | exact Nat.le_add_right _ _
    exact I1.fpOk hle (I1.hok.fresh hle)
  rcases q1 with ⟨a, b, xs, ys, ex, q1⟩ | ⟨x, y, ex, q⟩
  · subst ex
    cases r1 with
    | cons r rr =>
      cases rr with
      | cons r' rr =>
        cases rr
        cases r
        cases r'
        rcases q1 with ⟨hqx, hqy, q⟩ | ⟨hqx, hqy, q⟩
        · obtain ⟨its, rv, p1, _⟩ := I1.list hqx
          obtain ⟨its2, rv2, p2, _⟩ := I1.list hqy
          refine call_zip_2 p1.isList p2.isList fun h' hz hTI hTO h1 h2 hsz hk => wpAny_pyIter_zip hz ?_
          exact ⟨s1.heap.objs.size + 4, [s1.heap.objs.size + 4, s1.heap.objs.size + 2, s1.heap.objs.size + 3, s1.heap.objs.size, s1.heap.objs.size + 1], _, _, H1, rfl, I1.kept (t' := s1.toks) hk, turn_zip (PySem.W.ktu_apart s1.heap.objs.size a b p1.lt p2.lt), ⟨hz, hTI, ⟨_, _, hTO⟩, h1, h2⟩, fresh5, q⟩
        · obtain ⟨its, rv, p1, _⟩ := I1.tuple hqx
          obtain ⟨its2, rv2, p2, _⟩ := I1.tuple hqy
          obtain ⟨o1, ho1, _⟩ := id p1
          obtain ⟨o2, ho2, _⟩ := id p2
          refine call_zipT (show s1.heap.IsTuple a its.toArray from p1) (show s1.heap.IsTuple b its2.toArray from p2) fun h' hz hTI hTO h1 h2 hsz hk => wpAny_pyIter_zip hz ?_
          exact ⟨s1.heap.objs.size + 4, [s1.heap.objs.size + 4, s1.heap.objs.size + 2, s1.heap.objs.size + 3, s1.heap.objs.size, s1.heap.objs.size + 1], _, _, H1, rfl, I1.kept (t' := s1.toks) hk, turn_zipT (PySem.W.ktu_apart s1.heap.objs.size a b (Heap.lt_size ho1) (Heap.lt_size ho2)), ⟨hz, hTI, ⟨_, _, hTO⟩, h1, h2⟩, fresh5, q⟩
  · subst ex
    cases r1 with
    | cons r rr =>
      cases rr with
      | cons r' rr =>
        cases rr
        obtain ⟨t1, rfl⟩ := r
        obtain ⟨t2, rfl⟩ := r'
        refine zip_begins2 (begins_text x t1) (begins_text y t2) trivial trivial fun h' hz hTI hTO h1 h2 hsz hk => wpAny_pyIter_zip hz ?_
        exact ⟨s1.heap.objs.size + 4, [s1.heap.objs.size + 4, s1.heap.objs.size + 2, s1.heap.objs.size + 3, s1.heap.objs.size, s1.heap.objs.size + 1], _, _, H1, rfl, I1.kept (t' := s1.toks) hk, turn_zipS (zip_sep2 (by simp) (by simp)) x y t1 t2, ⟨hz, hTI, ⟨_, _, hTO⟩, ⟨_, h1, rfl, rfl⟩, ⟨_, h2, rfl, rfl⟩, Nat.zero_le _, Nat.zero_le _⟩, fresh5, q⟩
/-! ### by value -/
section
variable {X : Cx} {tg e : Expr}
def iAny (K : PySem.W.Frag) (te : TE) : TI := fun σ H R => te σ H fun v H1 =>
  (∃ a xs, v = .ref a ∧ SqL K H1 a xs ∧ R (Itl K a) H1) ∨ (∃ a xs, v = .ref a ∧ SqT K H1 a xs ∧ R (Itt K a) H1) ∨ ∃ x, v = .str x ∧ R (Its x) H1
theorem pi_any {te : TE} (he : PE X e te) : PI X tg e (iAny X.K te) := by
  refine ⟨fun pins s σ H R I h => thn (he.run pins s σ H _ I h) fun v s1 ⟨y, H1, J1, r1, q1⟩ => ?_⟩
  rcases q1 with ⟨a, xs, rfl, hq, q⟩ | ⟨a, xs, rfl, hq, q⟩ | ⟨x, rfl, q⟩
  · cases r1
    obtain ⟨us, _, pl, _⟩ := J1.list hq
    exact wpAny_pyIter_list pl.isList (pi_one (tk := s1.toks) J1 _ (turn_list a _) ⟨_, Heap.get?_push_size _ rfl, rfl, rfl⟩ q)
  · cases r1
    obtain ⟨us, _, pl, _⟩ := J1.tuple hq
    exact wpAny_pyIter_tuple (show s1.heap.IsTuple a us.toArray from pl) (pi_one (tk := s1.toks) J1 _ (turn_tuple a _) ⟨_, Heap.get?_push_size _ rfl, rfl, rfl⟩ q)
  · obtain ⟨t, rfl⟩ := r1
    cases hx : x.cps.all (· < 128) with
    | false => exact wpAny_pyIter_wide hx (pi_one (tk := s1.toks) J1 _ (turn_str _ x t _ (.inr rfl)) ⟨_, Heap.get?_push_size _ rfl, rfl, rfl⟩ q)
    | true => exact wpAny_pyIter_ascii hx (pi_one (tk := s1.toks) J1 _ (turn_str _ x t _ (.inl rfl)) ⟨_, Heap.get?_push_size _ rfl, rfl, rfl⟩ q)
def iEn (K : PySem.W.Frag) (ta : TA) : TI := fun σ H R => ta σ H fun vs H1 => (∃ a xs, vs = [.ref a] ∧ SqL K H1 a xs ∧ R (Ite K a) H1) ∨ ∃ x, vs = [.str x] ∧ R (ItE x) H1
theorem pi_en {ta : TA} {p pos tpos : Pos} {elts : List Expr} {kk : Nat} (hg : Gl X "enumerate") (hm : X.mg "enumerate" = none) (ha : PA X [e] ta) (hs : starEach [e] X.env = [(false, eval e X.env)]) :
    PI X (.Tuple elts kk tpos) (.Call (.Name "enumerate" p) [e] [] pos) (iEn X.K ta) := by
  refine ⟨fun pins s σ H R I h => Call_ (ld_blt I hg hm boot_enumerate (PyProof.Rows.callWith_type1 (thn (ha.run pos pins s σ H _ I h) fun us s1 ⟨vs, H1, J1, r1, q1⟩ => ?_) hs rfl))⟩
  have foot : ∀ b, b ∈ [s1.heap.objs.size + 1, s1.heap.objs.size] → FpOk X pins H1 b := fun b hb => by
    have hle : s1.heap.objs.size ≤ b := by
      rcases List.mem_cons.mp hb with z | z
      · rw [z]; exact Nat.le_succ _
      · rcases List.mem_cons.mp z with z | z
        · rw [z]; exact Nat.le_refl _
        · cases z
    exact J1.fpOk hle (J1.hok.fresh hle)
  rcases q1 with ⟨a, xs, rfl, hq, q⟩ | ⟨x, rfl, q⟩
  · obtain ⟨u, rfl, ru⟩ := vals1 r1
    cases ru
    obtain ⟨us, _, pl, _⟩ := J1.list hq
    refine call_enumerate_list pl.isList fun h1 he hj hz hk => wpAny_pyIter_enum he ?_
    exact ⟨_, [s1.heap.objs.size + 1, s1.heap.objs.size], _, _, H1, rfl, J1.kept (t' := s1.toks) hk, turn_enum a _ _, ⟨⟨.none, he⟩, hj, Nat.succ_ne_self _⟩, foot, q⟩
  · obtain ⟨u, rfl, ru⟩ := vals1 r1
    obtain ⟨t, rfl⟩ := ru
    refine call_enumerate_str fun h1 he hj hz hk => wpAny_pyIter_enum he ?_
    exact ⟨_, [s1.heap.objs.size + 1, s1.heap.objs.size], _, _, H1, rfl, J1.kept (t' := s1.toks) hk, turn_enumS _ _ x t, ⟨⟨.none, he⟩, hj, Nat.succ_ne_self _⟩, foot, q⟩
end
/-! ### the pairs of a dict that never changes -/
def ItD (d : Addr) (o : Obj) (u : HO) (kas : List Addr) (xvs : List V) (n : Nat) : It :=
  ⟨fun i H => H d = some (.frz o u) ∧ i < n, fun i H x H' => ∃ T ka v, (kas[i]? = some ka ∧ xvs[i]? = some v) ∧ x = .ref T ∧ H T = none ∧ H' = upd H T (.tup [.ref ka, v]), fun i H => H d = some (.frz o u) ∧ n ≤ i⟩
theorem turn_dict {P : Program} {w : World} {K : PySem.W.Frag} {elts : List Expr} {kk : Nat} {tpos : Pos} {d : Addr} {o : Obj} {u : HO} {es : Array DictEntry} {ep : Nat} {kas : List Addr} {xvs : List V} (it : Addr) (hx : o.ExactDict) (hod : o.data = .dict es ep)
    (hk : es.toList.map (·.key) = kas.map Value.ref) (hv : Vals xvs (es.toList.map (·.val))) :
    Turn P w K (.Tuple elts kk tpos) (ItD d o u kas xvs es.size) [it] it (fun i h => ∃ ok ov, IsItemIter h it d i es.size ep ok ov) where
  mem := List.mem_singleton.mpr rfl
  obj := fun i h ⟨ok, ov, e⟩ b hb => by
    rw [List.mem_singleton.mp hb]
    exact ⟨_, e, fun v z => by cases z⟩
  keep := fun i h h' ⟨ok, ov, e⟩ k => ⟨ok, ov, k it (List.mem_singleton.mpr rfl) _ e⟩
  item := by
    intro X hP hw hK hc i pins s σ H E I hf ⟨ok, ov, he⟩ ⟨hd, hi⟩
    subst hP hw hK
    have raw : s.heap.DictRaw d es ep := ⟨o, (I.hok d _ hd).1, hx, hod⟩
    have lt : it < s.heap.objs.size := Heap.lt_size he
    have hi2 : i < es.toList.length := by simpa using hi
    have k1 : (es.toList.map (·.key))[i]? = some es[i].key := by
      rw [List.getElem?_map, List.getElem?_eq_getElem hi2]
      simp
    rw [hk, List.getElem?_map] at k1
    obtain ⟨ka, hka, eka⟩ : ∃ ka, kas[i]? = some ka ∧ Value.ref ka = es[i].key := by
      cases e : kas[i]? with
      | none => rw [e] at k1; cases k1
      | some ka => rw [e] at k1; exact ⟨ka, rfl, by injection k1⟩
    have hl : xvs.length = es.size := by rw [hv.length]; simp
    obtain ⟨v, hxv⟩ : ∃ v, xvs[i]? = some v := ⟨xvs[i]'(by omega), List.getElem?_eq_getElem (by omega)⟩
    obtain ⟨u', hu', ru⟩ := hv.get hxv
    have eu : u' = es[i].val := by
      rw [List.getElem?_map, List.getElem?_eq_getElem hi2] at hu'
      simpa using hu'.symm
    refine wpAny_pyNext_items_item_raw he raw hi fun h1 a1 a2 a3 a4 => ⟨_, rfl, wpAny_letOwnedTupleGo_items (s := { s with heap := h1 }) a1 fun h2 b1 b2 => ?_⟩
    have T2 : h2.get? s.heap.objs.size = some { cls := .type "tuple", data := .seq #[es[i].key, es[i].val] } := (b2.2 _ (Nat.ne_of_gt lt)).trans a2
    have new : ObjOk X.prog X.w (upd H s.heap.objs.size (.tup [.ref ka, v])) h2 s.heap.objs.size (.tup [.ref ka, v]) :=
      ⟨by show 2 ≤ sizeLine; decide, [es[i].key, es[i].val], .cons eka.symm (.cons (by rw [← eu]; exact ru) .nil), ⟨_, T2, rfl, _, rfl⟩⟩
    have J := I.turnedNew (h' := h2) (t' := s.toks) (ch := [it]) (fun b ob hb e => (b2.2 b (by simpa using hb)).trans (a4 b ob (by simpa using hb) e)) hf (Nat.le_refl _) new
    refine ⟨.ref s.heap.objs.size, _, J, rfl, ⟨_, ka, v, ⟨hka, hxv⟩, rfl, I.hok.fresh (Nat.le_refl _), rfl⟩, ⟨_, _, b1⟩, fun b hb => ?_⟩
    rw [List.mem_singleton.mp hb, upd_ne (Nat.ne_of_lt lt)]
    exact (hf it (List.mem_singleton.mpr rfl)).1
  done := by
    intro X hP hw hK hc i pins s σ H E I hf ⟨ok, ov, he⟩ ⟨hd, hi⟩
    subst hP hw hK
    obtain ⟨f0, f1, f2, f3, f4, f5⟩ := hf it (List.mem_singleton.mpr rfl)
    have raw : s.heap.DictRaw d es ep := ⟨o, (I.hok d _ hd).1, hx, hod⟩
    exact wpAny_pyNext_items_end_raw (I.ok.hd hc) he raw hi fun h1 eb => ⟨rfl, I.turned (t' := s.toks) (fun b ob hb e => eb b ob hb e) f0 f1 f3 f4 f5⟩
  self := fun A i s Q E ⟨_, _, e⟩ h => PySem.W.kcp_self e h
def iDict (td : TE) : TI := fun σ H R => td σ H fun x H1 => ∃ d o u es ep kas xvs, (x = .ref d ∧ H1 d = some (.frz o u) ∧ (d == sysModules) = false) ∧ o.ExactDict ∧ o.data = .dict es ep ∧ (es.toList.map (·.key) = kas.map Value.ref ∧ Vals xvs (es.toList.map (·.val))) ∧ R (ItD d o u kas xvs es.size) H1
theorem pi_dict {X : Cx} {e : Expr} {td : TE} {apos cpos tpos : Pos} {elts : List Expr} {kk : Nat} (he : PE X e td) (hbase : attributeBase e "items" X.env (eval e X.env) = eval e X.env) (hline : (apos.endLine == cpos.line) = true) :
    PI X (.Tuple elts kk tpos) (.Call (.Attribute e "items" apos) [] [] cpos) (iDict td) := by
  refine ⟨fun pins s σ H R I h => wpAny_Call_method (T := "dict") (id := "dict.items") hbase rfl hline PySem.F.plainAttrs_dict PySem.F.slot_dict_items PySem.F.type_dict_items (thn (he.run pins s σ H _ I h) fun u s1 ⟨x, H1, I1, rx, d, o, u', es, ep, kas, xvs, ⟨ex, hd, hs⟩, hx, hdt, ⟨hk, hv⟩, q⟩ => ?_)⟩
  subst ex
  obtain rfl : u = Value.ref d := rx
  have at_ : s1.heap.get? d = some o := (I1.hok d _ hd).1
  have ty : s1.TypeIs (.ref d) "dict" := ⟨o, at_, hx.1⟩
  refine ⟨ty, fun b e => by injection e with e; subst e; exact ⟨o, at_, hx.2.1⟩, ?_⟩
  have I2 : L2.Inv X pins σ H1 { s1 with heap := s1.heap.push { cls := .type "dict_items", data := .fields #[.ref d] } } := I1.kept (t' := s1.toks) fun b ob q => Heap.get?_push_of_some _ q
  have raw : s1.heap.DictRaw d es ep := ⟨o, at_, hx, hdt⟩
  have raw2 : (s1.heap.push { cls := .type "dict_items", data := .fields #[.ref d] }).DictRaw d es ep := ⟨o, Heap.get?_push_of_some _ at_, hx, hdt⟩
  have go : wpAny (model X.prog X.w) X.A (pyIter (.ref s1.heap.objs.size)) (PIE X pins σ (.Tuple elts kk tpos) R) X.xe { s1 with heap := s1.heap.push { cls := .type "dict_items", data := .fields #[.ref d] } } :=
    wpAny_pyIter_items_raw (d := d) ⟨_, Heap.get?_push_size _ rfl, rfl, rfl⟩ raw2 (pi_one (tk := s1.toks) I2 _ (turn_dict _ hx hdt hk hv) ⟨.none, .none, Heap.get?_push_size _ rfl⟩ q)
  show wpAny _ _ (callWith cpos (.builtin "dict.items") [.ref d] [] []) _ X.xe s1
  exact method_meetsIn PySem.F.slot_dict_items PySem.F.entry_dict_items rfl (PySem.evalArgs_none ⟨rfl, ty, PySem.F.args_dict_items_1 _, _, meets_dict_items_raw d hs, ⟨es, ep, raw⟩, go⟩)
theorem yl_dict {K : PySem.W.Frag} {ι : List Addr} {H : Hp} {d : Addr} {o : Obj} {u : HO} {kas : List Addr} {xvs : List V} {ks vs : List PV} {n : Nat} (h : H d = some (.frz o u)) (r : Rvs K ι H (kas.map V.ref) ks) (r' : Rvs K ι H xvs vs) (h1 : kas.length = n) (h2 : xvs.length = n) :
    Yl K (ItD d o u kas xvs n) ι H (zipL ks vs) := by
  have l1 : ks.length = n := by rw [← r.length, List.length_map]; exact h1
  have l2 : vs.length = n := by rw [← r'.length]; exact h2
  refine ⟨fun i p hp ι2 H2 e => ?_, fun ι2 H2 e => ⟨e.fx _ _ h trivial, ?_⟩⟩
  · obtain ⟨x, y, hx, hy, rfl⟩ := zipL_get hp
    have hin : i < n := by rw [← l1]; exact (List.getElem?_eq_some_iff.mp hx).1
    obtain ⟨v, hv, rv⟩ := r.get hx
    obtain ⟨w, hw, rw'⟩ := r'.get hy
    refine ⟨⟨e.fx _ _ h trivial, hin⟩, fun w' H3 hyl => ?_⟩
    obtain ⟨T, ka, v', ⟨g1, g2⟩, rfl, hT, rfl⟩ := hyl
    rw [List.getElem?_map, g1] at hv
    cases hv
    rw [hw] at g2
    cases g2
    exact rv_pair hT (rv.up e) (rw'.up e)
  · rcases zipL_len (ps := ks) (qs := vs) with z | z <;> omega
/-! ### as readings -/
section
variable {X : Cx} {nm : Nm} {tg e e2 : Expr} {fa fb : FE} {p pos tpos : Pos} {elts : List Expr} {kk : Nat}
theorem qi_any (he : PE X e (tE nm X.K fa)) : PI X tg e (tI nm X.K fun ρ M Q => fa ρ M fun x M1 => match items M1 x with
    | some xs => Q xs M1
    | none => False) :=
  PI.of (pi_any he) fun σ H R ⟨ι, ρ, M, Qp, s, hf, k⟩ => ⟨ι, ρ, M, _, s, hf, fun px M1 h1 ι1 H1 x e1 m1 r1 => by
    cases r1 with
    | str s => exact .inr (.inr ⟨_, rfl, k _ M1 h1 ι1 H1 _ e1 m1 (yl_str s)⟩)
    | tup hq r => exact .inr (.inl ⟨_, _, rfl, hq, k _ M1 h1 ι1 H1 _ e1 m1 (yl_tup hq r)⟩)
    | @lst a o xs ps hq r => exact .inl ⟨_, xs, rfl, .inl (.inr ⟨o, hq⟩), k _ M1 h1 ι1 H1 _ e1 m1 (yl_list hq r)⟩
    | _ => exact False.elim h1⟩
theorem qi_dict {apos cpos : Pos} (he : PE X e (tE nm X.K fa)) (hbase : attributeBase e "items" X.env (eval e X.env) = eval e X.env) (hline : (apos.endLine == cpos.line) = true) :
    PI X (.Tuple elts kk tpos) (.Call (.Attribute e "items" apos) [] [] cpos) (tI nm X.K fun ρ M Q => fa ρ M fun x M1 => match x with
      | .dct ks vs => ks.all isTup = true ∧ Q (zipL ks vs) M1
      | _ => False) :=
  PI.of (pi_dict he hbase hline) fun σ H R ⟨ι, ρ, M, Qp, s, hf, k⟩ => ⟨ι, ρ, M, _, s, hf, fun px M1 h1 ι1 H1 x e1 m1 r1 => by
    cases r1 with
    | dct g0 g1 g2 g3 => exact (txt_tup g0 h1.1).elim
    | @dcd a o u es ep kas xvs ks vs g1 g2 g3 g4 g5 g6 g7 g8 g9 =>
      have l1 : kas.length = es.size := by
        have := congrArg List.length g5
        rw [List.length_map, List.length_map] at this
        rw [← this]
        simp
      have l2 : xvs.length = es.size := by rw [g6.length]; simp
      exact ⟨a, o, u, es, ep, kas, xvs, ⟨rfl, g1, g2.1⟩, g2.2, g3, ⟨g5, g6⟩, k _ M1 h1.2 ι1 H1 _ e1 m1 (yl_dict g1 g8 g9 l1 l2)⟩
    | _ => exact False.elim h1⟩
theorem qi_enum (hg : Gl X "enumerate") (hm : X.mg "enumerate" = none) (he : PE X e (tE nm X.K fa)) (hs : starEach [e] X.env = [(false, eval e X.env)]) :
    PI X (.Tuple elts kk tpos) (.Call (.Name "enumerate" p) [e] [] pos) (tI nm X.K fun ρ M Q => fa ρ M fun x M1 => match x with
      | .str s => Q (enumL 0 (strVs s)) M1
      | .lst xs => Q (enumL 0 xs) M1
      | _ => False) :=
  PI.of (pi_en hg hm (pa_cons he pa_nil (by rw [hs]; rfl)) hs) fun σ H R ⟨ι, ρ, M, Qp, s, hf, k⟩ => ⟨ι, ρ, M, _, s, hf, fun px M1 h1 ι1 H1 x e1 m1 r1 => by
    cases r1 with
    | str s => exact .inr ⟨_, rfl, k _ M1 h1 ι1 H1 _ e1 m1 (yl_enumS s)⟩
    | @lst a o xs ps hq r => exact .inl ⟨_, xs, rfl, .inl (.inr ⟨o, hq⟩), k _ M1 h1 ι1 H1 _ e1 m1 (yl_enum hq r)⟩
    | _ => exact False.elim h1⟩
theorem qi_zip (hg : Gl X "zip") (hm : X.mg "zip" = none) (he : PE X e (tE nm X.K fa)) (he2 : PE X e2 (tE nm X.K fb)) (hs : starEach [e, e2] X.env = (false, eval e X.env) :: starEach [e2] X.env) (hs2 : starEach [e2] X.env = [(false, eval e2 X.env)]) :
    PI X (.Tuple elts kk tpos) (.Call (.Name "zip" p) [e, e2] [] pos) (tI nm X.K fun ρ M Q => fa ρ M fun x M1 => fb ρ M1 fun y M2 => match x, y with
      | .tup xs, .tup ys => Q (zipL xs ys) M2
      | .lst xs, .lst ys => Q (zipL xs ys) M2
      | .str s, .str t => Q (zipL (strVs s) (strVs t)) M2
      | _, _ => False) :=
  PI.of (pi_zip3 hg hm (pa_cons he (pa_cons he2 pa_nil (by rw [hs2]; rfl)) hs) hs (by rw [hs2]; rfl)) fun σ H R ⟨ι, ρ, M, Qp, s, hf, k⟩ =>
    two_of s hf fun ι2 H2 M2 x y px py e2 m2 r1 r2 h2 => by
      cases r1 with
      | tup q r =>
        cases r2 with
        | tup q' r' => exact .inl ⟨_, _, _, _, rfl, .inr ⟨q, q', k _ M2 h2 ι2 H2 _ e2 m2 (yl_zipT q r q' r')⟩⟩
        | _ => exact False.elim h2
      | @lst a o xs ps q r =>
        cases r2 with
        | @lst b o' ys ps' q' r' => exact .inl ⟨_, _, _, _, rfl, .inl ⟨.inl (.inr ⟨o, q⟩), .inl (.inr ⟨o', q'⟩), k _ M2 h2 ι2 H2 _ e2 m2 (yl_zipL q r q' r')⟩⟩
        | _ => exact False.elim h2
      | str u =>
        cases r2 with
        | str v => exact .inr ⟨_, _, rfl, k _ M2 h2 ι2 H2 _ e2 m2 (yl_zipS u v)⟩
        | _ => exact False.elim h2
      | _ => exact False.elim h2
theorem qi_rng1 (hg : Gl X "range") (hm : X.mg "range" = none) (he : PE X e (tE nm X.K fa)) (hs : starEach [e] X.env = [(false, eval e X.env)]) :
    PI X tg (.Call (.Name "range" p) [e] [] pos) (tI nm X.K fun ρ M Q => fa ρ M fun x M1 => match x with
      | .int j => (-(2 ^ 62) ≤ j ∧ j < 2 ^ 62) ∧ Q (rngL 0 j.toNat) M1
      | _ => False) :=
  PI.of (pi_range1 hg hm (pa_cons he pa_nil (by rw [hs]; rfl)) hs) fun σ H R ⟨ι, ρ, M, Qp, s, hf, k⟩ => ⟨ι, ρ, M, _, s, hf, fun px M1 h1 ι1 H1 x e1 m1 r1 => by
    cases r1 with
    | int j => exact ⟨j, rfl, h1.1.1, h1.1.2, k _ M1 h1.2 ι1 H1 _ e1 m1 (yl_rng _ _)⟩
    | _ => exact False.elim h1⟩
theorem qi_rng2 (hg : Gl X "range") (hm : X.mg "range" = none) (he : PE X e (tE nm X.K fa)) (he2 : PE X e2 (tE nm X.K fb)) (hs : starEach [e, e2] X.env = [(false, eval e X.env), (false, eval e2 X.env)]) (hs2 : starEach [e2] X.env = [(false, eval e2 X.env)]) :
    PI X tg (.Call (.Name "range" p) [e, e2] [] pos) (tI nm X.K fun ρ M Q => fa ρ M fun x M1 => fb ρ M1 fun y M2 => match x, y with
      | .int i, .int j => (-(2 ^ 62) ≤ i ∧ i < 2 ^ 62 ∧ -(2 ^ 62) ≤ j ∧ j < 2 ^ 62) ∧ Q (rngL i (j - i).toNat) M2
      | _, _ => False) :=
  PI.of (pi_range2 hg hm (pa_cons he (pa_cons he2 pa_nil (by rw [hs2]; rfl)) (by rw [hs, hs2])) hs hs2) fun σ H R ⟨ι, ρ, M, Qp, s, hf, k⟩ =>
    two_of s hf fun ι2 H2 M2 x y px py e2 m2 r1 r2 h2 => by
      cases r1 with
      | int i =>
        cases r2 with
        | int j => exact ⟨i, j, rfl, h2.1, k _ M2 h2.2 ι2 H2 _ e2 m2 (yl_rng _ _)⟩
        | _ => exact False.elim h2
      | _ => exact False.elim h2
end
end Qt
/-! ### targets, statements, list comprehensions as readings -/
namespace Qt
open PySem PySem.Spec PyProof.Rows L2
abbrev FS := Rho → Mem → En → Prop
/-- a list that a statement has put into a slot is locked behind it -/
theorem PS.post {X : Cx} {st : Stmt} {i : Nat} {t : TE} (h : PS X st (tAsg t (gName i))) : PS X st (fun D σ H => t σ H fun v H' => ∃ p u, H' p = some u ∧ Mut (some u) ∧ ∀ od, D.nx (σ.set i (some v)) (upd H' p (.frz od u))) :=
  ⟨fun pins s σ H D I q => thn (h.run pins s σ H { D with nx := fun σ' H' => ∃ p u, H' p = some u ∧ Mut (some u) ∧ ∀ od, D.nx σ' (upd H' p (.frz od u)) } I q) fun f s1 r => by
    cases f with
    | next =>
      obtain ⟨σ', H', J, p, u, hu, mu, k⟩ := r
      obtain ⟨od, J2⟩ := J.lock hu mu
      exact ⟨σ', _, J2, k od⟩
    | brk => exact r
    | cont => exact r
    | ret v => exact r⟩
structure EnOk (nm : Nm) (K : PySem.W.Frag) (W : WX) (ι : List Addr) (H : Hp) (Dp : En) (D : Ends) : Prop where
  nx : ∀ ρ' M', Dp.nx ρ' M' → ∀ ι' H' σ', Ext ι H ι' H' → Sim nm K ι' H' M' σ' ρ' → D.nx σ' H'
  rt : KpM nm K ι H Dp.rt D.rt
  ct : ∀ ρ' M', Dp.ct ρ' M' → ∀ ι' H' σ', Ext ι H ι' H' → Sim nm K ι' H' M' σ' ρ' → D.ct σ' H'
  ex : ∀ c fs M', Dp.ex c fs M' → ∀ ι' H' σ' cls d, Ext ι H ι' H' → Rm nm K ι' H' M' → XR nm K ι' H' c fs cls d → W cls d σ' H'
def tS (nm : Nm) (K : PySem.W.Frag) (W : WX) (f : FS) : TS := fun D σ H => ∃ ι ρ M Dp, Sim nm K ι H M σ ρ ∧ f ρ M Dp ∧ EnOk nm K W ι H Dp D
theorem PS.of {X : Cx} {e : Stmt} {t t' : TS} (h : PS X e t) (i : ∀ D σ H, t' D σ H → t D σ H) : PS X e t' := ⟨fun pins s σ H D I q => h.run pins s σ H D I (i D σ H q)⟩
theorem PSs.of {X : Cx} {e : List Stmt} {t t' : TS} (h : PSs X e t) (i : ∀ D σ H, t' D σ H → t D σ H) : PSs X e t' := ⟨fun pins s σ H D I q => h.run pins s σ H D I (i D σ H q)⟩
theorem PG.of {X : Cx} {e : Expr} {t t' : TG} (h : PG X e t) (i : ∀ v σ H Q, t' v σ H Q → t v σ H Q) : PG X e t' := ⟨fun pins s σ H v u Q I r q => h.run pins s σ H v u Q I r (i v σ H Q q)⟩
section
variable {X : Cx} {nm : Nm} {K : PySem.W.Frag} {W : WX} {ι ι' : List Addr} {H H' : Hp} {M M' : Mem} {σ : L2.St} {ρ : Rho} {Dp : En} {D : Ends}
theorem EnOk.up (k : EnOk nm K W ι H Dp D) (e : Ext ι H ι' H') : EnOk nm K W ι' H' Dp D :=
  ⟨fun ρ' M' h ι2 H2 σ' e2 s => k.nx ρ' M' h ι2 H2 σ' (e.trans e2) s, fun p M' h ι2 H2 v e2 m r => k.rt p M' h ι2 H2 v (e.trans e2) m r, fun ρ' M' h ι2 H2 σ' e2 s => k.ct ρ' M' h ι2 H2 σ' (e.trans e2) s, fun c fs M' h ι2 H2 σ' cls d e2 m x => k.ex c fs M' h ι2 H2 σ' cls d (e.trans e2) m x⟩
theorem Sim.set (s : Sim nm K ι H M σ ρ) (i : Nat) {v : V} {p : PV} (r : Rv K ι H v p) : Sim nm K ι H M (σ.set i (some v)) (ρ.set i (some p)) :=
  ⟨s.m, s.r.set s.l i r, by rw [List.length_set, List.length_set]; exact s.l⟩
/-! ### targets -/
def gts : List Nat → TGs
  | [] => gNil
  | i :: is => gCons (gName i) (gts is)
theorem gts_of : ∀ {is : List Nat} {ps : List PV} {vs : List V} {σ : L2.St} {ρ ρ' : Rho} {Q : L2.St → Hp → Prop}, Sim nm K ι H M σ ρ → Rvs K ι H vs ps → setTs is ps ρ = some ρ' →
    (∀ σ', Sim nm K ι H M σ' ρ' → (∀ js, is ⊆ js → L2.wipe σ' js = L2.wipe σ js) → Q σ' H) → gts is vs σ H Q
  | [], [], vs, σ, ρ, ρ', Q, s, r, e, k => by
    cases r
    cases e
    exact ⟨rfl, k σ s fun _ _ => rfl⟩
  | [], _ :: _, _, _, _, _, _, _, _, e, _ => by cases e
  | _ :: _, [], _, _, _, _, _, _, _, e, _ => by cases e
  | i :: is, p :: ps, vs, σ, ρ, ρ', Q, s, r, e, k => by
    cases r with | @cons v vs' _ _ r1 r2 =>
    refine ⟨v, vs', rfl, ?_⟩
    show gts is vs' (σ.set i (some v)) H Q
    refine gts_of (s.set i r1) r2 e fun σ' s' hw => k σ' s' fun js hj => ?_
    rw [hw js fun x hx => hj (List.mem_cons_of_mem _ hx)]
    exact wipe_set (hj (List.mem_cons_self ..))
where
  wipe_set {σ : L2.St} {i : Nat} {v : Option V} : ∀ {js : List Nat}, i ∈ js → L2.wipe (σ.set i v) js = L2.wipe σ js
    | j :: js, h => by
      unfold L2.wipe
      by_cases hj : i ∈ js
      · rw [wipe_set hj]
      · rcases List.mem_cons.mp h with rfl | h
        · rw [wipe_out' hj, List.set_set]
        · exact absurd h hj
  wipe_out' {σ : L2.St} {i : Nat} {v : Option V} : ∀ {js : List Nat}, i ∉ js → L2.wipe (σ.set i v) js = (L2.wipe σ js).set i v
    | [], _ => rfl
    | j :: js, h => by
      unfold L2.wipe
      rw [wipe_out' (fun z => h (List.mem_cons_of_mem _ z)), List.set_comm]
      exact fun z => h (by rw [z]; exact List.mem_cons_self ..)
/-- a loop's target -/
def tG (nm : Nm) (K : PySem.W.Frag) (t : List Nat) (single : Bool) : TG := fun v σ H Q => ∃ ι ρ M p ρ', Sim nm K ι H M σ ρ ∧ Rv K ι H v p ∧ setT t single p ρ = some ρ' ∧ ∀ σ', Sim nm K ι H M σ' ρ' → (∀ js, t ⊆ js → L2.wipe σ' js = L2.wipe σ js) → Q σ' H
theorem qg_name {tg : Expr} {i : Nat} (h : PG X tg (gName i)) : PG X tg (tG nm X.K [i] true) :=
  PG.of h fun v σ H Q ⟨ι, ρ, M, p, ρ', s, r, e, k⟩ => by
    have e' : some (ρ.set i (some p)) = some ρ' := e
    cases e'
    exact k _ (s.set i r) fun js hj => gts_of.wipe_set (hj (List.mem_cons_self ..))
theorem qg_tup {tg : Expr} {t : List Nat} (h : PG X tg (gTup X.K t.length (gts t))) : PG X tg (tG nm X.K t false) :=
  PG.of h fun v σ H Q ⟨ι, ρ, M, p, ρ', s, r, e, k⟩ => by
    cases r with
    | @tup a xs ps hq r =>
      have e' : setTs t ps ρ = some ρ' := e
      have hl : ∀ {is : List Nat} {ps : List PV} {ρ ρ' : Rho}, setTs is ps ρ = some ρ' → ps.length = is.length := by
        intro is
        induction is with
        | nil => intro ps ρ ρ' e; cases ps with
          | nil => rfl
          | cons _ _ => cases e
        | cons i is ih => intro ps ρ ρ' e; cases ps with
          | nil => cases e
          | cons p ps => simp only [List.length_cons, ih (show setTs is ps (ρ.set i (some p)) = some ρ' from e)]
      exact ⟨a, xs, rfl, hq, by rw [r.length, hl e'], gts_of s r e' k⟩
    | _ => cases e
/-- a target with tuples in it -/
def gns (K : PySem.W.Frag) : List TN → TGs
  | [] => gNil
  | .v i :: is => gCons (gName i) (gns K is)
  | .t js :: is => gCons (gTup K js.length (gts js)) (gns K is)
theorem setTs_len : ∀ {is : List Nat} {ps : List PV} {ρ ρ' : Rho}, setTs is ps ρ = some ρ' → ps.length = is.length
  | [], [], _, _, _ => rfl
  | [], _ :: _, _, _, e => by cases e
  | _ :: _, [], _, _, e => by cases e
  | i :: is, p :: ps, ρ, ρ', e => congrArg (· + 1) (setTs_len (show setTs is ps (ρ.set i (some p)) = some ρ' from e))
theorem setN_len : ∀ {is : List TN} {ps : List PV} {ρ ρ' : Rho}, setN is ps ρ = some ρ' → ps.length = is.length
  | [], [], _, _, _ => rfl
  | [], _ :: _, _, _, e => by cases e
  | .v _ :: _, [], _, _, e => by cases e
  | .t _ :: _, [], _, _, e => by cases e
  | .v i :: is, p :: ps, ρ, ρ', e => congrArg (· + 1) (setN_len (show setN is ps (ρ.set i (some p)) = some ρ' from e))
  | .t js :: is, p :: ps, ρ, ρ', e => by
    cases p with
    | tup us =>
      have e' : (match setTs js us ρ with
        | some ρ' => setN is ps ρ'
        | none => none) = some ρ' := e
      cases e1 : setTs js us ρ with
      | none => simp only [e1] at e'; cases e'
      | some ρ1 =>
        simp only [e1] at e'
        exact congrArg (· + 1) (setN_len e')
    | _ => cases e
theorem gns_of : ∀ {is : List TN} {ps : List PV} {vs : List V} {σ : L2.St} {ρ ρ' : Rho} {Q : L2.St → Hp → Prop}, Sim nm K ι H M σ ρ → Rvs K ι H vs ps → setN is ps ρ = some ρ' →
    (∀ σ', Sim nm K ι H M σ' ρ' → Q σ' H) → gns K is vs σ H Q
  | [], [], vs, σ, ρ, ρ', Q, s, r, e, k => by
    cases r
    cases e
    exact ⟨rfl, k σ s⟩
  | [], _ :: _, _, _, _, _, _, _, _, e, _ => by cases e
  | .v _ :: _, [], _, _, _, _, _, _, _, e, _ => by cases e
  | .t _ :: _, [], _, _, _, _, _, _, _, e, _ => by cases e
  | .v i :: is, p :: ps, vs, σ, ρ, ρ', Q, s, r, e, k => by
    cases r with | @cons v vs' _ _ r1 r2 =>
    refine ⟨v, vs', rfl, ?_⟩
    show gns K is vs' (σ.set i (some v)) H Q
    exact gns_of (s.set i r1) r2 e k
  | .t js :: is, p :: ps, vs, σ, ρ, ρ', Q, s, r, e, k => by
    cases r with | @cons v vs' _ _ r1 r2 =>
    cases p with
    | tup us =>
      have e' : (match setTs js us ρ with
        | some ρ' => setN is ps ρ'
        | none => none) = some ρ' := e
      cases e1 : setTs js us ρ with
      | none => simp only [e1] at e'; cases e'
      | some ρ1 =>
        simp only [e1] at e'
        cases r1 with | @tup a xs _ hq rs =>
        refine ⟨_, vs', rfl, ?_⟩
        show gTup K js.length (gts js) (.ref a) σ H fun σ1 H1 => gns K is vs' σ1 H1 Q
        exact ⟨a, xs, rfl, hq, by rw [rs.length, setTs_len e1], gts_of s rs e1 fun σ1 s1 _ => gns_of s1 r2 e' k⟩
    | _ => cases e
def tNg (nm : Nm) (K : PySem.W.Frag) (t : List TN) : TG := fun v σ H Q => ∃ ι ρ M ps ρ', Sim nm K ι H M σ ρ ∧ Rv K ι H v (.tup ps) ∧ setN t ps ρ = some ρ' ∧ ∀ σ', Sim nm K ι H M σ' ρ' → Q σ' H
theorem qg_nst {tg : Expr} {t : List TN} (h : PG X tg (gTup X.K t.length (gns X.K t))) : PG X tg (tNg nm X.K t) :=
  PG.of h fun v σ H Q ⟨ι, ρ, M, ps, ρ', s, r, e, k⟩ => by
    cases r with | @tup a xs _ hq rs =>
    exact ⟨a, xs, rfl, hq, by rw [rs.length, setN_len e], gns_of s rs e k⟩
/-! ### statements -/
variable {st : Stmt} {sts : List Stmt} {e c o i : Expr} {pos pos' : Pos} {fa fb fc : FE} {ga gb : FS}
theorem qs_never (h : ∀ ρ M D, ¬ ga ρ M D) : PSs X sts (tS nm X.K W ga) := ⟨fun _ _ _ _ _ _ ⟨_, _, _, _, _, hf, _⟩ => (h _ _ _ hf).elim⟩
theorem qs_never1 (h : ∀ ρ M D, ¬ ga ρ M D) : PS X st (tS nm X.K W ga) := ⟨fun _ _ _ _ _ _ ⟨_, _, _, _, _, hf, _⟩ => (h _ _ _ hf).elim⟩
theorem qs_nil : PSs X [] (tS nm X.K W fun ρ M D => D.nx ρ M) := PSs.of pss_nil fun D σ H ⟨ι, ρ, M, Dp, s, hf, k⟩ => k.nx ρ M hf ι H σ .refl s
theorem qs_one (h : PS X st (tS nm X.K W ga)) : PSs X [st] (tS nm X.K W ga) := pss_one h
theorem qs_cons (h : PS X st (tS nm X.K W ga)) (h2 : PSs X sts (tS nm X.K W gb)) : PSs X (st :: sts) (tS nm X.K W fun ρ M D => ga ρ M { nx := fun ρ1 M1 => gb ρ1 M1 D, rt := D.rt, ct := D.ct, ex := D.ex }) :=
  PSs.of (pss_cons h h2) fun D σ H ⟨ι, ρ, M, Dp, s, hf, k⟩ => ⟨ι, ρ, M, _, s, hf, ⟨fun ρ1 M1 h1 ι1 H1 σ1 e1 s1 => ⟨ι1, ρ1, M1, Dp, s1, h1, k.up e1⟩, k.rt, k.ct, k.ex⟩⟩
theorem qs_pass : PS X (.Pass pos) (tS nm X.K W fun ρ M D => D.nx ρ M) := PS.of ps_pass fun D σ H ⟨ι, ρ, M, Dp, s, hf, k⟩ => k.nx ρ M hf ι H σ .refl s
theorem qs_cont : PS X (.Continue pos) (tS nm X.K W fun ρ M D => D.ct ρ M) := PS.of ps_continue fun D σ H ⟨ι, ρ, M, Dp, s, hf, k⟩ => k.ct ρ M hf ι H σ .refl s
theorem qs_ret (he : PE X e (tE nm X.K fa)) : PS X (.Return (some e) pos) (tS nm X.K W fun ρ M D => fa ρ M D.rt) :=
  PS.of (ps_ret he) fun D σ H ⟨ι, ρ, M, Dp, s, hf, k⟩ => ⟨ι, ρ, M, _, s, hf, k.rt⟩
theorem qs_ret0 : PS X (.Return none pos) (tS nm X.K W fun ρ M D => D.rt .non M) := PS.of ps_retN fun D σ H ⟨ι, ρ, M, Dp, s, hf, k⟩ => k.rt .non M hf ι H _ .refl s.m .non
theorem qs_ex (he : PE X e (tE nm X.K fa)) (hs : swapsWith e none pos.line X.env = pure false) : PS X (.Expr e pos) (tS nm X.K W fun ρ M D => fa ρ M fun _ M1 => D.nx ρ M1) :=
  PS.of (ps_expr he hs) fun D σ H ⟨ι, ρ, M, Dp, s, hf, k⟩ => ⟨ι, ρ, M, _, s, hf, fun p M1 h1 ι1 H1 v e1 m1 r1 => k.nx ρ M1 h1 ι1 H1 σ e1 (s.up e1 m1)⟩
theorem qs_if {a b : List Stmt} (hc : PT X c (tT nm X.K fc)) (ha : PSs X a (tS nm X.K W ga)) (hb : PSs X b (tS nm X.K W gb)) : PS X (.If c a b pos) (tS nm X.K W fun ρ M D => fc ρ M fun x M1 => match truthy M1 x with
    | some true => ga ρ M1 D
    | some false => gb ρ M1 D
    | none => False) :=
  PS.of (ps_if hc ha hb) fun D σ H ⟨ι, ρ, M, Dp, s, hf, k⟩ => ⟨ι, ρ, M, _, s, hf, fun p M1 hp => by
    cases h : truthy M1 p with
    | none => simp only [h] at hp
    | some z =>
      simp only [h] at hp
      refine ⟨z, rfl, fun ι1 H1 e1 m1 => ?_⟩
      cases z with
      | true =>
        rw [if_pos rfl]
        exact ⟨ι1, ρ, M1, Dp, s.up e1 m1, hp, k.up e1⟩
      | false =>
        rw [if_neg Bool.false_ne_true]
        exact ⟨ι1, ρ, M1, Dp, s.up e1 m1, hp, k.up e1⟩⟩
/-- target = value -/
theorem qs_asg {i : Nat} (h : PS X st (tAsg (tE nm X.K fa) (gName i))) : PS X st (tS nm X.K W fun ρ M D => fa ρ M fun v M1 => D.nx (ρ.set i (some v)) M1) :=
  PS.of h fun D σ H ⟨ι, ρ, M, Dp, s, hf, k⟩ => ⟨ι, ρ, M, _, s, hf, fun p M1 h1 ι1 H1 v e1 m1 r1 => k.nx _ M1 h1 ι1 H1 _ e1 ((s.up e1 m1).set i r1)⟩
theorem qs_unp {is : List Nat} {tg : Expr} (h : PS X st (tAsg (tE nm X.K fa) (tG nm X.K is false))) : PS X st (tS nm X.K W fun ρ M D => fa ρ M fun v M1 => match setT is false v ρ with
    | some ρ' => D.nx ρ' M1
    | none => False) :=
  PS.of h fun D σ H ⟨ι, ρ, M, Dp, s, hf, k⟩ => ⟨ι, ρ, M, _, s, hf, fun p M1 h1 ι1 H1 v e1 m1 r1 => by
    cases e : setT is false p ρ with
    | none => simp only [e] at h1
    | some ρ' =>
      simp only [e] at h1
      exact ⟨ι1, ρ, M1, p, ρ', s.up e1 m1, r1, e, fun σ' s' _ => k.nx _ M1 h1 ι1 H1 _ e1 s'⟩⟩
theorem qs_unpN {is : List TN} {tg : Expr} (h : PS X st (tAsg (tE nm X.K fa) (tNg nm X.K is))) : PS X st (tS nm X.K W fun ρ M D => fa ρ M fun v M1 => match v with
    | .tup vs => (match setN is vs ρ with
      | some ρ' => D.nx ρ' M1
      | none => False)
    | _ => False) :=
  PS.of h fun D σ H ⟨ι, ρ, M, Dp, s, hf, k⟩ => ⟨ι, ρ, M, _, s, hf, fun p M1 h1 ι1 H1 v e1 m1 r1 => by
    cases p with
    | tup vs =>
      simp only at h1
      cases e : setN is vs ρ with
      | none => simp only [e] at h1
      | some ρ' =>
        simp only [e] at h1
        exact ⟨ι1, ρ, M1, vs, ρ', s.up e1 m1, r1, e, fun σ' s' => k.nx _ M1 h1 ι1 H1 _ e1 s'⟩
    | _ => exact False.elim h1⟩
variable {fs : FA}
theorem qs_par {i j : Nat} (h : PS X st (tPar i j (tL nm X.K fs))) : PS X st (tS nm X.K W fun ρ M D => fs ρ M fun vs M1 => vs.length ≤ LL ∧ match setT [i, j] false (.tup vs) ρ with
    | some ρ' => D.nx ρ' M1
    | none => False) :=
  PS.of h fun D σ H ⟨ι, ρ, M, Dp, s, hf, k⟩ => ⟨ι, ρ, M, _, s, hf, fun ps M1 h1 ι1 H1 vs e1 m1 r1 => by
    match ps, r1, h1 with
    | [], _, h1 => exact False.elim h1.2
    | [_], _, h1 => exact False.elim h1.2
    | [p, q], .cons ra (.cons rb .nil), h1 => exact ⟨_, _, rfl, k.nx _ M1 h1.2 ι1 H1 _ e1 (((s.up e1 m1).set i ra).set j rb)⟩
    | _ :: _ :: _ :: _, _, h1 => exact False.elim h1.2⟩
theorem qs_par3 {i j l : Nat} (h : PS X st (tPar3 i j l (tL nm X.K fs))) : PS X st (tS nm X.K W fun ρ M D => fs ρ M fun vs M1 => vs.length ≤ LL ∧ match setT [i, j, l] false (.tup vs) ρ with
    | some ρ' => D.nx ρ' M1
    | none => False) :=
  PS.of h fun D σ H ⟨ι, ρ, M, Dp, s, hf, k⟩ => ⟨ι, ρ, M, _, s, hf, fun ps M1 h1 ι1 H1 vs e1 m1 r1 => by
    match ps, r1, h1 with
    | [], _, h1 => exact False.elim h1.2
    | [_], _, h1 => exact False.elim h1.2
    | [_, _], _, h1 => exact False.elim h1.2
    | [p, q, w], .cons ra (.cons rb (.cons rc .nil)), h1 => exact ⟨_, _, _, rfl, k.nx _ M1 h1.2 ι1 H1 _ e1 ((((s.up e1 m1).set i ra).set j rb).set l rc)⟩
    | _ :: _ :: _ :: _ :: _, _, h1 => exact False.elim h1.2⟩
/-- o[i] = value -/
theorem ixAt_ixN {n : Nat} {k : Int} {j : Nat} (h : ixAt n k = some j) : ixN n k = some j := h
/-- o[i] = value, by values -/
def setW (x y v : PV) (M : Mem) (Q : Mem → Prop) : Prop := match x with
  | .ref n => (match M[n]? with
    | some (.lst xs) => (match y with
      | .int k => (match ixAt xs.length k with
        | some j => Q (M.set n (.lst (xs.set j v)))
        | none => False)
      | _ => False)
    | some (.dct ks vs) => ((isTup y && y.hk 6) = true ∧ ks.length < LL) ∧ Q (M.set n (.dct (dPutK y ks) (dPutV y v ks vs)))
    | _ => False)
  | _ => False
theorem setW_case {x y v : PV} {Q : Mem → Prop} (h : setW x y v M Q) : ∃ n, x = .ref n ∧ ((∃ xs k j, M[n]? = some (.lst xs) ∧ y = .int k ∧ ixAt xs.length k = some j ∧ Q (M.set n (.lst (xs.set j v)))) ∨
    ∃ ks vs, M[n]? = some (.dct ks vs) ∧ (isTup y && y.hk 6) = true ∧ ks.length < LL ∧ Q (M.set n (.dct (dPutK y ks) (dPutV y v ks vs)))) := by
  cases x with
  | ref n =>
    refine ⟨n, rfl, ?_⟩
    unfold setW at h
    cases e : M[n]? with
    | none => simp only [e] at h
    | some ob =>
      cases ob with
      | lst xs =>
        simp only [e] at h
        cases y with
        | int k =>
          simp only at h
          cases ej : ixAt xs.length k with
          | none => simp only [ej] at h
          | some j => simp only [ej] at h; exact .inl ⟨xs, k, j, rfl, rfl, ej, h⟩
        | _ => exact False.elim h
      | dct ks vs => simp only [e] at h; exact .inr ⟨ks, vs, rfl, h.1.1, h.1.2, h.2⟩
      | _ => simp only [e] at h
  | _ => exact False.elim h
def rSetP (nm : Nm) (K : PySem.W.Frag) : TSet := fun o i v H Q => ∃ ι M px py pv Qp, Rm nm K ι H M ∧ Rv K ι H o px ∧ Rv K ι H i py ∧ Rv K ι H v pv ∧ setW px py pv M Qp ∧ ∀ M', Qp M' → ∀ H', Ext ι H ι H' → Rm nm K ι H' M' → Q H'
theorem set_any (hu : X.A.units + 65 < cLine) (hP : nm.P = X.prog) (hw : nm.w = X.w) : PSet X (rSetP nm X.K) := by
  intro pins s σ H o i v ov iv u Q I ro ri rv ⟨ι, M, px, py, pv, Qp, m, h1, h2, h3, hf, k⟩
  obtain ⟨n, rfl, ⟨xs, kk, j, e, rfl, ej, q⟩ | ⟨ks, vs, e, hk, hl, q⟩⟩ := setW_case hf
  · cases h1 with | @ref a _ hn =>
    cases h2
    obtain ⟨ws, hv, rs⟩ := m.at_ n a _ hn e
    refine set_list pins s σ H _ _ v ov iv u Q I ro ri rv ⟨a, ws, kk, j, rfl, rfl, hv, by rw [rs.length]; exact ixAt_ixN ej, ?_⟩
    have hx : Ext ι H ι (upd H a (.lst (ws.set j v))) := .upd_mut (List.mem_of_getElem? hn) hv (fun z => z)
    exact k _ q _ hx (m.write (o := .lst (ws.set j v)) (mo := .lst (xs.set j pv)) hn hv (fun z => z) ⟨_, upd_same, (rs.set j h3).up hx⟩)
  · obtain ⟨a, L, rfl, hn, hH, d⟩ := ref_dct m h1 e
    cases (show ov = Value.ref a from ro)
    have hll : L.length < LL := by
      have := congrArg List.length d.ky
      rw [List.length_map, List.length_map] at this
      omega
    refine dic_set I hu hP hw hH d hll hk h2 ri rv (Nat.le_refl _) fun b s' eb J => ⟨_, J, ?_⟩
    subst eb
    have hx : Ext ι H ι (upd H a (DicO nm.P nm.w a (putL (nrm py) b v L))) := .upd_mut (List.mem_of_getElem? hn) hH (fun z => z)
    obtain ⟨_, _, ys, rel, _⟩ := dic_at I hP hw hH d
    have hk' := hk
    rw [Bool.and_eq_true] at hk'
    have pd := (put_dic hk h2 h3 (any_key hk'.2 rel d.ky d.hk).2 d).up hx
    exact k _ q _ hx (m.write (mo := .dct (dPutK py ks) (dPutV py pv ks vs)) hn hH (fun z => z) ⟨_, upd_same, pd.ky, pd.hk, pd.rk, pd.rv⟩)
/-- o[i] = value -/
theorem qs_setix (hu : X.A.units + 65 < cLine) (hP : nm.P = X.prog) (hw : nm.w = X.w) (ho : PE X o (tE nm X.K fb)) (hi : PE X i (tE nm X.K fc)) (h : ∀ g : TG, PG X (.Subscript o i pos') g → PS X st (tAsg (tE nm X.K fa) g)) (ha : ∀ v, assign (.Subscript o i pos') X.env v = (do
      let ov ← holding [v] (eval o X.env)
      let iv ← holding [v, ov] (eval i X.env)
      standAt pos'
      holding [v, ov, iv] (setItem ov iv v)
      release [v, ov, iv] [])) : PS X st (tS nm X.K W fun ρ M D => fa ρ M fun v M1 => fb ρ M1 fun x M2 => fc ρ M2 fun y M3 => setW x y v M3 fun M4 => D.nx ρ M4) :=
  PS.of (h _ (pg_sub ho hi (set_any hu hP hw) ha)) fun D σ H ⟨ι, ρ, M, Dp, s, hf, k⟩ => ⟨ι, ρ, M, _, s, hf, fun p M1 h1 ι1 H1 v e1 m1 r1 =>
    ⟨ι1, ρ, M1, _, s.up e1 m1, h1, fun px M2 h2 ι2 H2 x e2 m2 r2 => ⟨ι2, ρ, M2, _, s.up (e1.trans e2) m2, h2, fun py M3 h3 ι3 H3 y e3 m3 r3 =>
      ⟨ι3, M3, px, py, p, _, m3, r2.up e3, r3, r1.up (e2.trans e3), h3, fun M4 h4 H4 hx m4 => k.nx _ M4 h4 ι3 H4 σ (e1.trans (e2.trans (e3.trans hx))) (s.up (e1.trans (e2.trans (e3.trans hx))) m4)⟩⟩⟩⟩
/-- o.f = value -/
theorem qs_setfld {fi : Nat} (hC : ∀ cid, Cls X.K (nm.cls cid) ∧ NoAttr X.K (nm.cls cid) (nm.fld fi)) (ho : PE X o (tE nm X.K fb)) (he : PE X e (tE nm X.K fa)) (hs : swapsWith e (some (.Attribute o (nm.fld fi) pos')) pos.line X.env = pure false) :
    PS X (.Assign [.Attribute o (nm.fld fi) pos'] e pos) (tS nm X.K W fun ρ M D => fa ρ M fun v M1 => fb ρ M1 fun x M2 => match x with
    | .ref n => (match M2[n]? with
      | some (.ins k fs) => fs.length < 1000 ∧ D.nx ρ (M2.set n (.ins k (fldPut fs fi v)))
      | _ => False)
    | _ => False) :=
  PS.of (ps_fld ho he hs) fun D σ H ⟨ι, ρ, M, Dp, s, hf, k⟩ => ⟨ι, ρ, M, _, s, hf, fun p M1 h1 ι1 H1 v e1 m1 r1 =>
    ⟨ι1, ρ, M1, _, s.up e1 m1, h1, fun px M2 h2 ι2 H2 x e2 m2 r2 => by
      match px, h2 with
      | .ref n, h2 =>
        simp only at h2
        cases e : M2[n]? with
        | none => simp only [e] at h2
        | some ob =>
          cases ob with
          | ins cid fl =>
            simp only [e] at h2
            obtain ⟨a, dx, gs, rfl, hn, ha, rf⟩ := ref_ins m2 r2 e
            refine ⟨a, _, dx, gs, rfl, ha, (hC cid).1, (hC cid).2, by rw [rf.length]; exact h2.1, ?_⟩
            have hx : Ext ι2 H2 ι2 (upd H2 a (.ins (nm.cls cid) dx (putF (nm.fld fi) v gs))) := .upd_mut (List.mem_of_getElem? hn) ha (fun z => z)
            have m3 := m2.write (o := .ins (nm.cls cid) dx (putF (nm.fld fi) v gs)) (mo := .ins cid (fldPut fl fi p)) hn ha (fun z => z) ⟨dx, _, upd_same, (rf.put (r1.up e2)).up hx.e0⟩
            exact k.nx _ _ h2.2 ι2 _ σ (e1.trans (e2.trans hx)) (s.up (e1.trans (e2.trans hx)) m3)
          | _ => simp only [e] at h2⟩⟩
/-- the list in slot i never changes from here on -/
theorem PS.lock {i : Nat} (hP : nm.P = X.prog) (hw : nm.w = X.w) (h : PS X st (tS nm X.K W ga)) : PS X st (tS nm X.K W fun ρ M D => match ρ[i]? with
    | some (some (.ref n)) => (match M[n]? with
      | some (.lst xs) => ga (ρ.set i (some (.lst xs))) (M.set n .dead) D
      | some (.dct ks vs) => ga (ρ.set i (some (.dct ks vs))) (M.set n .dead) D
      | _ => False)
    | _ => False) := by
  refine ⟨fun pins s σ H D I ⟨ι, ρ, M, Dp, sm, hf, k⟩ => ?_⟩
  obtain ⟨n, e, hf⟩ : ∃ n, ρ[i]? = some (some (.ref n)) ∧ ((∃ xs, M[n]? = some (.lst xs) ∧ ga (ρ.set i (some (.lst xs))) (M.set n .dead) Dp) ∨ ∃ ks vs, M[n]? = some (.dct ks vs) ∧ ga (ρ.set i (some (.dct ks vs))) (M.set n .dead) Dp) := by
    dsimp only at hf
    split at hf
    · rename_i n e
      split at hf
      · rename_i xs e2
        exact ⟨n, e, .inl ⟨xs, e2, hf⟩⟩
      · rename_i ks vs e2
        exact ⟨n, e, .inr ⟨ks, vs, e2, hf⟩⟩
      · exact hf.elim
    · exact hf.elim
  obtain ⟨v, hv, rv⟩ := sm.r i _ e
  cases rv with | @ref a _ hn =>
  have go : ∀ (u : HO) (q : PV) (od : Obj), H a = some u → ¬ Fixed u → L2.Inv X pins σ (upd H a (.frz od u)) s → Rv X.K ι (upd H a (.frz od u)) (.ref a) q → ga (ρ.set i (some q)) (M.set n .dead) Dp → wpAny (model X.prog X.w) X.A (exec st X.env) (SP X pins D) X.xe s := fun u q od ha nf J rq hg => by
    have hx : Ext ι H ι (upd H a (.frz od u)) := .upd_mut (List.mem_of_getElem? hn) ha nf
    have m2 := sm.m.write (o := .frz od u) (mo := .dead) hn ha nf ⟨_, upd_same, trivial⟩
    refine h.run pins s σ _ D J ⟨ι, _, _, Dp, ⟨m2, fun j q' hq => ?_, by rw [List.length_set]; exact sm.l⟩, hg, k.up hx⟩
    by_cases hj : i = j
    · subst hj
      have hi : i < ρ.length := (List.getElem?_eq_some_iff.mp e).1
      rw [List.getElem?_set_self hi] at hq
      cases hq
      exact ⟨_, hv, rq⟩
    · rw [List.getElem?_set_ne hj] at hq
      obtain ⟨w, h1, h2⟩ := sm.r j q' hq
      exact ⟨w, h1, h2.up hx⟩
  rcases hf with ⟨xs, e2, hg⟩ | ⟨ks, vs, e2, hg⟩
  · obtain ⟨ws, ha, rs⟩ := sm.m.at_ n a _ hn e2
    obtain ⟨od, J⟩ := I.lock ha trivial
    exact go _ _ od ha (fun z => z) J (.lst upd_same (rs.up (.upd_mut (List.mem_of_getElem? hn) ha (fun z => z)))) hg
  · obtain ⟨a', L, ea, _, ha, d⟩ := ref_dct sm.m (.ref hn) e2
    cases ea
    obtain ⟨z1, z2, _⟩ := dic_at I hP hw ha d
    obtain ⟨od, J⟩ := I.lock ha trivial
    have hx : Ext ι H ι (upd H a (.frz od (DicO nm.P nm.w a L))) := .upd_mut (List.mem_of_getElem? hn) ha (fun z => z)
    obtain ⟨q1, q2⟩ := (show ObjOk X.prog X.w _ s.heap a (.frz od (DicO nm.P nm.w a L)) from J.hok a _ upd_same)
    obtain ⟨⟨_, ys, rel, o, es, ep, g1, g2, g3, g4, _⟩, _, _⟩ := q2
    rw [q1] at g1
    cases g1
    have d2 := d.up hx
    have ks1 : es.toList.map (·.key) = (L.map (·.2.1)).map Value.ref := by
      rw [g4, List.map_map]
      exact ent_keys rel
    have vs1 : Vals (L.map (·.2.2)) (es.toList.map (·.val)) := by
      rw [g4, List.map_map]
      exact ent_vals rel
    have sz : es.size ≤ sizeLine := by
      have := congrArg List.length g4
      rw [List.length_map, ← Paired.length rel, Array.length_toList] at this
      omega
    have tups : ks.all isTup = true := by
      have := d.hk
      rw [List.all_eq_true] at this ⊢
      intro x hx
      have := this x hx
      rw [Bool.and_eq_true] at this
      exact this.1
    refine go _ _ od ha (fun z => z) J (.dcd upd_same ⟨z2, g2⟩ g3 sz ks1 vs1 tups ?_ d2.rv) hg
    rw [List.map_map]
    exact d2.rk
/-! ### loops -/
theorem qs_while {body : List Stmt} (hp : PassesOwn (model X.prog X.w) X.A X.env X.xe) (hc : PT X c (tT nm X.K fc)) (hb : PSs X body (tS nm X.K W ga)) :
    PS X (.While c body [] pos) (tS nm X.K W fun ρ M D => ∃ n, wWhile fc ga n ρ M D) :=
  PS.of (ps_while hp hc hb) fun D σ H ⟨ι, ρ, M, Dp, s, ⟨n, hf⟩, k⟩ => by
    refine ⟨fun m σ' H' => ∃ ι' ρ' M', Ext ι H ι' H' ∧ Sim nm X.K ι' H' M' σ' ρ' ∧ wWhile fc ga m ρ' M' Dp, ⟨n, ι, ρ, M, .refl, s, hf⟩, ?_⟩
    rintro m σ1 H1 ⟨ι1, ρ1, M1, e1, s1, h1⟩
    match m, h1 with
    | m + 1, h1 =>
      refine ⟨ι1, ρ1, M1, _, s1, h1, fun p M2 hp => ?_⟩
      cases h : truthy M2 p with
      | none => simp only [h] at hp
      | some z =>
        simp only [h] at hp
        refine ⟨z, rfl, fun ι2 H2 e2 m2 => ?_⟩
        cases z with
        | true =>
          rw [if_pos rfl]
          refine ⟨fun σ' H' => ∃ ι' ρ' M', Ext ι H ι' H' ∧ Sim nm X.K ι' H' M' σ' ρ' ∧ wWhile fc ga m ρ' M' Dp, fun σ' H' h' => ⟨m, Nat.lt_succ_self _, h'⟩, ι2, ρ1, M2, _, s1.up e2 m2, hp, ?_⟩
          exact ⟨fun ρ3 M3 h3 ι3 H3 σ3 e3 s3 => ⟨ι3, ρ3, M3, e1.trans (e2.trans e3), s3, h3⟩, (k.up (e1.trans e2)).rt, fun ρ3 M3 h3 ι3 H3 σ3 e3 s3 => ⟨ι3, ρ3, M3, e1.trans (e2.trans e3), s3, h3⟩, (k.up (e1.trans e2)).ex⟩
        | false =>
          rw [if_neg Bool.false_ne_true]
          exact k.nx ρ1 M2 hp ι2 H2 σ1 (e1.trans e2) (s1.up e2 m2)
theorem qs_for {fi : FI} {t : List Nat} {single : Bool} (h : PS X st (tFor (tI nm X.K fi) (tG nm X.K t single) (tS nm X.K W ga))) :
    PS X st (tS nm X.K W fun ρ M D => fi ρ M fun xs M1 => wForR t single ga xs ρ M1 D) :=
  PS.of h fun D σ H ⟨ι, ρ, M, Dp, s, hf, k⟩ => ⟨ι, ρ, M, _, s, hf, fun xs M1 h1 ι1 H1 J e1 m1 Y => by
    refine ⟨fun i m σ' H' => ∃ ι' ρ' M', m = xs.length - i ∧ i ≤ xs.length ∧ Ext ι1 H1 ι' H' ∧ Sim nm X.K ι' H' M' σ' ρ' ∧ wForR t single ga (xs.drop i) ρ' M' Dp, ⟨xs.length, ι1, ρ, M1, rfl, Nat.zero_le _, .refl, s.up e1 m1, h1⟩, ?_⟩
    rintro i m σ2 H2 ⟨ι2, ρ2, M2, rfl, hi, e2, s2, h2⟩
    by_cases hlt : i < xs.length
    · refine .inr ?_
      have hx : xs[i]? = some xs[i] := List.getElem?_eq_getElem hlt
      rw [List.drop_eq_getElem_cons hlt] at h2
      unfold wForR at h2
      obtain ⟨g1, g2⟩ := Y.item i _ hx ι2 H2 e2
      refine ⟨g1, fun σ' H' => ∃ ι' ρ' M', Ext ι1 H1 ι' H' ∧ Sim nm X.K ι' H' M' σ' ρ' ∧ wForR t single ga (xs.drop (i + 1)) ρ' M' Dp, fun σ' H' ⟨ι', ρ', M', a, b, c⟩ => ⟨xs.length - (i + 1), by omega, ι', ρ', M', rfl, hlt, a, b, c⟩, fun v H3 hy => ?_⟩
      obtain ⟨e3, k3, r3⟩ := g2 v H3 hy
      cases es : setT t single xs[i] ρ2 with
      | none => simp only [es] at h2
      | some ρ3 =>
        simp only [es] at h2
        have m3 := s2.m.keep e3 fun _ _ u _ hu => k3 _ u hu
        refine ⟨ι2, ρ2, M2, _, ρ3, s2.up e3 m3, r3, es, fun σ4 s4 _ => ⟨ι2, ρ3, M2, _, s4, h2, ?_⟩⟩
        have e13 := e2.trans e3
        exact ⟨fun ρ5 M5 h5 ι5 H5 σ5 e5 s5 => ⟨ι5, ρ5, M5, e13.trans e5, s5, h5⟩, (k.up (e1.trans e13)).rt, fun ρ5 M5 h5 ι5 H5 σ5 e5 s5 => ⟨ι5, ρ5, M5, e13.trans e5, s5, h5⟩, (k.up (e1.trans e13)).ex⟩
    · have hn : i = xs.length := by omega
      subst hn
      rw [List.drop_length] at h2
      exact .inl ⟨Y.stop ι2 H2 e2, k.nx ρ2 M2 h2 ι2 H2 σ2 (e1.trans e2) s2⟩⟩
theorem qs_forN {fi : FI} {t : List TN} (h : PS X st (tFor (tI nm X.K fi) (tNg nm X.K t) (tS nm X.K W ga))) :
    PS X st (tS nm X.K W fun ρ M D => fi ρ M fun xs M1 => wForNR t ga xs ρ M1 D) :=
  PS.of h fun D σ H ⟨ι, ρ, M, Dp, s, hf, k⟩ => ⟨ι, ρ, M, _, s, hf, fun xs M1 h1 ι1 H1 J e1 m1 Y => by
    refine ⟨fun i m σ' H' => ∃ ι' ρ' M', m = xs.length - i ∧ i ≤ xs.length ∧ Ext ι1 H1 ι' H' ∧ Sim nm X.K ι' H' M' σ' ρ' ∧ wForNR t ga (xs.drop i) ρ' M' Dp, ⟨xs.length, ι1, ρ, M1, rfl, Nat.zero_le _, .refl, s.up e1 m1, h1⟩, ?_⟩
    rintro i m σ2 H2 ⟨ι2, ρ2, M2, rfl, hi, e2, s2, h2⟩
    by_cases hlt : i < xs.length
    · refine .inr ?_
      have hx : xs[i]? = some xs[i] := List.getElem?_eq_getElem hlt
      rw [List.drop_eq_getElem_cons hlt] at h2
      obtain ⟨g1, g2⟩ := Y.item i _ hx ι2 H2 e2
      refine ⟨g1, fun σ' H' => ∃ ι' ρ' M', Ext ι1 H1 ι' H' ∧ Sim nm X.K ι' H' M' σ' ρ' ∧ wForNR t ga (xs.drop (i + 1)) ρ' M' Dp, fun σ' H' ⟨ι', ρ', M', a, b, c⟩ => ⟨xs.length - (i + 1), by omega, ι', ρ', M', rfl, hlt, a, b, c⟩, fun v H3 hy => ?_⟩
      obtain ⟨e3, k3, r3⟩ := g2 v H3 hy
      generalize xs[i] = y at h2 r3
      cases y with
      | tup vs =>
        have h2' : (match setN t vs ρ2 with
          | none => False
          | some ρ' => ga ρ' M2 { nx := fun ρ3 M3 => wForNR t ga (xs.drop (i + 1)) ρ3 M3 Dp, rt := Dp.rt, ct := fun ρ3 M3 => wForNR t ga (xs.drop (i + 1)) ρ3 M3 Dp, ex := Dp.ex }) := h2
        cases es : setN t vs ρ2 with
        | none => simp only [es] at h2'
        | some ρ3 =>
          simp only [es] at h2'
          have m3 := s2.m.keep e3 fun _ _ u _ hu => k3 _ u hu
          refine ⟨ι2, ρ2, M2, _, ρ3, s2.up e3 m3, r3, es, fun σ4 s4 => ⟨ι2, ρ3, M2, _, s4, h2', ?_⟩⟩
          have e13 := e2.trans e3
          exact ⟨fun ρ5 M5 h5 ι5 H5 σ5 e5 s5 => ⟨ι5, ρ5, M5, e13.trans e5, s5, h5⟩, (k.up (e1.trans e13)).rt, fun ρ5 M5 h5 ι5 H5 σ5 e5 s5 => ⟨ι5, ρ5, M5, e13.trans e5, s5, h5⟩, (k.up (e1.trans e13)).ex⟩
      | _ => exact False.elim h2
    · have hn : i = xs.length := by omega
      subst hn
      rw [List.drop_length] at h2
      exact .inl ⟨Y.stop ι2 H2 e2, k.nx ρ2 M2 h2 ι2 H2 σ2 (e1.trans e2) s2⟩⟩
/-! ### list comprehensions -/
theorem wipe_idem (σ : L2.St) : ∀ js : List Nat, L2.wipe (L2.wipe σ js) js = L2.wipe σ js := by
  have out : ∀ (σ : L2.St) (ks js : List Nat) (i : Nat), i ∈ ks → (L2.wipe σ ks)[i]? = none ∨ (L2.wipe σ ks)[i]? = some none := by
    intro σ ks
    induction ks with
    | nil => intro js i h; cases h
    | cons k ks ih =>
      intro js i h
      unfold L2.wipe
      by_cases hk : k = i
      · subst hk
        by_cases hl : k < (L2.wipe σ ks).length
        · exact .inr (List.getElem?_set_self hl)
        · exact .inl (List.getElem?_eq_none (by simpa using hl))
      · rw [List.getElem?_set_ne hk]
        rcases List.mem_cons.mp h with z | z
        · exact absurd z.symm hk
        · exact ih js i z
  have gen : ∀ (τ : L2.St) (js : List Nat), (∀ i ∈ js, τ[i]? = none ∨ τ[i]? = some none) → L2.wipe τ js = τ := by
    intro τ js
    induction js with
    | nil => intro _; rfl
    | cons j js ih =>
      intro h
      unfold L2.wipe
      rw [ih fun i hi => h i (List.mem_cons_of_mem _ hi)]
      apply List.ext_getElem?
      intro n
      by_cases hn : j = n
      · subst hn
        by_cases hl : j < τ.length
        · rw [List.getElem?_set_self hl]
          rcases h j (List.mem_cons_self ..) with z | z
          · rw [List.getElem?_eq_getElem hl] at z; cases z
          · exact z.symm
        · rw [List.getElem?_eq_none (by simpa using hl), List.getElem?_eq_none (by omega)]
      · rw [List.getElem?_set_ne hn]
  exact fun js => gen _ js fun i hi => out σ js js i hi
def fLc (t : List Nat) (single : Bool) (fi : FI) (fd fe : FE) : FE := fun ρ M Q => fi ρ M fun xs M1 => xs.length ≤ LL ∧ wLc t single (wipeR ρ t) fd fe xs [] M1 Q
theorem lc_of {fi : FI} {fd fe : FE} {t vs : List Nat} {single : Bool} {tt : TT} {Q Q' : VK} (hvs : vs = t) (htt : ∀ σ H Q, tT nm K fd σ H Q → tt σ H Q) (h : tE nm K (fLc t single fi fd fe) σ H Q)
    (hQ : ∀ v H', (∃ p u, v = .ref p ∧ H' p = some u ∧ Mut (some u) ∧ ∀ od, Q v (upd H' p (.frz od u))) → Q' v H') :
    tLc (tI nm K fi) (tG nm K t single) tt (tE nm K fe) vs σ H Q' := by
  subst hvs
  obtain ⟨ι, ρ, M, Qp, s, hf, k⟩ := h
  refine ⟨ι, ρ, M, _, s, hf, fun xs M1 ⟨hz, h1⟩ ι1 H1 J e1 m1 Y P hP => ?_⟩
  rw [wLc_R] at h1
  have ln : ∀ {ι' : List Addr} {H' : Hp}, Ext ι1 H1 ι' H' → Ext ι1 H1 ι' H' := fun z => z
  refine ⟨fun i m H' => ∃ ι' M' acc ps, m = xs.length - i ∧ i ≤ xs.length ∧ Ext ι1 H1 ι' H' ∧ Rm nm K ι' H' M' ∧ P ∉ ι' ∧ H' P = some (.lst acc) ∧ acc.length ≤ i ∧ Rvs K ι' H' acc ps ∧ wLcR vs single (wipeR ρ vs) fd fe (xs.drop i) ps M' Qp, ⟨xs.length, ι1, M1, [], [], rfl, Nat.zero_le _, .upd_new hP, m1.new hP, fun z => ?_, upd_same, Nat.zero_le _, .nil, h1⟩, ?_⟩
  · obtain ⟨n, hn⟩ := List.getElem?_of_mem z
    obtain ⟨u, hu⟩ := m1.has hn
    rw [hP] at hu
    cases hu
  rintro i m H2 ⟨ι2, M2, acc, ps, rfl, hi, e2, m2, hnP, hPa, hal, rs, h2⟩
  by_cases hlt : i < xs.length
  · refine .inr ?_
    have hx : xs[i]? = some xs[i] := List.getElem?_eq_getElem hlt
    rw [List.drop_eq_getElem_cons hlt] at h2
    unfold wLcR at h2
    obtain ⟨g1, g2⟩ := Y.item i _ hx ι2 H2 e2
    refine ⟨g1, fun H' => ∃ ι' M' acc ps, i + 1 ≤ xs.length ∧ Ext ι1 H1 ι' H' ∧ Rm nm K ι' H' M' ∧ P ∉ ι' ∧ H' P = some (.lst acc) ∧ acc.length ≤ i + 1 ∧ Rvs K ι' H' acc ps ∧ wLcR vs single (wipeR ρ vs) fd fe (xs.drop (i + 1)) ps M' Qp, fun H' ⟨ι', M', acc, ps, a⟩ => ⟨xs.length - (i + 1), by omega, ι', M', acc, ps, rfl, a⟩, fun v H3 hy => ?_⟩
    obtain ⟨e3, k3, r3⟩ := g2 v H3 hy
    have m3 := m2.keep e3 fun _ _ u _ hu => k3 _ u hu
    have e13 := e2.trans e3
    have hPa3 := k3 _ _ hPa
    obtain ⟨rw1, rw2⟩ := (s.r.up (e1.trans e13)).wipe s.l vs
    cases es : setT vs single xs[i] (wipeR ρ vs) with
    | none => simp only [es] at h2
    | some ρ3 =>
      simp only [es] at h2
      refine ⟨ι2, _, M2, _, ρ3, ⟨m3, rw1, rw2⟩, r3, es, fun σ4 s4 hw => ⟨by rw [hw vs fun _ z => z, wipe_idem], ?_⟩⟩
      refine htt _ _ _ ⟨ι2, ρ3, M2, _, s4, h2, fun b M4 h4 => ?_⟩
      cases hb : truthy M4 b with
      | none => simp only [hb] at h4
      | some z =>
        simp only [hb] at h4
        refine ⟨z, rfl, fun ι4 H4 e4 m4 => ?_⟩
        cases z with
        | true =>
          rw [if_pos rfl]
          refine ⟨ι4, ρ3, M4, _, s4.up e4 m4, h4, fun p M5 h5 ι5 H5 y e5 m5 r5 => ?_⟩
          have e35 := e4.trans e5
          have e25 := e3.trans e35
          have hPa5 := e35.pv _ _ hPa3 hnP
          have hnP5 := e35.out hPa3 hnP
          refine ⟨acc, hPa5, Nat.lt_of_le_of_lt hal (Nat.lt_of_lt_of_le hlt (by rw [← ll_eq]; exact hz)), ι5, M5, _, _, hlt, ?_, ?_, hnP5, upd_same, by simp only [List.length_append, List.length_singleton]; omega, ?_, h5⟩
          · have q := e2.trans e25
            refine ⟨q.ix, fun a o ha hf => ?_, fun a o ha hn => ?_, q.nw⟩
            · rw [upd_ne (ne_of_none ha hP)]; exact q.fx a o ha hf
            · rw [upd_ne (ne_of_none ha hP)]; exact q.pv a o ha hn
          · have x5 := ext_off (ι := ι5) (o := .lst (acc ++ [y])) hPa5 fun z => z
            refine m5.keep0 x5 fun n a u ha hu => ?_
            rw [upd_ne fun z => hnP5 (by rw [← z]; exact List.mem_of_getElem? ha)]
            exact hu
          · have x5 := ext_off (ι := ι5) (o := .lst (acc ++ [y])) hPa5 fun z => z
            exact ((rs.up e25).append (.cons r5 .nil)).up0 x5
        | false =>
          rw [if_neg Bool.false_ne_true]
          have e24 := e3.trans e4
          exact ⟨ι4, M4, acc, ps, hlt, e2.trans e24, m4, e4.out hPa3 hnP, e4.pv _ _ hPa3 hnP, Nat.le_succ_of_le hal, rs.up e24, h4⟩
  · have hn : i = xs.length := by omega
    subst hn
    rw [List.drop_length] at h2
    refine .inl ⟨Y.stop ι2 H2 e2, hQ _ _ ⟨P, _, rfl, hPa, trivial, fun od => ?_⟩⟩
    have x5 := ext_off (ι := ι2) (o := .frz od (.lst acc)) hPa fun z => z
    refine k _ M2 h2 ι2 _ _ (e1.trans ?_) (m2.keep0 x5 fun n a u ha hu => ?_) (.lst upd_same (rs.up0 x5))
    · refine ⟨e2.ix, fun a o ha hf => ?_, fun a o ha hn => ?_, e2.nw⟩
      · rw [upd_ne (ne_of_none ha hP)]; exact e2.fx a o ha hf
      · rw [upd_ne (ne_of_none ha hP)]; exact e2.pv a o ha hn
    · rw [upd_ne fun z => hnP (by rw [← z]; exact List.mem_of_getElem? ha)]
      exact hu
where
  ext_off {ι : List Addr} {H : Hp} {P : Addr} {acc : List V} {o : HO} (h : H P = some (.lst acc)) (f : ¬ Fixed (HO.lst acc)) : Ex0 ι H ι (upd H P o) :=
    ⟨fun _ _ z => z, fun a u hu hf => by
      rw [upd_ne]
      · exact hu
      · rintro rfl
        rw [h] at hu
        cases hu
        exact f hf⟩
end
end Qt
/-! ### what may raise, as readings -/
namespace Qt
open PySem PySem.Spec PyProof.Rows L2
abbrev FXe := Rho → Mem → Kt → Xt → Prop
def tX (nm : Nm) (K : PySem.W.Frag) (W : WX) (f : FXe) : TE := fun σ H Q => ∃ ι ρ M Qp Xp, Sim nm K ι H M σ ρ ∧ f ρ M Qp Xp ∧ KpM nm K ι H Qp Q ∧ KxM nm K ι H Xp fun cls d H' => W cls d σ H'
section
variable {X : Cx} {nm : Nm} {W : WX} {e : Expr} {es : List Expr} {pos p apos : Pos} {fs : FA} {c : CE} {k : Nat} {f C : Addr} {fd : FuncData} {ps : List Str} {id : Nat} {x : Str} {fe : FXe}
/-- f(e, ..), where what is raised leaves the statement -/
theorem q_callX (tk : Takes X W) (F : FnOk X.prog X.w X.K X.mg X.base (L2.CX X.prog X.w) k f fd ps (spX nm X.K c id)) (hr : Room k X.A) (hg : Gl X x) (hm : X.mg x = some (.ref f)) (hk : PySem.W.keepIn X.K (.ref f) = true) (hb : Binds X.K fd ps [])
    (ha : PA X (e :: es) (tL nm X.K fs)) (hdb : (x == ("__debug__" : Str)) = false) (he : starEach (e :: es) X.env = (false, eval e X.env) :: starEach es X.env) (hpl : (backTo pos (starEach es X.env)).any (·.1) = false) :
    PE X (.Call (.Name x p) (e :: es) [] pos) (tX nm X.K W fun ρ M Q Xp => fs ρ M fun vs M1 => c id vs M1 Q Xp) :=
  PE.of (pe_callS F hr hg hm hk hb (fun σ => passAt tk σ) ha hdb he hpl) fun σ H Q ⟨ι, ρ, M, Qp, Xp, s, hf, kk, kx⟩ => ⟨ι, ρ, M, _, s, hf, fun ps' M1 hp ι1 H1 vs e1 m1 r1 =>
    ⟨ι1, M1, ps', Qp, Xp, m1, r1, hp, fun p M2 h2 ι2 H2 v e2 m2 r2 => kk p M2 h2 ι2 H2 v (e1.trans e2) m2 r2, fun d fs M2 h2 ι2 H2 cls dd e2 m2 x2 => kx d fs M2 h2 ι2 H2 cls dd (e1.trans e2) m2 x2⟩⟩
theorem qs_retX (he : PE X e (tX nm X.K W fe)) : PS X (.Return (some e) pos) (tS nm X.K W fun ρ M D => fe ρ M D.rt D.ex) :=
  PS.of (ps_ret he) fun D σ H ⟨ι, ρ, M, Dp, s, hf, k⟩ => ⟨ι, ρ, M, _, _, s, hf, k.rt, fun d fs M' h ι' H' cls dd e m x => k.ex d fs M' h ι' H' σ cls dd e m x⟩
theorem qs_exX (he : PE X e (tX nm X.K W fe)) (hs : swapsWith e none pos.line X.env = pure false) : PS X (.Expr e pos) (tS nm X.K W fun ρ M D => fe ρ M (fun _ M1 => D.nx ρ M1) D.ex) :=
  PS.of (ps_expr he hs) fun D σ H ⟨ι, ρ, M, Dp, s, hf, k⟩ => ⟨ι, ρ, M, _, _, s, hf, fun p M1 h1 ι1 H1 v e1 m1 r1 => k.nx ρ M1 h1 ι1 H1 σ e1 (s.up e1 m1), fun d fs M' h ι' H' cls dd e m x => k.ex d fs M' h ι' H' σ cls dd e m x⟩
/-- raise x('..') -/
theorem qs_raise {d : Nat} {m : Str} {j : Nat} {p2 : Pos} (hc : X.calm = true) (tk : Takes X W) (q : PySem.W.excIn X.K (nm.exc d) [.type "ValueError", .type "Exception", .type "BaseException", .type "object"] "ValueError.__new__" = true) (hm : X.mg x = some (.ref (nm.exc d))) (hk : PySem.W.keepIn X.K (.ref (nm.exc d)) = true)
    (h1 : PySem.W.subIn X.K (.ref (nm.exc d)) (.type "BaseException") = some true) (h2 : PySem.W.typeIn X.K (.ref (nm.exc d)) = some (.type "type")) (hg : Gl X x) (hdb : (x == ("__debug__" : Str)) = false) :
    PS X (.Raise (some (.Call (.Name x p) [.Constant (.str m) j p2] [] apos)) none pos) (tS nm X.K W fun _ M D => D.ex d [] M) :=
  PS.of (ps_raise hc tk (pmk_own PySem.F.excBase_ValueError q hm hk (raises_own h1 h2) hg hdb)) fun D σ H ⟨ι, ρ, M, Dp, s, hf, k⟩ => k.ex d [] M hf ι H σ _ _ .refl s.m ⟨rfl, rfl, rfl⟩
end
end Qt
/-! ### an expression behind which a token is out -/
namespace Qt
open PySem PySem.Spec PyProof.Rows L2
def Tk {α : Type} (t : Sem α) : Prop := ∀ (M : Model) (Γ : PySem.Ctx) (Q : α → Pos → Shared → Prop) (E : Value → Pos → Shared → Prop) (p : Pos) (s : Shared), Sem.wp M Γ t Q E p s → Sem.wp M Γ t (fun a p' s' => s.toks + 1 ≤ s'.toks ∧ Q a p' s') E p s
theorem Tk.left {α β : Type} {t : Sem α} {f : α → Sem β} (h : Tk t) : Tk (t >>= f) := fun M Γ Q E p s q => by
  rw [Sem.wp_bind'] at q ⊢
  refine Sem.wp_mono M Γ t (fun a p1 s1 q1 => ?_) (fun _ _ _ z => z) p s (h M Γ _ E p s q)
  exact Sem.wp_mono M Γ _ (fun _ _ _ z => z) (fun _ _ _ z => z.2) p1 s1 (Sem.wp_toks M Γ (s.toks + 1) (f a) Q E p1 s1 q1.1 q1.2)
theorem Tk.right {α β : Type} {t : Sem α} {f : α → Sem β} (h : ∀ a, Tk (f a)) : Tk (t >>= f) := fun M Γ Q E p s q => by
  rw [Sem.wp_bind'] at q ⊢
  refine Sem.wp_mono M Γ t (fun a p1 s1 q1 => ?_) (fun _ _ _ z => z.2) p s (Sem.wp_toks M Γ s.toks t _ E p s (Nat.le_refl _) q)
  exact Sem.wp_mono M Γ _ (fun _ _ _ z => ⟨by omega, z.2⟩) (fun _ _ _ z => z) p1 s1 (h a M Γ Q E p1 s1 q1.2)
theorem Tk.hold {α : Type} {t : Sem α} {vs : List Value} (h : Tk t) : Tk (holding vs t) := fun M Γ Q E p s q => by
  rw [Sem.wp_holding] at q ⊢
  exact h M Γ Q E p s q
theorem Tk.str {x : Str} {k : Nat} {pos : Pos} {env : Env} : Tk (eval (.Constant (.str x) k pos) env) := fun M Γ Q E p s q => ⟨Nat.le_refl _, q⟩
theorem Tk.head {x : Sem Value} {rest : List (Bool × Sem Value)} (h : Tk x) : Tk (spliced ((false, x) :: rest)) := by
  rw [spliced]
  exact h.left
theorem Tk.tail {x : Sem Value} {rest : List (Bool × Sem Value)} (h : Tk (spliced rest)) : Tk (spliced ((false, x) :: rest)) := by
  rw [spliced]
  exact Tk.right fun v => Tk.right fun _ => h.hold.left
theorem Tk.list {x : Str} {k : Nat} {q pos : Pos} {r : List Expr} {env : Env} : Tk (eval (.List (.Constant (.str x) k q :: r) pos) env) := by
  rw [arm_eval_List]
  exact Tk.right fun _ => Tk.left (Tk.head (rest := backTo pos (starEach r env)) (Tk.str (k := k) (pos := q)))
theorem Tk.any {α : Type} {t : Sem α} {M : Model} {A : Around} {Q : α → Shared → Prop} {E : Value → Shared → Prop} {s : Shared} (h : Tk t) (q : wpAny M A t Q E s) : wpAny M A t (fun a s' => 1 ≤ s'.toks ∧ Q a s') E s :=
  fun Γ p hΓ => Sem.wp_mono M Γ t (fun _ _ _ z => ⟨by omega, z.2⟩) (fun _ _ _ z => z) p s (h M Γ _ _ p s (q Γ p hΓ))
section
variable {X : Cx} {nm : Nm} {W : WX} {e : Expr} {es : List Expr} {pos p apos : Pos} {fs : FA} {c : CE} {k : Nat} {f C : Addr} {fd : FuncData} {ps : List Str} {id : Nat} {x : Str}
theorem q_callT (F : FnOk X.prog X.w X.K X.mg X.base CX0 k f fd ps (spW nm X.K c id)) (hr : Room k X.A) (hg : Gl X x) (hm : X.mg x = some (.ref f)) (hk : PySem.W.keepIn X.K (.ref f) = true) (hb : Binds X.K fd ps [])
    (ha : PA X (e :: es) (tL nm X.K fs)) (ht : Tk (spliced (backTo pos (starEach (e :: es) X.env)))) (hdb : (x == ("__debug__" : Str)) = false) (he : starEach (e :: es) X.env = (false, eval e X.env) :: starEach es X.env) (hpl : (backTo pos (starEach es X.env)).any (·.1) = false)
    {pins : List (Addr × Obj)} {s : Shared} {σ : L2.St} {H : Hp} {Q : VK} (I : L2.Inv X pins σ H s) (h : tE nm X.K (fun ρ M Q => fs ρ M fun vs M1 => c id vs M1 Q X0) σ H Q) :
    wpAny (model X.prog X.w) X.A (eval (.Call (.Name x p) (e :: es) [] pos) X.env) (fun v s' => 1 ≤ s'.toks ∧ EP X pins σ Q v s') X.xe s := by
  obtain ⟨ι, ρ, M, Qp, sm, hf, k⟩ := h
  refine wpAny_Call_Name_kw (ld_glob I hg hm ?_ hdb)
  refine PySem.W.callWith_K (h₀ := X.base) I.ok.mod.kin hk (thn (ht.any (ha.run pos pins s σ H (fun vs H1 => spW nm X.K c id vs H1 Q E0) I ⟨ι, ρ, M, _, sm, hf, fun ps' M1 hp ι1 H1 vs e1 m1 r1 =>
    ⟨ι1, M1, ps', Qp, m1, r1, hp, fun p M2 h2 ι2 H2 v e2 m2 r2 => k p M2 h2 ι2 H2 v (e1.trans e2) m2 r2⟩⟩)) fun us s1 ⟨h1, vs, H1, I1, r, q⟩ => ⟨I1.kIn, ?_⟩) he hpl
  exact wpAny_mono (wpAny_toks_of h1 (run_fn F hr hb .nil pass0 I1 r (by rw [List.append_nil]; exact q))) (fun _ _ z => z) fun _ _ z => z.2
theorem replL_toS {a b z : List Nat} (h : a ≠ []) : Txt.replace (toS z) (toS a) (toS b) = toS (PySem.StrLaws.replL a b z) := by
  refine TL.ext_tl ?_
  refine (PySem.StrLaws.replace_list ?_).trans ?_
  · rw [toS_len]
    cases a with
    | nil => exact absurd rfl h
    | cons _ _ => exact Nat.succ_le_succ (Nat.zero_le _)
  · rfl
/-- name = f(e, ..); name = name.replace(a, b) -/
theorem qs_asr {i : Nat} {a b : List Nat} {j0 j1 : Nat} {ee : Expr} {fa : FE} {p0 p1 p2 pos2 c0 c1 cp ap : Pos} (hN : X.N.Nodup) (hi : X.N[i]? = some x) (hx : L2.Loc X.env.scope x) (hv : Vis X.env.scope x) (hf : X.fn x = true ∨ X.env.scope.names.lookup x = some .local)
    (hd : (x == ("__debug__" : Str)) = false) (hcd : (x == ("__classdict__" : Str)) = false) (hs : swapsWith ee (some (.Name x p0)) pos.line X.env = pure false) (hline : (ap.endLine == cp.line) = true)
    (he : ∀ {pins : List (Addr × Obj)} {s : Shared} {σ : L2.St} {H : Hp} {Q : VK}, L2.Inv X pins σ H s → tE nm X.K fa σ H Q → wpAny (model X.prog X.w) X.A (eval ee X.env) (fun v s' => 1 ≤ s'.toks ∧ EP X pins σ Q v s') X.xe s) :
    PSs X [.Assign [.Name x p0] ee pos, .Assign [.Name x p1] (.Call (.Attribute (.Name x p2) "replace" ap) [.Constant (.str (toS a)) j0 c0, .Constant (.str (toS b)) j1 c1] [] cp) pos2]
      (tS nm X.K W fun ρ M D => fa ρ M fun v M1 => match v with
        | .str z => (((a ≠ [] ∧ a ≠ b) ∧ b.length ≤ 100) ∧ z.length ≤ 10000) ∧ D.nx (ρ.set i (some (.str (PySem.StrLaws.replL a b z)))) M1
        | _ => False) := by
  refine ⟨fun pins s σ H D I ⟨ι, ρ, M, Dp, sm, h, k⟩ => ?_⟩
  refine wpAny_execs_cons (wpAny_Assign_Name (thn (he (Q := fun v H1 => ∃ ι1 M1 z, v = .str (toS z) ∧ Ext ι H ι1 H1 ∧ Rm nm X.K ι1 H1 M1 ∧ (((a ≠ [] ∧ a ≠ b) ∧ b.length ≤ 100) ∧ z.length ≤ 10000) ∧ Dp.nx (ρ.set i (some (.str (PySem.StrLaws.replL a b z)))) M1) I ⟨ι, ρ, M, _, sm, h, fun px M1 h1 ι1 H1 v e1 m1 r1 => ?_⟩) fun v s1 ⟨ht, y, H1, I1, r1, ι1, M1, z, ey, e1, m1, hc, hn⟩ => ?_) hs)
  · cases r1 <;> first
      | exact ⟨ι1, M1, _, rfl, e1, m1, h1.1, h1.2⟩
      | exact False.elim h1
  · subst ey
    refine wpAny_mono (wpAny_toks_of ht (store_ok (Q := fun _ s2 => L2.Inv X pins (σ.set i (some (V.str (toS z)))) H1 s2) I1 hN hi hx r1 (fun _ I2 => I2) hf)) (fun _ s2 q => ?_) fun _ _ z => z.2
    obtain ⟨hk, I2⟩ := q
    have hil : i < σ.length := by rw [I1.len]; exact (List.getElem?_eq_some_iff.mp hi).1
    have hb : (toS z).length + ((toS z).length + 1) * (toS b).length ≤ 16777216 := by
      rw [toS_len, toS_len]
      have h1 : (z.length + 1) * b.length ≤ 10001 * 100 := Nat.mul_le_mul (by omega) hc.1.2
      omega
    refine wpAny_execs_cons (wpAny_Assign_Name (thn (CwR.pet_replC (y := toS a) (z := toS b) (pe_var hi hv hd hcd) (beq_eq_false_iff_ne.mpr fun z => hc.1.1.2 (toS_inj z)) rfl rfl hline pins s2 _ H1 (fun v H2 => H2 = H1 ∧ v = .str (Txt.replace (toS z) (toS a) (toS b))) hk I2 ⟨_, List.getElem?_set_self hil, _, rfl, hb, rfl, rfl⟩) fun u s3 ⟨w, H3, I3, r3, eH, ew⟩ => ?_) rfl)
    subst eH ew
    rw [replL_toS hc.1.1.1] at r3
    refine store_ok I3 hN hi hx r3 (fun s4 I4 => wpAny_execs_nil ⟨_, H3, I4, ?_⟩) hf
    rw [List.set_set]
    exact k.nx _ M1 hn ι1 H3 _ e1 ((sm.up e1 m1).set i (.str _))
end
end Qt
/-! ### behind a token: two texts .replace'd by written texts -/
namespace Qt
open PySem PySem.Spec PyProof.Rows L2
theorem Tk.int {x : Int} {k : Nat} {pos : Pos} {env : Env} : Tk (eval (.Constant (.int x) k pos) env) := fun M Γ Q E p s q => ⟨Nat.le_refl _, q⟩
theorem Tk.args {f : Value} {x : Sem Value} {rest : List (Bool × Sem Value)} {kws : List (Option Str × Sem Value)} (h : Tk (spliced ((false, x) :: rest))) : Tk (evalArgs f true ((false, x) :: rest) kws) := by
  unfold evalArgs
  exact Tk.left (t := spliced ((false, x) :: rest)) h
theorem Tk.call {x : Str} {p pos : Pos} {args : List Expr} {env : Env} {y : Sem Value} {rest : List (Bool × Sem Value)} (e : backTo pos (starEach args env) = (false, y) :: rest) (h : Tk (spliced ((false, y) :: rest))) : Tk (eval (.Call (.Name x p) args [] pos) env) := by
  rw [arm_eval_Call_Name', e]
  refine Tk.right fun f => ?_
  unfold callWith
  exact Tk.left (Tk.hold (Tk.args h))
theorem Tk.list' {e : Expr} {q pos : Pos} {r : List Expr} {env : Env} (hs : starEach (e :: r) env = (false, eval e env) :: starEach r env) (h : Tk (eval e env)) : Tk (eval (.List (e :: r) pos) env) := by
  rw [arm_eval_List, hs]
  exact Tk.right fun _ => Tk.left (Tk.head (rest := backTo pos (starEach r env)) h)
/-- f(name, [g(name, number), ..]) -/
theorem Tk.choice {x a b g : Str} {n : Int} {j : Nat} {p p1 p2 p3 p4 p5 p6 p7 p8 : Pos} {r : List Expr} {env : Env} : Tk (eval (.Call (.Name x p) [.Name a p1, .List (.Call (.Name g p2) [.Name b p3, .Constant (.int n) j p4] [] p5 :: r) p6] [] p7) env) := by
  refine Tk.call (y := eval (.Name a p1) env) (rest := backTo p7 (starEach [.List (.Call (.Name g p2) [.Name b p3, .Constant (.int n) j p4] [] p5 :: r) p6] env)) rfl ?_
  refine Tk.tail (rest := backTo p7 (starEach [.List (.Call (.Name g p2) [.Name b p3, .Constant (.int n) j p4] [] p5 :: r) p6] env)) (Tk.head (x := eval (.List (.Call (.Name g p2) [.Name b p3, .Constant (.int n) j p4] [] p5 :: r) p6) env) (rest := backTo p7 (starEach [] env)) (Tk.list' (q := p) rfl ?_))
  refine Tk.call (y := eval (.Name b p3) env) (rest := backTo p5 (starEach [.Constant (.int n) j p4] env)) rfl ?_
  exact Tk.tail (rest := backTo p5 (starEach [.Constant (.int n) j p4] env)) (Tk.head (x := eval (.Constant (.int n) j p4) env) (rest := backTo p5 (starEach [] env)) (Tk.int (k := j) (pos := p4)))
theorem wp_execs_app {M : Model} {Γ : PySem.Ctx} {A : Around} {env : Env} {r : List Stmt} {Q : Flow → Shared → Prop} {E : Value → Shared → Prop} (hΓ : Γ.In A) : ∀ (ms : List Stmt) (p : Pos) (s : Shared),
    Sem.wp M Γ (execs ms env) (fun f _ s' => match f with
      | .next => wpAny M A (execs r env) Q E s'
      | f => Q f s') (fun v _ s' => E v s') p s → Sem.wp M Γ (execs (ms ++ r) env) (fun f _ s' => Q f s') (fun v _ s' => E v s') p s
  | [], p, s, h => h Γ p hΓ
  | st :: ms, p, s, h => by
    rw [List.cons_append, execs_cons, Sem.wp_bind']
    rw [execs_cons, Sem.wp_bind'] at h
    refine Sem.wp_mono M Γ _ (fun f p' s' h' => ?_) (fun _ _ _ h' => h') _ _ h
    cases f with
    | next => exact wp_execs_app hΓ ms p' s' h'
    | ret v => exact h'
    | brk => exact h'
    | cont => exact h'
theorem wpAny_app {M : Model} {A : Around} {env : Env} {ms r : List Stmt} {Q : Flow → Shared → Prop} {E : Value → Shared → Prop} {s : Shared} (h : wpAny M A (execs ms env) (fun f s' => match f with
      | .next => wpAny M A (execs r env) Q E s'
      | f => Q f s') E s) : wpAny M A (execs (ms ++ r) env) Q E s := fun Γ p hΓ => wp_execs_app hΓ ms p s (h Γ p hΓ)
theorem repW_at {a b : List Nat} {ρ : Rho} {j : Nat} {K : List Nat → Prop} (h : repW a b ρ j K) : ∃ z, ρ[j]? = some (some (.str z)) ∧ (((a ≠ [] ∧ a ≠ b) ∧ b.length ≤ 100) ∧ z.length ≤ 10000) ∧ K (PySem.StrLaws.replL a b z) := by
  unfold repW at h
  split at h
  · rename_i z e
    exact ⟨z, e, h.1, h.2⟩
  · exact h.elim
section
variable {X : Cx} {nm : Nm} {W : WX}
theorem rep_len {z a b : List Nat} (hc : ((a ≠ [] ∧ a ≠ b) ∧ b.length ≤ 100) ∧ z.length ≤ 10000) : (toS z).length + ((toS z).length + 1) * (toS b).length ≤ 16777216 := by
  rw [toS_len, toS_len]
  have h1 : (z.length + 1) * b.length ≤ 10001 * 100 := Nat.mul_le_mul (by omega) hc.1.2
  omega
/-- a slot's text replaced, a token being out -/
theorem rep_run {pins : List (Addr × Obj)} {s : Shared} {σ : L2.St} {H : Hp} {ι : List Addr} {M : Mem} {ρ : Rho} {j : Nat} {x : Str} {a b z : List Nat} {j0 j1 : Nat} {p ap cp c0 c1 : Pos} (hi : X.N[j]? = some x) (hv : Vis X.env.scope x) (hd : (x == ("__debug__" : Str)) = false) (hcd : (x == ("__classdict__" : Str)) = false)
    (hline : (ap.endLine == cp.line) = true) (ht : 1 ≤ s.toks) (I : L2.Inv X pins σ H s) (sm : Sim nm X.K ι H M σ ρ) (e : ρ[j]? = some (some (.str z))) (hc : ((a ≠ [] ∧ a ≠ b) ∧ b.length ≤ 100) ∧ z.length ≤ 10000) :
    wpAny (model X.prog X.w) X.A (eval (.Call (.Attribute (.Name x p) "replace" ap) [.Constant (.str (toS a)) j0 c0, .Constant (.str (toS b)) j1 c1] [] cp) X.env) (fun u s' => 1 ≤ s'.toks ∧ L2.Inv X pins σ H s' ∧ RelV (.str (toS (PySem.StrLaws.replL a b z))) u) X.xe s := by
  obtain ⟨v, h1, h2⟩ := sm.r j _ e
  cases h2
  refine wpAny_mono (wpAny_toks_of ht (CwR.pet_replC (y := toS a) (z := toS b) (pe_var hi hv hd hcd) (beq_eq_false_iff_ne.mpr fun z => hc.1.1.2 (toS_inj z)) rfl rfl hline pins s _ H (fun v H2 => H2 = H ∧ v = .str (Txt.replace (toS z) (toS a) (toS b))) ht I ⟨_, h1, _, rfl, rep_len hc, rfl, rfl⟩)) (fun u s3 ⟨hk, w, H3, I3, r3, eH, ew⟩ => ?_) fun _ _ z => z.2
  subst eH ew
  rw [replL_toS hc.1.1.1] at r3
  exact ⟨hk, I3, r3⟩
/-- name = f(name, [g(name, number), ..]); ..; name = name.replace(a, b); if e != name.replace(a, b): .. -/
theorem qs_tkr {i i2 j j2 : Nat} {x y x1 x2 : Str} {a b : List Nat} {ee ge : Expr} {fa fg : FE} {gm gr : FS} {ms sa : List Stmt} {p0 p1 p2 p3 pos pos2 pos3 pos4 ap1 cp1 ap2 cp2 c0 c1 c2 c3 : Pos} {j0 j1 j3 j4 : Nat}
    (hN : X.N.Nodup) (hi : X.N[i]? = some x) (hx : L2.Loc X.env.scope x) (hf : X.fn x = true ∨ X.env.scope.names.lookup x = some .local) (hs : swapsWith ee (some (.Name x p0)) pos.line X.env = pure false)
    (he : PE X ee (tE nm X.K fa)) (htk : Tk (eval ee X.env)) (hm : PSs X ms (tS nm X.K W gm))
    (hi2 : X.N[i2]? = some y) (hx2 : L2.Loc X.env.scope y) (hf2 : X.fn y = true ∨ X.env.scope.names.lookup y = some .local)
    (hj : X.N[j]? = some x1) (hv : Vis X.env.scope x1) (hd : (x1 == ("__debug__" : Str)) = false) (hcd : (x1 == ("__classdict__" : Str)) = false) (hl1 : (ap1.endLine == cp1.line) = true)
    (hg : PE X ge (tE nm X.K fg))
    (hj2 : X.N[j2]? = some x2) (hv2 : Vis X.env.scope x2) (hd2 : (x2 == ("__debug__" : Str)) = false) (hcd2 : (x2 == ("__classdict__" : Str)) = false) (hl2 : (ap2.endLine == cp2.line) = true)
    (hr : PSs X sa (tS nm X.K W gr)) (ho : OpR X (compareOp .NotEq) (rOp nm X.K fun x y M Q => cmW .ne x y M fun b => Q (.bl b))) :
    PSs X (.Assign [.Name x p0] ee pos :: (ms ++ [.Assign [.Name y p1] (.Call (.Attribute (.Name x1 p2) "replace" ap1) [.Constant (.str (toS a)) j0 c0, .Constant (.str (toS b)) j1 c1] [] cp1) pos2,
      .If (.Compare ge [.NotEq] [.Call (.Attribute (.Name x2 p3) "replace" ap2) [.Constant (.str (toS a)) j3 c2, .Constant (.str (toS b)) j4 c3] [] cp2] pos3) sa [] pos4]))
      (tS nm X.K W fun ρ M D => fa ρ M fun v M1 => gm (ρ.set i (some v)) M1 ⟨fun ρ2 M2 => repW a b ρ2 j fun z => fg (ρ2.set i2 (some (.str z))) M2 fun w M3 => repW a b (ρ2.set i2 (some (.str z))) j2 fun z2 => (match w with
        | .str u => (match decide (u = z2) with
          | true => D.nx (ρ2.set i2 (some (.str z))) M3
          | false => gr (ρ2.set i2 (some (.str z))) M3 D)
        | _ => False), D.rt, D.ct, D.ex⟩) := by
  refine ⟨fun pins s σ H D I ⟨ι, ρ, M, Dp, sm, h, k⟩ => ?_⟩
  refine wpAny_execs_cons (wpAny_Assign_Name (thn (htk.any (he.run pins s σ H (fun v H1 => ∃ ι1 M1 px, Ext ι H ι1 H1 ∧ Rm nm X.K ι1 H1 M1 ∧ Rv X.K ι1 H1 v px ∧ gm (ρ.set i (some px)) M1 _) I ⟨ι, ρ, M, _, sm, h, fun px M1 h1 ι1 H1 v e1 m1 r1 => ⟨ι1, M1, px, e1, m1, r1, h1⟩⟩)) fun v s1 ⟨ht, yv, H1, I1, r1, ι1, M1, px, e1, m1, rx, hn⟩ => ?_) hs)
  refine wpAny_mono (wpAny_toks_of ht (store_ok (Q := fun _ s2 => L2.Inv X pins (σ.set i (some yv)) H1 s2) I1 hN hi hx r1 (fun _ I2 => I2) hf)) (fun _ s2 q => ?_) fun _ _ z => z.2
  obtain ⟨hk, I2⟩ := q
  have k1 := k.up e1
  refine wpAny_app (wpAny_mono (wpAny_toks_of hk (hm.run pins s2 _ H1 { D with nx := fun σ3 H3 => ∃ ι3 ρ3 M3, Ext ι1 H1 ι3 H3 ∧ Sim nm X.K ι3 H3 M3 σ3 ρ3 ∧ _ } I2 ⟨ι1, ρ.set i (some px), M1, _, (sm.up e1 m1).set i rx, hn, ⟨fun ρ3 M3 h3 ι3 H3 σ3 e3 s3 => ⟨ι3, ρ3, M3, e3, s3, h3⟩, k1.rt, k1.ct, k1.ex⟩⟩)) (fun f s3 q => ?_) fun _ _ z => z.2)
  obtain ⟨hk3, q⟩ := q
  cases f with
  | ret v => exact q
  | brk => exact q
  | cont => exact q
  | next =>
    obtain ⟨σ3, H3, I3, ι3, ρ3, M3, e3, sm3, hn3⟩ := q
    dsimp only at hn3
    obtain ⟨z, ez, hc, hn4⟩ := repW_at hn3
    refine wpAny_execs_cons (wpAny_Assign_Name (thn (rep_run hj hv hd hcd hl1 hk3 I3 sm3 ez hc) fun u s4 ⟨hk4, I4, r4⟩ => ?_) rfl)
    refine wpAny_mono (wpAny_toks_of hk4 (store_ok (Q := fun _ s5 => L2.Inv X pins (σ3.set i2 (some (V.str (toS (PySem.StrLaws.replL a b z))))) H3 s5) I4 hN hi2 hx2 r4 (fun _ I5 => I5) hf2)) (fun _ s5 q => ?_) fun _ _ z => z.2
    obtain ⟨hk5, I5⟩ := q
    have sm5 := sm3.set i2 (.str (PySem.StrLaws.replL a b z))
    have k3 := k1.up e3
    refine wpAny_execs_cons (wpAny_If (wpAny_isTrue_Compare1 ?_ rfl))
    refine wpAny_mono (wpAny_toks_of hk5 (hg.run pins s5 _ H3 (fun v H6 => ∃ ι6 M6 px, Ext ι3 H3 ι6 H6 ∧ Rm nm X.K ι6 H6 M6 ∧ Rv X.K ι6 H6 v px ∧ repW a b (ρ3.set i2 (some (.str (PySem.StrLaws.replL a b z)))) j2 fun z2 => match px with
        | .str u => (match decide (u = z2) with
          | true => Dp.nx (ρ3.set i2 (some (.str (PySem.StrLaws.replL a b z)))) M6
          | false => gr (ρ3.set i2 (some (.str (PySem.StrLaws.replL a b z)))) M6 Dp)
        | _ => False) I5 ⟨ι3, _, M3, _, sm5, hn4, fun px M1 h1 ι1 H1 v e1 m1 r1 => ⟨ι1, M1, px, e1, m1, r1, h1⟩⟩)) (fun v6 s6 ⟨hk6, y6, H6, I6, r6, ι6, M6, px6, e6, m6, rx6, q6⟩ => ?_) fun _ _ z => z.2
    obtain ⟨z2, ez2, hc2, q7⟩ := repW_at q6
    have sm6 := sm5.up e6 m6
    have k6 := k3.up e6
    refine thn (rep_run hj2 hv2 hd2 hcd2 hl2 hk6 I6 sm6 ez2 hc2) fun u7 s7 ⟨hk7, I7, r7⟩ => ?_
    obtain ⟨u, rfl, q8⟩ : ∃ u, px6 = .str u ∧ (match decide (u = PySem.StrLaws.replL a b z2) with
        | true => Dp.nx (ρ3.set i2 (some (.str (PySem.StrLaws.replL a b z)))) M6
        | false => gr (ρ3.set i2 (some (.str (PySem.StrLaws.replL a b z)))) M6 Dp) := by
      cases px6 with
      | str u => exact ⟨u, rfl, q7⟩
      | _ => exact q7.elim
    refine thn (ho pins s7 _ H6 y6 (.str (toS (PySem.StrLaws.replL a b z2))) v6 u7 (fun v H8 => ∃ ι8, v = .bl (!decide (u = PySem.StrLaws.replL a b z2)) ∧ Ext ι6 H6 ι8 H8 ∧ Rm nm X.K ι8 H8 M6) I7 r6 r7 ⟨ι6, M6, .str u, .str (PySem.StrLaws.replL a b z2), fun p => p = .bl (!decide (u = PySem.StrLaws.replL a b z2)), m6, rx6, .str _, rfl, fun p hp ι8 H8 v e8 m8 r8 => ?_⟩) fun c s8 ⟨zv, H8, I8, r8, ι8, ev, e8, m8⟩ => ?_
    · subst hp
      cases r8
      exact ⟨ι8, rfl, e8, m8⟩
    · subst ev
      cases r8
      have sm8 := sm6.up e8 m8
      have k8 := k6.up e8
      refine wpAny_truthy_bool ?_
      cases hd : decide (u = PySem.StrLaws.replL a b z2) with
      | true =>
        rw [hd] at q8
        exact wpAny_execs_nil (wpAny_execs_nil ⟨_, H8, I8, k8.nx _ M6 q8 ι8 H8 _ .refl sm8⟩)
      | false =>
        rw [hd] at q8
        refine wpAny_mono (hr.run pins s8 _ H8 D I8 ⟨ι8, _, M6, Dp, sm8, q8, k8⟩) (fun f s9 q => ?_) fun _ _ z => z
        cases f with
        | next => exact wpAny_execs_nil q
        | ret v => exact q
        | brk => exact q
        | cont => exact q
end
end Qt
/-! ### straight_of, with what is known of the told text's object -/
namespace Qt
open PySem PySem.Spec PyProof.Rows L2
/-- attributes of e are read as they are -/
def noSup : Expr → Bool
  | .Call (.Name _ _) [] [] _ => false
  | _ => true
theorem base_ok {o : Expr} {x : Str} {env : Env} (h : noSup o = true) : attributeBase o x env (eval o env) = eval o env := by
  cases o with
  | Call f as ks p =>
    cases f with
    | Name y q =>
      cases as with
      | nil =>
        cases ks with
        | nil => cases h
        | cons _ _ => rfl
      | cons _ _ => rfl
    | _ => rfl
  | _ => rfl
def StrRun (P : Program) (w : World) (K : PySem.W.Frag) (mg : Str → Option Value) (base : Heap) (k : Nat) (f : Addr) : Prop :=
  ∀ (A : Around) (outer : List Env) (s : Shared) (H : Hp) (sg : Nat) (tx : Tok) (R : Result → Shared → Prop), Room k A → Env0 P w K mg base A outer s H → Qd sg →
    (∀ t s', t ≠ 0 → t < s'.toks → L2.CE outer P w H s (fun v H' => v = .str (toS [srt sg]) ∧ H' = H) (.str (toS [srt sg]) t) s' → R (.ok (.ret (.str (toS [srt sg]) t))) s') →
    codeAny (model P w) A (.call (.ref f) ⟨[.str (toS [sg]) tx], []⟩) R s
abbrev cs (x : List Nat) (n : Nat) (p : Pos) : Expr := .Constant (.str (toS x)) n p
theorem dict4 {P : Program} {w : World} {A : Around} {E : Value → Shared → Prop} {env : Env} {s : Shared} {x1 x2 x3 x4 y1 y2 y3 y4 : Str} {n1 n2 n3 n4 n5 n6 n7 n8 : Nat} {q1 q2 q3 q4 q5 q6 q7 q8 dp : Pos} {Q : Value → Shared → Prop}
    (h : ∀ h' tk, s.toks + 8 ≤ tk → h'.DictOf (mixKind P w) s.heap.objs.size (merged [] [((Sum.inr x1 : Key), Value.str y1 (s.toks + 1)), (Sum.inr x2, .str y2 (s.toks + 3)), (Sum.inr x3, .str y3 (s.toks + 5)), (Sum.inr x4, .str y4 (s.toks + 7))]) →
      Heap.SameBut s.heap.objs.size (s.heap.push { cls := .type "dict", data := .dict #[] }) h' → Q (.ref s.heap.objs.size) { s with heap := h', toks := tk }) :
    wpAny (model P w) A (eval (.Dict [some (.Constant (.str x1) n1 q1), some (.Constant (.str x2) n2 q2), some (.Constant (.str x3) n3 q3), some (.Constant (.str x4) n4 q4)] [.Constant (.str y1) n5 q5, .Constant (.str y2) n6 q6, .Constant (.str y3) n7 q7, .Constant (.str y4) n8 q8] dp) env) Q E s := by
  refine wpAny_Dict_walk (knd := mixKind P w) rfl rfl (by simp) (by show 4 ≤ 15; decide) ?_
  refine pairTrees_cons_walk (Calls.Constant_str (Calls.Constant_str (pairTrees_cons_walk (Calls.Constant_str (Calls.Constant_str (pairTrees_cons_walk (Calls.Constant_str (Calls.Constant_str (pairTrees_cons_walk (Calls.Constant_str (Calls.Constant_str (pairTrees_nil_walk ?_))))))))))))
  refine ⟨[(Sum.inr x1, .str y1 (s.toks + 1)), (Sum.inr x2, .str y2 (s.toks + 3)), (Sum.inr x3, .str y3 (s.toks + 5)), (Sum.inr x4, .str y4 (s.toks + 7))],
    ⟨kV_is ⟨_, rfl⟩, rfl, kV_is ⟨_, rfl⟩, rfl, kV_is ⟨_, rfl⟩, rfl, kV_is ⟨_, rfl⟩, rfl, trivial⟩, Heap.DictOf.new s.heap, fun h' dd hs => ?_⟩
  exact h h' _ (by show s.toks + 8 ≤ s.toks + 8 + 4; omega) dd hs
theorem val4 {x1 x2 x3 x4 : Str} {v1 v2 v3 v4 : Value} (a : x1 ≠ x2) (b : x1 ≠ x3) (c : x1 ≠ x4) (d : x2 ≠ x3) (e : x2 ≠ x4) (f : x3 ≠ x4) :
    valueAt (merged [] [((Sum.inr x1 : Key), v1), (Sum.inr x2, v2), (Sum.inr x3, v3), (Sum.inr x4, v4)]) (Sum.inr x1) = some v1 ∧ valueAt (merged [] [((Sum.inr x1 : Key), v1), (Sum.inr x2, v2), (Sum.inr x3, v3), (Sum.inr x4, v4)]) (Sum.inr x2) = some v2 ∧
    valueAt (merged [] [((Sum.inr x1 : Key), v1), (Sum.inr x2, v2), (Sum.inr x3, v3), (Sum.inr x4, v4)]) (Sum.inr x3) = some v3 ∧ valueAt (merged [] [((Sum.inr x1 : Key), v1), (Sum.inr x2, v2), (Sum.inr x3, v3), (Sum.inr x4, v4)]) (Sum.inr x4) = some v4 := by
  simp [valueAt, merged, stored, a, b, c, d, e, f, Ne.symm a, Ne.symm b, Ne.symm c, Ne.symm d, Ne.symm e, Ne.symm f]
theorem toS_ne {a b : List Nat} (h : a ≠ b) : toS a ≠ toS b := fun z => h (toS_inj z)
theorem str_run {P : Program} {w : World} {K : PySem.W.Frag} {mg : Str → Option Value} {base : Heap} {k : Nat} {f : Addr} {fd : FuncData} {name qual : Str} {params : Arguments} {scope : Scope} {a0 : Str} {N : List Str} {body : List Stmt}
    {n1 n2 n3 n4 n5 n6 n7 n8 : Nat} {q1 q2 q3 q4 q5 q6 q7 q8 dp ap p1 p2 cp rp : Pos}
    (hbd : body = [.Return (some (.Call (.Attribute (.Dict [some (cs [60] n1 q1), some (cs [62] n2 q2), some (cs [123] n3 q3), some (cs [125] n4 q4)] [cs [34] n5 q5, cs [34] n6 q6, cs [39] n7 q7, cs [39] n8 q8] dp) "get" ap) [.Name a0 p1, .Name a0 p2] [] cp)) rp])
    (F : FunD K name qual params body scope [] [] f fd) (S : FnScope N [a0] scope) (hb : ∀ (s : Shared) (us : List Value), us.length = 1 → BindsTo s fd ⟨us, []⟩ ([a0].zip us)) (h0 : scope.names.lookup a0 = some .local)
    (d0 : (a0 == ("__debug__" : Str)) = false) (c0 : (a0 == ("__classdict__" : Str)) = false) (hline : (ap.endLine == cp.line) = true) : StrRun P w K mg base (k + 1) f := by
  intro A outer s H sg tx R hr e0 hq q
  subst hbd
  obtain ⟨oc, od, dV, kV, doc, pm, an, cdv, ct, osl, rfl, lk, hcd, _, _⟩ := F.ex
  have KX : K.In s.heap := e0.mod.kin.keeps fun b o e => (e0.bs b o e).1
  have lim : s.heap.NoLimit := e0.mod.nolimit.keeps fun b o e => (e0.bs b o e).1
  have hkind : ∀ v ∈ [a0].zip [Value.str (toS [sg]) tx], scope.names.lookup v.1 = some .local ∨ (scope.names.lookup v.1 = some .cell ∧ ((cellsFrom (s.heap.objs.size + 1) scope.names []).lookup v.1).isSome = true) := fun ⟨n, v⟩ hy => by
    have e : n = a0 := by simpa using (List.of_mem_zip hy).1
    exact .inl (by rw [e]; exact h0)
  refine codeAny_call_function hr.depth (KX _ _ lk) rfl S.co S.gen rfl (PySem.W.codeRec_of KX hcd) (hb s [.str (toS [sg]) tx] rfl _ _ _ _ ?_)
  refine wpAny_newFunctionEnv_cells S.kind hkind fun env he s1 xx => ?_
  subst he
  refine ⟨lim.keeps xx.toInCall.keep, codeAny_func ?_⟩
  have rv : Vals [V.str (toS [sg])] [Value.str (toS [sg]) tx] := .cons ⟨tx, rfl⟩ .nil
  have I : L2.Inv (cxOf CX0 P w K mg base N qual scope f cdv A outer s H E0) [] (L2.start N [.str (toS [sg])]) H s1 := inv_start S hr.hd e0 rfl rv xx
  have hn := xx.toInCall.ns
  have m0 := bindL_get (kindOf := (envOfC qual scope s.heap.objs.size f cdv).kindOf) (x := a0) (v := Value.str (toS [sg]) tx) (P := [a0]) (vs := [.str (toS [sg]) tx]) (i := 0) (m := fun _ => none) (by simp) rfl rfl h0
  generalize hD : (Expr.Dict [some (cs [60] n1 q1), some (cs [62] n2 q2), some (cs [123] n3 q3), some (cs [125] n4 q4)] [cs [34] n5 q5, cs [34] n6 q6, cs [39] n7 q7, cs [39] n8 q8] dp) = ed at *
  have hsup : noSup ed = true := by rw [← hD]; rfl
  have hfew : ((backTo cp (starEach [.Name a0 p1, .Name a0 p2] (envOfC qual scope s.heap.objs.size f cdv))).all (fun x => !x.1) && (backToKw cp (keywordEach [] (envOfC qual scope s.heap.objs.size f cdv))).all (fun x => x.1.isSome)
      && decide (([.Name a0 p1, .Name a0 p2] : List Expr).length + ([] : List Keyword).length + (if ([] : List Keyword).isEmpty then 0 else 1) < 30)) = true := rfl
  refine wpAny_execs_cons (wpAny_Return_some (wpAny_Call_method (base_ok hsup) hfew hline PySem.F.plainAttrs_dict PySem.F.slot_dict_get PySem.F.type_dict_get ?_))
  subst hD
  have nbig := I.big
  refine dict4 fun h' tk htk dd hs => ?_
  have kept : ∀ b o, s1.heap.get? b = some o → h'.get? b = some o := fun b o e => by
    rw [hs.2 b (Nat.ne_of_lt (Heap.lt_size e))]
    exact Heap.get?_push_of_some _ e
  obtain ⟨od1, es1, ep1, g1, g2, g3⟩ := id dd
  have I2 : L2.Inv (cxOf CX0 P w K mg base N qual scope f cdv A outer s H E0) [] (L2.start N [.str (toS [sg])]) H { s1 with heap := h', toks := tk } := I.kept kept
  have hN : (cxOf CX0 P w K mg base N qual scope f cdv A outer s H E0).N[0]? = some a0 := by
    have e := S.pre
    show N[0]? = some a0
    match N, e with
    | x :: r, e =>
      have e' : x = a0 := by simpa using e
      rw [e']
      rfl
    | [], e => cases e
  have hσ : (L2.start N [.str (toS [sg])])[0]? = some (some (V.str (toS [sg]))) := rfl
  have hcd2 : (a0 == ("__classdict__" : Str)) = false := c0
  refine ⟨dd.typeIs, fun a e => by cases e; exact ⟨od1, g1, g2.2.1⟩, ?_⟩
  refine Calls.callWith_builtin rfl (Calls.evalArgs_plain (Calls.spliced_cons (raw_name hN (.inl h0) I2 hσ (fun u1 r1 => ?_) d0 hcd2)))
  refine Calls.spliced_cons (raw_name hN (.inl h0) I2 hσ (fun u2 r2 => Calls.spliced_nil ?_) d0 hcd2)
  obtain ⟨t1, rfl⟩ := r1
  have hsys : (s1.heap.objs.size == sysModules) = false := beq_eq_false_iff_ne.mpr (Nat.ne_of_gt nbig)
  refine call_meetsIn PySem.F.slot_dict_get dd.typeIs PySem.F.entry_dict_get (PySem.F.args_dict_get_3 _ _ _) (meets_dict_get_default (mixKind P w) s1.heap.objs.size (kV_is (k := Sum.inr (toS [sg])) ⟨t1, rfl⟩) hsys u2) ⟨_, dd.mapOf, ?_⟩
  obtain ⟨z1, z2, z3, z4⟩ := val4 (v1 := Value.str (toS [34]) (s1.toks + 1)) (v2 := .str (toS [34]) (s1.toks + 3)) (v3 := .str (toS [39]) (s1.toks + 5)) (v4 := .str (toS [39]) (s1.toks + 7)) (toS_ne (a := [60]) (b := [62]) (by decide)) (toS_ne (b := [123]) (by decide)) (toS_ne (b := [125]) (by decide)) (toS_ne (a := [62]) (b := [123]) (by decide)) (toS_ne (b := [125]) (by decide)) (toS_ne (a := [123]) (b := [125]) (by decide))
  have fin : ∀ t, t ≠ 0 → t < tk → R (.ok (.ret (.str (toS [srt sg]) t))) { s1 with heap := h', toks := tk + 1 } := fun t n1 n2 => by
    refine q t _ n1 (by show t < tk + 1; omega) ⟨V.str (toS [srt sg]), H, ?_, ?_, ?_, ?_, ⟨t, rfl⟩, rfl, rfl⟩
    · exact I2.os
    · exact I2.bare
    · exact I2.base
    · exact I2.hok
  rcases hq with rfl | rfl | rfl | rfl
  · rw [z1]; exact fin _ (by omega) (by omega)
  · rw [z2]; exact fin _ (by omega) (by omega)
  · rw [z3]; exact fin _ (by omega) (by omega)
  · rw [z4]; exact fin _ (by omega) (by omega)
end Qt
/-! ### own trees against the text -/
namespace Qt
open PySem PySem.Spec PyProof.Rows L2
structure Kc where
  N : List Str
  sc : Scope
  fn : Str → Bool
  top : Bool := false
structure Tb where
  fn : Nat → Option Str
  mkr : Nat → Nat → Option Str
  mt : Nat → Nat → Nat → Bool
  mv : Nat → Nat → Nat → Bool
  df : Nat → Bool
  fld : Nat → Str
  cs : Nat → Option (Str × PV)
  st : Option Str
  xk : Nat → Option Str
  xm : Nat → Option Nat → Option Bool
def bnames : List Str := ["abs", "all", "any", "int", "len", "list", "tuple", "min", "max", "sum", "sorted", "str", "bool", "isinstance", "range", "enumerate", "zip", "set", "ValueError"]
mutual
def PV.same : PV → PV → Bool
  | .non, .non => true
  | .bl a, .bl b => a == b
  | .int i, .int j => decide (i = j)
  | .str x, .str y => decide (x = y)
  | .tup xs, .tup ys => sames xs ys
  | _, _ => false
def sames : List PV → List PV → Bool
  | [], [] => true
  | x :: xs, y :: ys => PV.same x y && sames xs ys
  | _, _ => false
end
mutual
theorem same_eq : ∀ {a b : PV}, PV.same a b = true → a = b
  | .non, b, h => by cases b <;> first | rfl | cases h
  | .bl a, b, h => by
    cases b with
    | bl b => rw [show a = b by simpa [PV.same] using h]
    | _ => cases h
  | .int a, b, h => by
    cases b with
    | int b => rw [show a = b by simpa [PV.same] using h]
    | _ => cases h
  | .str a, b, h => by
    cases b with
    | str b => rw [show a = b by simpa [PV.same] using h]
    | _ => cases h
  | .tup xs, b, h => by
    cases b with
    | tup ys => rw [sames_eq (show sames xs ys = true from h)]
    | _ => cases h
  | .lst _, b, h => by cases b <;> cases h
  | .dct _ _, b, h => by cases b <;> cases h
  | .ref _, b, h => by cases b <;> cases h
  | .scr _, b, h => by cases b <;> cases h
theorem sames_eq : ∀ {a b : List PV}, sames a b = true → a = b
  | [], b, h => by cases b <;> first | rfl | cases h
  | x :: xs, b, h => by
    cases b with
    | nil => cases h
    | cons y ys =>
      have h' : (PV.same x y && sames xs ys) = true := h
      rw [Bool.and_eq_true] at h'
      rw [same_eq h'.1, sames_eq h'.2]
end
def gl (k : Kc) (x : Str) : Bool := decide (k.sc.names.lookup x = some .globalImplicit) && !(x == ("__debug__" : Str))
def vis (k : Kc) (x : Str) : Bool := (decide (k.sc.names.lookup x = some .local) || (decide (k.sc.names.lookup x = some .cell) || decide (k.sc.names.lookup x = some .free))) && (!(x == ("__debug__" : Str)) && !(x == ("__classdict__" : Str)))
/-- a name that is stored to, at place i -/
def sto (k : Kc) (i : Nat) (x : Str) : Bool := decide (k.N[i]? = some x) && (decide (k.sc.names.lookup x = some .local) || (decide (k.sc.names.lookup x = some .cell) && k.fn x))
def fC : PV → Const → Bool
  | .non, .none => true
  | .bl a, .bool b => a == b
  | .int i, .int j => decide (i = j)
  | .str s, .str x => decide (x = toS s)
  | _, _ => false
def fOp : Op → Operator → Bool
  | .add, .Add => true
  | .sub, .Sub => true
  | .mul, .Mult => true
  | .div, .FloorDiv => true
  | .mod, .Mod => true
  | .pow, .Pow => true
  | _, _ => false
def fCm : Cm → CmpOp → Bool
  | .eq, .Eq => true
  | .ne, .NotEq => true
  | .lt, .Lt => true
  | .le, .LtE => true
  | .gt, .Gt => true
  | .ge, .GtE => true
  | .is_, .Is => true
  | .isnt, .IsNot => true
  | .in_, .In => true
  | .notin, .NotIn => true
  | _, _ => false
def biN : Bi → Option (Str × Bool)
  | .abs => some ("abs", false)
  | .all => some ("all", false)
  | .any => some ("any", false)
  | .sum => some ("sum", false)
  | .len => some ("len", false)
  | .min2 => some ("min", false)
  | .min1 => some ("min", false)
  | .max2 => some ("max", false)
  | .max3 => some ("max", false)
  | .sorted => some ("sorted", false)
  | .int => some ("int", true)
  | .list => some ("list", true)
  | .tuple => some ("tuple", true)
  | _ => none
def noStar : Expr → Bool
  | .Starred _ _ => false
  | _ => true
def tgNames : Expr → List Str
  | .Name x _ => [x]
  | .Tuple es _ _ => es.filterMap fun | .Name x _ => some x | _ => none
  | _ => []
def isYes : PX → Bool
  | .k (.bl true) => true
  | _ => false
/-- the keys of a display: written texts -/
def dsK : PX → List (Option Expr) → Option (List (List Nat))
  | .nil, [] => some []
  | .cons (.k (.str s)) r, some (.Constant (.str x) _ _) :: es => (match decide (x = toS s), dsK r es with
    | true, some l => some (s :: l)
    | _, _ => none)
  | _, _ => none
def kBlk (k : Kc) (sc : Scope) : Kc := ⟨k.N, relS sc k.sc, fun x => sc.names.lookup x == some .cell, false⟩
def fTs (k : Kc) : List Nat → List Expr → Bool
  | [], [] => true
  | i :: is, .Name x _ :: es => sto k i x && fTs k is es
  | _, _ => false
def fT (k : Kc) (t : List Nat) (single : Bool) (tg : Expr) : Bool := match single, t, tg with
  | true, [i], .Name x _ => sto k i x
  | false, t, .Tuple es _ _ => fTs k t es
  | _, _, _ => false
def fTNs (k : Kc) : List TN → List Expr → Bool
  | [], [] => true
  | .v i :: is, .Name x _ :: es => sto k i x && fTNs k is es
  | .t js :: is, .Tuple us _ _ :: es => fTs k js us && fTNs k is es
  | _, _ => false
mutual
def fE (T : Tb) : PX → Kc → Expr → Bool
  | .k v, k, e => match e with
    | .Constant c _ _ => fC v c
    | _ => false
  | .v i, k, e => match e with
    | .Name x _ => decide (k.N[i]? = some x) && vis k x
    | _ => false
  | .gl g v, k, e => match e with
    | .Name x _ => gl k x && (match T.cs g with
      | some (y, w) => decide (y = x) && PV.same w v
      | none => false)
    | _ => false
  | .bin o a b, k, e => match e with
    | .BinOp ea op eb _ => fOp o op && (fE T a k ea && fE T b k eb)
    | _ => false
  | .neg a, k, e => match e with
    | .UnaryOp .USub ea _ => fE T a k ea
    | _ => false
  | .not a, k, e => match e with
    | .UnaryOp .Not ea _ => fE T a k ea
    | _ => false
  | .and a b, k, e => match e with
    | .BoolOp .And [ea, eb] _ => fE T a k ea && fE T b k eb
    | .BoolOp .And (ea :: eb :: ec :: r) p => fE T a k ea && fE T b k (.BoolOp .And (eb :: ec :: r) p)
    | _ => false
  | .or a b, k, e => match e with
    | .BoolOp .Or [ea, eb] _ => fE T a k ea && fE T b k eb
    | .BoolOp .Or (ea :: eb :: ec :: r) p => fE T a k ea && fE T b k (.BoolOp .Or (eb :: ec :: r) p)
    | _ => false
  | .cmp o a b, k, e => match e with
    | .Compare ea [op] [eb] _ => (fCm o op && !(behindInMarks op eb)) && (fE T a k ea && fE T b k eb)
    | _ => false
  | .chn o p a b d, k, e => match e with
    | .Compare ea [op, op'] [eb, ec] _ => ((fCm o op && fCm p op') && !(lastMarks [op, op'] [eb, ec])) && (fE T a k ea && (fE T b k eb && fE T d k ec))
    | _ => false
  | .ite c a b, k, e => match e with
    | .IfExp ec ea eb _ => fE T c k ec && (fE T a k ea && fE T b k eb)
    | _ => false
  | .call f as, k, e => match e with
    | .Call (.Name x _) es [] _ => (gl k x && decide (T.fn f = some x)) && fA T as k es
    | _ => false
  | .mk c f as, k, e => match e with
    | .Call (.Name x _) es [] _ => (gl k x && decide (T.mkr c f = some x)) && fA T as k es
    | _ => false
  | .meth ms m o as, k, e => match e with
    | .Call (.Attribute eo x apos) es [] pos => ((decide (x = T.fld m) && ms.all fun q => T.mt q.1 m q.2) && (noSup eo && (apos.endLine == pos.line && decide (es.length < 29)))) && (fE T o k eo && fA T as k es)
    | _ => false
  | .mets ms m o as, k, e => match e with
    | .Call (.Attribute eo x apos) es [] pos => ((decide (x = T.fld m) && ms.all fun q => T.mv q.1 m q.2) && (noSup eo && (apos.endLine == pos.line && decide (es.length < 29)))) && (fE T o k eo && fA T as k es)
    | _ => false
  | .bi b as, k, e => match e with
    | .Call (.Name x _) es [] _ => gl k x && (match b, es with
      | .isi t, [ea, .Name y _] => (decide (x = ("isinstance" : Str)) && (gl k y && decide (y = Str.ofString (tyS t)))) && fA T as k [ea]
      | .isi _, _ => false
      | b, es => (match biN b with
        | some (y, _) => decide (y = x) && decide (0 < es.length)
        | none => false) && fA T as k es)
    | _ => false
  | .bm b o as, k, e => match e with
    | .Call (.Attribute eo x apos) es [] pos => (noSup eo && apos.endLine == pos.line) && ((match b with
      | .join => decide (x = ("join" : Str)) && decide (es.length = 1)
      | .index => decide (x = ("index" : Str)) && decide (es.length = 1)
      | .split => decide (x = ("split" : Str)) && decide (es.length = 1)
      | .lindex => decide (x = ("index" : Str)) && decide (es.length = 1)
      | .append => decide (x = ("append" : Str)) && decide (es.length = 1)
      | .pop => decide (x = ("pop" : Str)) && decide (es.length = 0)
      | .get => decide (x = ("get" : Str)) && decide (es.length = 2)
      | .replace => false) && (fE T o k eo && fA T as k es))
    | _ => false
  | .fld o f, k, e => match e with
    | .Attribute eo x _ => (decide (x = T.fld f) && (T.df f && noSup eo)) && fE T o k eo
    | _ => false
  | .ix a i, k, e => match e with
    | .Subscript ea ei _ => fE T a k ea && fE T i k ei
    | _ => false
  | .sl a lo hi, k, e => match e with
    | .Subscript ea (.Slice l h none _) _ => fE T a k ea && (fO T lo k l && fO T hi k h)
    | _ => false
  | .ls es, k, e => match e with
    | .List xs _ => fA T es k xs
    | _ => false
  | .lm es, k, e => match e with
    | .List xs _ => fA T es k xs
    | _ => false
  | .sset a, k, e => match e with
    | .Call (.Name x _) [.Call (.Name y _) [ea] [] _] [] _ => ((gl k x && decide (x = ("sorted" : Str))) && (gl k y && decide (y = ("set" : Str)))) && fE T a k ea
    | _ => false
  | .rp es n, k, e => match e with
    | .BinOp (.List xs _) .Mult (.Constant (.int i) _ _) _ => (decide (i = (n : Int)) && decide (n < 1000000)) && fA T es k xs
    | _ => false
  | .tp es, k, e => match e with
    | .Tuple xs _ _ => fA T es k xs
    | _ => false
  | .ds ks vs, k, e => match e with
    | .Dict keys values _ => (match dsK ks keys with
      | some l => decide l.Nodup && (decide (0 < l.length) && (decide (l.length ≤ 15) && decide (l.length = values.length)))
      | none => false) && fA T vs k values
    | _ => false
  | .dm ks vs, k, e => match e with
    | .Dict keys values _ => (decide (keys.length ≤ 1) && (keys.all Option.isSome && decide (keys.length = values.length))) && (fA T ks k (keys.filterMap id) && fA T vs k values)
    | _ => false
  | .lc t s it c el, k, e => match e with
    | .ListComp elt [⟨tg, iter, ifs, a⟩] scope _ => (decide (a = 0) && (blkC k.N k.sc scope ((tgNames tg).zip t) && (decide ((tgNames tg).length = t.length) && fT (kBlk k scope) t s tg))) && ((fI T it k tg iter && fE T el (kBlk k scope) elt) && (match ifs with
      | [] => isYes c
      | [ec] => fE T c (kBlk k scope) ec
      | _ => false))
    | _ => false
  | _, _, _ => false
def fA (T : Tb) : PX → Kc → List Expr → Bool
  | .nil, k, es => match es with
    | [] => true
    | _ => false
  | .cons a b, k, es => match es with
    | e :: r => fE T a k e && fA T b k r
    | _ => false
  | _, _, _ => false
def fO (T : Tb) : PX → Kc → Option Expr → Bool
  | .no, k, e => match e with
    | none => true
    | _ => false
  | .itv a, k, e => match e with
    | some ea => fE T a k ea
    | _ => false
  | _, _, _ => false
def fI (T : Tb) : PX → Kc → Expr → Expr → Bool
  | .itv a, k, tg, e => fE T a k e
  | .enum a, k, tg, e => match tg, e with
    | .Tuple _ _ _, .Call (.Name x _) [ea] [] _ => (gl k x && decide (x = ("enumerate" : Str))) && fE T a k ea
    | _, _ => false
  | .its a, k, tg, e => match tg, e with
    | .Tuple _ _ _, .Call (.Attribute eo x ap) [] [] cp => (decide (x = ("items" : Str)) && (noSup eo && (ap.endLine == cp.line))) && fE T a k eo
    | _, _ => false
  | .zip2 a b, k, tg, e => match tg, e with
    | .Tuple _ _ _, .Call (.Name x _) [ea, eb] [] _ => (gl k x && decide (x = ("zip" : Str))) && (fE T a k ea && fE T b k eb)
    | _, _ => false
  | .rng1 a, k, tg, e => match e with
    | .Call (.Name x _) [ea] [] _ => (gl k x && decide (x = ("range" : Str))) && fE T a k ea
    | _ => false
  | .rng2 a b, k, tg, e => match e with
    | .Call (.Name x _) [ea, eb] [] _ => (gl k x && decide (x = ("range" : Str))) && (fE T a k ea && fE T b k eb)
    | _ => false
  | _, _, _, _ => false
end
def isComp : Expr → Bool
  | .ListComp .. => true
  | .SetComp .. => true
  | .DictComp .. => true
  | _ => false
/-- a, b = x, y (or three) is stored from the right -/
def parOk (k : Kc) (ts vs : List Expr) : Bool := (match ts with
  | [.Name x px, .Name y py] => decide (k.sc.names.lookup x = some .local) && (decide (k.sc.names.lookup y = some .local) && ((py.line == px.line) && decide ([x, y].eraseDups.length = 2)))
  | [.Name x px, .Name y py, .Name z pz] => decide (k.sc.names.lookup x = some .local) && (decide (k.sc.names.lookup y = some .local) && (decide (k.sc.names.lookup z = some .local) && ((py.line == px.line) && ((pz.line == px.line) && decide ([x, y, z].eraseDups.length = 3)))))
  | _ => false) && (decide (ts.length = vs.length) && (!(vs.all (foldedForSure 8)) && !(vs.all (constantsAlone 8))))
/-- a target that is no plain local: nothing is exchanged -/
def cellOk (k : Kc) (ts : List Expr) : Bool := ts.any fun
  | .Name x _ => !decide (k.sc.names.lookup x = some .local)
  | _ => false
def isFrz : PY → Bool
  | .frz _ => true
  | _ => false
def frzI : PY → Nat
  | .frz i => i
  | _ => 0
def sbN : List Str := ["manner", "state", "ahead", "sign", "behind", "sort"]
def sbC : PX := .ite (.cmp .in_ (.v 5) (.v 1)) (.v 1) (.bin .add (.v 1) (.v 5))
def sbR : PX := .ite (.cmp .in_ (.v 5) (.v 1)) (.sl (.v 1) .no (.itv (.bm .index (.v 1) (.cons (.v 5) .nil)))) (.v 1)
/-- the printed quote's part of state_behind -/
def sbOk (T : Tb) (f : Nat) (k : Kc) (sts : List Stmt) : Bool := (k.top && (decide (k.N = sbN) && sbN.all fun x => decide (k.sc.names.lookup x = some .local))) && (match sts with
  | [.Assign [.Name a1 _] (.Call (.Name a2 _) [.Name a3 _] [] _) _,
     .If (.BoolOp .And [.Compare (.Name b1 _) [.Eq] [.Constant (.str b2) _ _] _, .Call (.Name b3 _) [.Name b4 _, .Name b5 _, .Name b6 _] [] _] _) [.Return (some (.Name b7 _)) _] [] _,
     .If (.Compare (.Name c1 _) [.In] [.Name c2 _] _) [.Return (some c3) _] [] _,
     .If (.Compare (.Subscript (.Name d1 _) (.Constant (.int d2) _ _) _) [.Eq] [.Constant (.str d3) _ _] _) [.Return (some (.Call (.Attribute (.Name d4 _) d5 ap) [.Name d6 _, .Constant (.str d7) _ _] [] cp)) _] [] _,
     .Return (some e1) _] =>
      ((decide (a1 = ("sort" : Str)) && (gl k a2 && decide (T.st = some a2))) && decide (a3 = ("sign" : Str))) &&
      (((decide (b1 = ("sign" : Str)) && decide (b2 = toS [125])) && ((gl k b3 && decide (T.fn f = some b3)) && (decide (b4 = ("manner" : Str)) && (decide (b5 = ("ahead" : Str)) && (decide (b6 = ("behind" : Str)) && decide (b7 = ("state" : Str))))))) &&
      (((decide (c1 = ("sign" : Str)) && (gl k c2 && (match T.cs 12 with
        | some (y, w) => decide (y = c2) && PV.same w (.str [60, 123])
        | none => false))) && fE T sbC k c3) &&
      ((((decide (d1 = ("manner" : Str)) && decide (d2 = 0)) && (decide (d3 = toS [116, 117, 114, 110, 115]) && decide (d4 = ("state" : Str)))) && ((decide (d5 = ("replace" : Str)) && (ap.endLine == cp.line)) && (decide (d6 = ("sort" : Str)) && decide (d7 = toS [])))) && fE T sbR k e1)))
  | _ => false)
/-- an expression that may raise -/
def fX (T : Tb) : PX → Kc → Expr → Bool
  | .call f as, k, e => match e with
    | .Call (.Name x _) es [] _ => (gl k x && decide (T.fn f = some x)) && (decide (0 < es.length) && fA T as k es)
    | _ => false
  | _, _, _ => false
/-- an except suite's answer -/
def fH (T : Tb) (i : Nat) : HX → Kc → Expr → Bool
  | .isa C yes no, k, e => match e with
    | .Call (.Name y _) [.Name n _, .Name x _] [] _ => (gl k y && decide (y = ("isinstance" : Str))) && ((decide (k.N[i]? = some n) && vis k n) && ((gl k x && (match C with
      | some c => decide (T.xk c = some x)
      | none => decide (x = ("ValueError" : Str)))) && (yes.all (fun d => decide (T.xm d C = some true)) && no.all fun d => decide (T.xm d C = some false))))
    | _ => false
  | .and a b, k, e => match e with
    | .BoolOp .And [ea, eb] _ => fH T i a k ea && fH T i b k eb
    | _ => false
  | .non, k, e => match e with
    | .Constant .none _ _ => true
    | _ => false
def fB (T : Tb) : PY → Kc → List Stmt → Bool
  | .skip, k, sts => match sts with
    | [] => true
    | [.Pass _] => true
    | _ => false
  | .cont, k, sts => match sts with
    | [.Continue _] => true
    | _ => false
  | .seq a b, k, sts => match sts with
    | [st] => isFrz a && fB T b k [st]
    | st :: r :: rest => fB T a k [st] && fB T b k (r :: rest)
    | _ => false
  | .asg i e, k, sts => match sts with
    | [.Assign [.Name x _] ee _] => sto k i x && fE T e k ee
    | _ => false
  | .unp is e, k, sts => match sts with
    | [.Assign [.Tuple ts _ _] ee _] => fTs k is ts && (match e, ee with
      | .tp es, .Tuple vs _ _ => (fA T es k vs && ((parOk k ts vs && decide (is.Nodup)) || cellOk k ts))
      | e, ee => fE T e k ee && (match ee with
        | .Tuple _ _ _ => false
        | _ => true))
    | _ => false
  | .unf is e, k, sts => match sts with
    | [.Assign [.Tuple ts _ _] (.Tuple vs n q) _] => fTs k is ts && (vs.all (foldedForSure 8) && fE T e k (.Tuple vs n q))
    | _ => false
  | .setix o i e, k, sts => match sts with
    | [.Assign [.Subscript eo ei _] ee _] => (!(isComp ee) && fE T e k ee) && (fE T o k eo && fE T i k ei)
    | _ => false
  | .setfld o f e, k, sts => match sts with
    | [.Assign [.Attribute eo x _] ee _] => (decide (x = T.fld f) && (T.df f && !(isComp ee))) && (fE T e k ee && fE T o k eo)
    | _ => false
  | .ret e, k, sts => match sts with
    | [.Return (some ee) _] => fE T e k ee
    | _ => false
  | .ret0, k, sts => match sts with
    | [.Return none _] => true
    | _ => false
  | .ex e, k, sts => match sts with
    | [.Expr ee _] => !(isComp ee) && fE T e k ee
    | _ => false
  | .if_ c a b, k, sts => match sts with
    | [.If ec sa sb _] => fE T c k ec && (fB T a k sa && fB T b k sb)
    | _ => false
  | .for_ t s it b, k, sts => match sts with
    | [.For tg iter body [] _] => fT k t s tg && (fI T it k tg iter && fB T b k body)
    | _ => false
  | .forN t it b, k, sts => match sts with
    | [.For (.Tuple ts n p) iter body [] _] => fTNs k t ts && (fI T it k (.Tuple ts n p) iter && fB T b k body)
    | _ => false
  | .unpN t e, k, sts => match sts with
    | [.Assign [.Tuple ts _ _] ee _] => fTNs k t ts && (fE T e k ee && (match ee with
      | .Tuple _ _ _ => false
      | _ => true))
    | _ => false
  | .asr i e a b, k, sts => match sts with
    | [.Assign [.Name x _] (.Call (.Name y q) [e0, .List (.Constant (.str w) j1 q1 :: es) q2] [] q3) _, .Assign [.Name x2 _] (.Call (.Attribute (.Name x3 _) x4 ap) [.Constant (.str c0) _ _, .Constant (.str c1) _ _] [] cp) _] =>
      ((sto k i x && vis k x) && ((decide (x2 = x) && decide (x3 = x)) && (decide (x4 = ("replace" : Str)) && (ap.endLine == cp.line)))) && ((decide (c0 = toS a) && decide (c1 = toS b)) &&
        (match e with
          | .call f as => (gl k y && decide (T.fn f = some y)) && fA T as k [e0, .List (.Constant (.str w) j1 q1 :: es) q2]
          | _ => false))
    | _ => false
  | .tkr i e m i2 j a b g j2 r, k, sts => match sts with
    | .Assign [.Name x _] (.Call (.Name y q0) [.Name u q1, .List (.Call (.Name w q2) [.Name v q3, .Constant (.int n) d q4] [] q5 :: es) q6] [] q7) _ :: rest => (sto k i x && fE T e k (.Call (.Name y q0) [.Name u q1, .List (.Call (.Name w q2) [.Name v q3, .Constant (.int n) d q4] [] q5 :: es) q6] [] q7)) && (match rest.reverse with
      | .If (.Compare ge [.NotEq] [.Call (.Attribute (.Name x2 _) y2 ap2) [.Constant (.str d0) _ _, .Constant (.str d1) _ _] [] cp2] _) sa [] _ :: .Assign [.Name z _] (.Call (.Attribute (.Name x1 _) y1 ap1) [.Constant (.str c0) _ _, .Constant (.str c1) _ _] [] cp1) _ :: msr =>
        (fB T m k msr.reverse && (sto k i2 z && (decide (k.N[j]? = some x1) && vis k x1))) && ((decide (y1 = ("replace" : Str)) && (ap1.endLine == cp1.line)) && ((decide (c0 = toS a) && decide (c1 = toS b)) && (fE T g k ge && ((decide (k.N[j2]? = some x2) && vis k x2) && ((decide (y2 = ("replace" : Str)) && (ap2.endLine == cp2.line)) && ((decide (d0 = toS a) && decide (d1 = toS b)) && fB T r k sa))))))
      | _ => false)
    | _ => false
  | .while_ c b, k, sts => match sts with
    | [.While ec body [] _] => fE T c k ec && fB T b k body
    | _ => false
  | .sb f, k, sts => sbOk T f k sts
  | .raise d, k, sts => match sts with
    | [.Raise (some (.Call (.Name x _) [.Constant (.str _) _ _] [] _)) none _] => gl k x && decide (T.xk d = some x)
    | _ => false
  | .exX e, k, sts => match sts with
    | [.Expr ee _] => fX T e k ee
    | _ => false
  | .retX e, k, sts => match sts with
    | [.Return (some ee) _] => fX T e k ee
    | _ => false
  | .try_ b i C ks h, k, sts => match sts with
    | [.Try body [.ExceptHandler (some (.Name x _)) (some n) [.Return (some e) _] _] [] [] _] => (k.top && (gl k x && decide (T.xk C = some x))) && ((decide (k.N[i]? = some n) && (decide (k.sc.names.lookup n = some .local) && !(n == ("__debug__" : Str)))) && (ks.all (fun d => decide (T.xm d (some C) = some true)) && (fH T i h k e && fB T b k body)))
    | _ => false
  | .never, _, _ => true
  | .frz _, _, _ => false
end Qt
/-! ### what fits is sound: expressions -/
namespace Qt
open PySem PySem.Spec PyProof.Rows L2
/-- what a body's context must hold -/
structure Hy (T : Tb) (c : CE) (nm : Nm) (k : Kc) (X : Cx) : Prop where
  N : X.N = k.N
  sc : X.env.scope = k.sc
  fn : X.fn = k.fn
  kd : k.sc.kind = .function
  nd : k.N.Nodup
  calm : X.calm = true
  own : PassesOwn (model X.prog X.w) X.A X.env X.xe
  un : X.A.units + 65 < cLine
  P : nm.P = X.prog
  w : nm.w = X.w
  bl : ∀ x ∈ bnames, X.mg x = none
  fl : nm.fld = T.fld
  fs : ∀ f x, T.fn f = some x → ∃ (j : Nat) (fa : Addr) (fd : FuncData) (ps : List Str), FnOk X.prog X.w X.K X.mg X.base CX0 j fa fd ps (spW nm X.K c f) ∧ Room j X.A ∧ X.mg x = some (.ref fa) ∧ PySem.W.keepIn X.K (.ref fa) = true ∧ Binds X.K fd ps []
  ms : ∀ d f x, T.mkr d f = some x → ∃ (j : Nat) (fa : Addr) (fd : FuncData) (ps : List Str), Mk X.K (nm.cls d) fa ∧ FnOk X.prog X.w X.K X.mg X.base CX0 j fa fd ps (spW nm X.K c f) ∧ Room (j + 1) X.A ∧ X.mg x = some (.ref (nm.cls d)) ∧ Binds X.K fd ps []
  mt : ∀ d m f, T.mt d m f = true → ∃ (j : Nat) (fa : Addr) (fd : FuncData) (ps : List Str), Cls X.K (nm.cls d) ∧ Meth X.K (nm.cls d) (nm.fld m) fa ∧ FnOk X.prog X.w X.K X.mg X.base CX0 j fa fd ps (spW nm X.K c f) ∧ Room j X.A ∧ Binds X.K fd ps []
  mv : ∀ d m f, T.mv d m f = true → ∃ (j : Nat) (fa : Addr), Cls X.K (nm.cls d) ∧ Meth X.K (nm.cls d) (nm.fld m) fa ∧ FnR X.prog X.w X.K X.mg X.base CX0 j fa (spV nm X.K c f) ∧ Room j X.A
  df : ∀ f, T.df f = true → ∀ d, Cls X.K (nm.cls d) ∧ NoAttr X.K (nm.cls d) (nm.fld f)
  sr : ∀ x, T.st = some x → ∃ (j : Nat) (fa : Addr), StrRun X.prog X.w X.K X.mg X.base j fa ∧ Room j X.A ∧ X.mg x = some (.ref fa) ∧ PySem.W.keepIn X.K (.ref fa) = true
  fr : k.top = true → X.env.locals ∈ frs X.stack
  fx : ∀ f x, T.fn f = some x → ∃ (j : Nat) (fa : Addr) (fd : FuncData) (ps : List Str), FnOk X.prog X.w X.K X.mg X.base (L2.CX X.prog X.w) j fa fd ps (spX nm X.K c f) ∧ Room j X.A ∧ X.mg x = some (.ref fa) ∧ PySem.W.keepIn X.K (.ref fa) = true ∧ Binds X.K fd ps []
  st2 : k.top = true → X.stack = X.env :: X.outer ∧ X.env.frame = some X.env.locals
  xo : ∀ d x, T.xk d = some x → X.mg x = some (.ref (nm.exc d)) ∧ PySem.W.excIn X.K (nm.exc d) He.veBase "ValueError.__new__" = true ∧ PySem.W.keepIn X.K (.ref (nm.exc d)) = true ∧ PySem.W.subIn X.K (.ref (nm.exc d)) (.type "BaseException") = some true ∧ PySem.W.typeIn X.K (.ref (nm.exc d)) = some (.type "type")
  xm : ∀ d C b, T.xm d C = some b → ExcC X.K (nm.exc d) ∧ (match C with
    | some e => PySem.W.exmOne X.K (.ref (nm.exc d)) (.ref (nm.exc e)) = some b ∧ PySem.W.kitOne X.K (.ref (nm.exc d)) (.ref (nm.exc e)) = some b
    | none => PySem.W.kitOne X.K (.ref (nm.exc d)) (.type "ValueError") = some b)
  cs : ∀ g x v, T.cs g = some (x, v) → ∃ (w : V) (u : Value), X.mg x = some u ∧ RelV w u ∧ ∀ ι H, Rv X.K ι H w v
section
variable {T : Tb} {c : CE} {nm : Nm} {k : Kc} {X : Cx}
theorem Hy.blk {scope : Scope} (hy : Hy T c nm k X) (hk : scope.kind = .function) (s : Shared) (H : Hp) (C : Addr) (cl : List (Str × Addr)) (fp : List Addr) : Hy T c nm (kBlk k scope) (X.blk s H scope (compEnvC scope cl C X.env) fp) where
  N := hy.N
  sc := by
    show relS scope X.env.scope = relS scope k.sc
    rw [hy.sc]
  fn := rfl
  kd := hk
  nd := hy.nd
  calm := hy.calm
  own := PassesOwn.never
  un := hy.un
  P := hy.P
  w := hy.w
  bl := hy.bl
  fl := hy.fl
  fs := hy.fs
  ms := hy.ms
  mt := hy.mt
  mv := hy.mv
  df := hy.df
  sr := hy.sr
  fr := fun z => by cases z
  fx := hy.fx
  st2 := fun z => by cases z
  xo := hy.xo
  xm := hy.xm
  cs := hy.cs
theorem Hy.tr (hy : Hy T c nm k X) {pn : List (Addr × Obj)} {xe : Value → Shared → Prop} (h : PassesOwn (model X.prog X.w) X.A X.env xe) : Hy T c nm k (X.tr pn xe) where
  N := hy.N
  sc := hy.sc
  fn := hy.fn
  kd := hy.kd
  nd := hy.nd
  calm := hy.calm
  own := h
  un := hy.un
  P := hy.P
  w := hy.w
  bl := hy.bl
  fl := hy.fl
  fs := hy.fs
  ms := hy.ms
  mt := hy.mt
  mv := hy.mv
  df := hy.df
  sr := hy.sr
  fr := hy.fr
  fx := hy.fx
  st2 := hy.st2
  xo := hy.xo
  xm := hy.xm
  cs := hy.cs
theorem gl_ok (hy : Hy T c nm k X) {x : Str} (h : gl k x = true) : Gl X x ∧ (x == ("__debug__" : Str)) = false := by
  unfold gl at h
  rw [Bool.and_eq_true, decide_eq_true_eq, Bool.not_eq_true'] at h
  refine ⟨?_, h.2⟩
  show X.env.scope.names.lookup x = _
  rw [hy.sc]
  exact h.1
theorem vis_ok (hy : Hy T c nm k X) {x : Str} (h : vis k x = true) : Vis X.env.scope x ∧ (x == ("__debug__" : Str)) = false ∧ (x == ("__classdict__" : Str)) = false := by
  unfold vis at h
  simp only [Bool.and_eq_true, Bool.or_eq_true, decide_eq_true_eq, Bool.not_eq_true'] at h
  refine ⟨?_, h.2⟩
  unfold Vis
  rw [hy.sc]
  exact h.1
theorem sto_ok (hy : Hy T c nm k X) {i : Nat} {x : Str} (h : sto k i x = true) : X.N[i]? = some x ∧ L2.Loc X.env.scope x ∧ (X.fn x = true ∨ X.env.scope.names.lookup x = some .local) := by
  unfold sto at h
  simp only [Bool.and_eq_true, Bool.or_eq_true, decide_eq_true_eq] at h
  obtain ⟨h1, h2⟩ := h
  refine ⟨by rw [hy.N]; exact h1, ?_, ?_⟩
  · unfold L2.Loc
    rw [hy.sc]
    rcases h2 with z | z
    · exact .inl z
    · exact .inr z.1
  · rw [hy.sc, hy.fn]
    rcases h2 with z | z
    · exact .inr z
    · exact .inl z.2
theorem nodup_ok (hy : Hy T c nm k X) : X.N.Nodup := by rw [hy.N]; exact hy.nd
/-! forms that no tree fits -/
theorem fE_star {a : PX} {e : Expr} {p : Pos} : fE T a k (.Starred e p) = false := by cases a <;> rfl
theorem fE_slice {a : PX} {l h s : Option Expr} {p : Pos} : fE T a k (.Slice l h s p) = false := by cases a <;> rfl
theorem fE_set {a : PX} {es : List Expr} {n : Nat} {p : Pos} : fE T a k (.Set es n p) = false := by cases a <;> rfl
theorem fE_setc {a : PX} {e : Expr} {g : List Comprehension} {s : Scope} {p : Pos} : fE T a k (.SetComp e g s p) = false := by cases a <;> rfl
theorem fE_dictc {a : PX} {e f : Expr} {g : List Comprehension} {s : Scope} {p : Pos} : fE T a k (.DictComp e f g s p) = false := by cases a <;> rfl
theorem one_star {a : PX} {e : Expr} (h : fE T a k e = true) (es : List Expr) (env : Env) : starEach (e :: es) env = (false, eval e env) :: starEach es env := by
  cases e with
  | Starred e p => rw [fE_star] at h; cases h
  | _ => rfl
theorem ix_plain {a : PX} {e : Expr} (h : fE T a k e = true) : PlainIx e := by
  cases e with
  | Slice l u s p => rw [fE_slice] at h; cases h
  | _ => exact fun _ _ => rfl
theorem set_plain {a : PX} {e : Expr} (h : fE T a k e = true) (env : Env) : ∀ x, foldedSetIterable e env x = pure x := by
  cases e with
  | Set es n p => rw [fE_set] at h; cases h
  | _ => exact fun _ => rfl
theorem fA_star : ∀ {as : PX} {es : List Expr}, fA T as k es = true → ∀ env, (starEach es env).any (·.1) = false ∧ (starEach es env).all (fun x => !x.1) = true
  | .nil, es, h, env => by
    cases es with
    | nil => exact ⟨rfl, rfl⟩
    | cons e r => cases h
  | .cons a b, es, h, env => by
    cases es with
    | nil => cases h
    | cons e r =>
      have h' : (fE T a k e && fA T b k r) = true := h
      rw [Bool.and_eq_true] at h'
      rw [one_star h'.1]
      obtain ⟨g1, g2⟩ := fA_star h'.2 env
      exact ⟨by rw [List.any_cons, g1]; rfl, by rw [List.all_cons, g2]; rfl⟩
  | .k _, _, h, _ => by cases h
  | .v _, _, h, _ => by cases h
  | .gl _ _, _, h, _ => by cases h
  | .bin _ _ _, _, h, _ => by cases h
  | .neg _, _, h, _ => by cases h
  | .not _, _, h, _ => by cases h
  | .and _ _, _, h, _ => by cases h
  | .or _ _, _, h, _ => by cases h
  | .cmp _ _ _, _, h, _ => by cases h
  | .chn _ _ _ _ _, _, h, _ => by cases h
  | .ite _ _ _, _, h, _ => by cases h
  | .call _ _, _, h, _ => by cases h
  | .mk _ _ _, _, h, _ => by cases h
  | .meth _ _ _ _, _, h, _ => by cases h
  | .mets _ _ _ _, _, h, _ => by cases h
  | .bi _ _, _, h, _ => by cases h
  | .bm _ _ _, _, h, _ => by cases h
  | .fld _ _, _, h, _ => by cases h
  | .ix _ _, _, h, _ => by cases h
  | .sl _ _ _, _, h, _ => by cases h
  | .no, _, h, _ => by cases h
  | .ls _, _, h, _ => by cases h
  | .lm _, _, h, _ => by cases h
  | .rp _ _, _, h, _ => by cases h
  | .sset _, _, h, _ => by cases h
  | .tp _, _, h, _ => by cases h
  | .ds _ _, _, h, _ => by cases h
  | .dm _ _, _, h, _ => by cases h
  | .lc _ _ _ _ _, _, h, _ => by cases h
  | .itv _, _, h, _ => by cases h
  | .its _, _, h, _ => by cases h
  | .enum _, _, h, _ => by cases h
  | .zip2 _ _, _, h, _ => by cases h
  | .rng1 _, _, h, _ => by cases h
  | .rng2 _ _, _, h, _ => by cases h
theorem back_any {pos : Pos} (ts : List (Bool × Sem Value)) : (backTo pos ts).any (·.1) = ts.any (·.1) := by
  unfold backTo
  rw [List.any_map]
  rfl
theorem back_all {pos : Pos} (ts : List (Bool × Sem Value)) : (backTo pos ts).all (fun x => !x.1) = ts.all (fun x => !x.1) := by
  unfold backTo
  rw [List.all_map]
  rfl
theorem few_ok {as : PX} {es : List Expr} (h : fA T as k es = true) (hl : es.length < 30) (pos : Pos) (env : Env) : ((backTo pos (starEach es env)).all (fun x => !x.1) && (backToKw pos (keywordEach [] env)).all (fun x => x.1.isSome)
      && decide (es.length + ([] : List Keyword).length + (if ([] : List Keyword).isEmpty then 0 else 1) < 30)) = true := by
  rw [back_all, (fA_star h env).2]
  show (true && true && decide (es.length < 30)) = true
  rw [decide_eq_true hl]
  rfl
theorem PE.both {e : Expr} {f : FE} (h : PE X e (tE nm X.K f)) (he : ∀ whole, isTrue e X.env whole = (do let v ← whole; standAt e.pos; holding [v] (PySem.truthy v))) : PE X e (tE nm X.K f) ∧ PT X e (tT nm X.K f) := ⟨h, qt_plain h he⟩
theorem bool1 {op : BoolOp} {e : Expr} {pos : Pos} {env : Env} : eval (.BoolOp op [e] pos) env = eval e env := rfl
theorem pe_bool1 {op : BoolOp} {e : Expr} {pos : Pos} {t : TE} (h : PE X e t) : PE X (.BoolOp op [e] pos) t := ⟨fun pins s σ H Q I q => by
  rw [bool1]
  exact h.run pins s σ H Q I q⟩
/-! ### a method of the class that the object bears -/
theorem meth_eq {as : PX} {es : List Expr} {o : Expr} {x : Str} {apos pos : Pos} {env : Env} (h : fA T as k es = true) (hl : es.length < 29) (hb : noSup o = true) (hp : (apos.endLine == pos.line) = true) :
    eval (.Call (.Attribute o x apos) es [] pos) env = (do
      let ov ← eval o env
      standAt apos.atName
      let (f, first) ← holding [ov] (getMethod ov x (do return (← importBound o env).getD true))
      callWith pos f first (backTo pos (starEach es env)) (backToKw pos (keywordEach [] env))) := by
  rw [arm_eval_Call, base_ok hb]
  have e1 : methodCallForm (es.length + ([] : List Keyword).length) (backTo pos (starEach es env)) (backToKw pos (keywordEach [] env)) = true := by
    unfold methodCallForm
    rw [back_all, (fA_star h env).2]
    show (true && true && decide (es.length + 0 < 30)) = true
    rw [decide_eq_true (by omega)]
    rfl
  have e2 : methodCallPos true o env apos pos = pure pos := by
    unfold methodCallPos
    rw [hp]
    rfl
  unfold methodCall calleeOf
  rw [e1, e2]
  simp only [if_true, pure_bind]
theorem Rf.none {K : PySem.W.Frag} {ι : List Addr} {H : Hp} : ∀ {gs : List (Str × V)} {fs : List (Nat × PV)} {f : Nat}, Rf nm K ι H gs fs → fldGet fs f = none → gs.lookup (nm.fld f) = none
  | [], [], _, _, _ => rfl
  | (x, v) :: r, (g, p) :: q, f, ⟨h1, h2, h3⟩, e => by
    unfold fldGet at e
    by_cases hg : (g == f) = true
    · rw [if_pos hg] at e
      cases e
    · rw [if_neg hg] at e
      have hne : (nm.fld f == x) = false := by
        rw [h1]
        refine beq_eq_false_iff_ne.mpr fun z => hg ?_
        have := nm.inj _ _ z
        simp [this]
      rw [List.lookup_cons, hne]
      exact Rf.none h3 e
def fMeth (c : CE) (ms : List (Nat × Nat)) (m : Nat) (fa : FE) (fs : FA) : FE := fun ρ M Q => fa ρ M fun x M1 => match x with
    | .ref n => (match M1[n]? with
      | some (.ins k fl) => (match mthOf ms k, fldGet fl m with
        | some f, none => fs ρ M1 fun vs M2 => c f (.ref n :: vs) M2 Q X0
        | _, _ => False)
      | _ => False)
    | _ => False
theorem mthOf_mem : ∀ {ms : List (Nat × Nat)} {d f : Nat}, mthOf ms d = some f → (d, f) ∈ ms
  | [], _, _, h => by cases h
  | (a, b) :: r, d, f, h => by
    unfold mthOf at h
    by_cases hd : (a == d) = true
    · rw [if_pos hd] at h
      cases h
      rw [show a = d by simpa using hd]
      exact List.mem_cons_self ..
    · rw [if_neg hd] at h
      exact List.mem_cons_of_mem _ (mthOf_mem h)
theorem args_of {M : Model} {A : Around} {E : Value → Shared → Prop} {s : Shared} {f : Value} : ∀ {ts : List (Bool × Sem Value)} {Q : Args → Shared → Prop}, ts.any (·.1) = false → wpAny M A (spliced ts) (fun vs s' => Q ⟨vs, []⟩ s') E s → wpAny M A (evalArgs f true ts []) Q E s
  | [], Q, _, h => by
    unfold evalArgs
    show wpAny M A (spliced [] >>= _) Q E s
    exact wpAny_bind (wpAny_mono h (fun vs s1 q => wpAny_holding (wpAny_bind (wpAny_pure (wpAny_bind (wpAny_pure (wpAny_pure q)))))) fun _ _ z => z)
  | (false, x) :: r, Q, _, h => Calls.evalArgs_plain h
  | (true, _) :: _, _, e, _ => by cases e
theorem q_meth {o : Expr} {as : PX} {es : List Expr} {apos pos : Pos} {m : Nat} {ms : List (Nat × Nat)} {fa : FE} {fs : FA} (hy : Hy T c nm k X) (hms : ∀ q ∈ ms, T.mt q.1 m q.2 = true) (h : fA T as k es = true) (hl : es.length < 29) (hb : noSup o = true) (hp : (apos.endLine == pos.line) = true)
    (ho : PE X o (tE nm X.K fa)) (ha : PA X es (tL nm X.K fs)) : PE X (.Call (.Attribute o (nm.fld m) apos) es [] pos) (tE nm X.K (fMeth c ms m fa fs)) := by
  refine ⟨fun pins s σ H Q I ⟨ι, ρ, M, Qp, sm, hf, kk⟩ => ?_⟩
  refine PySem.W.methodCall_KW (thn (ho.run pins s σ H (fun v H1 => ∃ ι1 M1 px, Ext ι H ι1 H1 ∧ Rm nm X.K ι1 H1 M1 ∧ Rv X.K ι1 H1 v px ∧ (match px with
    | .ref n => (match M1[n]? with
      | some (.ins k fl) => (match mthOf ms k, fldGet fl m with
        | some f, none => fs ρ M1 fun vs M2 => c f (.ref n :: vs) M2 Qp X0
        | _, _ => False)
      | _ => False)
    | _ => False)) I ⟨ι, ρ, M, _, sm, hf, fun px M1 h1 ι1 H1 v e1 m1 r1 => ⟨ι1, M1, px, e1, m1, r1, h1⟩⟩) fun u s1 ⟨v, H1, J1, ru, ι1, M1, px, e1, m1, r1, h1⟩ => ?_) (meth_eq h hl hb hp)
  match px, h1 with
  | .ref n, h1 =>
    simp only at h1
    cases e : M1[n]? with
    | none => simp only [e] at h1
    | some ob =>
      cases ob with
      | ins d fl =>
        simp only [e] at h1
        cases em : mthOf ms d with
        | none => simp only [em] at h1
        | some f =>
          cases ef : fldGet fl m with
          | some w => simp only [em, ef] at h1
          | none =>
            simp only [em, ef] at h1
            obtain ⟨a, dx, gs, rfl, hn, hH, rf⟩ := ref_ins m1 r1 e
            obtain rfl : u = Value.ref a := ru
            obtain ⟨j, fad, fd, ps, cl, me, F, hr, hbd⟩ := hy.mt d m f (hms _ (mthOf_mem em))
            refine getmeth_ok J1 hH cl me (rf.none ef) ?_
            have fin : ∀ us s2 vs H2, L2.Inv X pins σ H2 s2 → Vals vs us → (∃ ι2 M2 pxs, Ext ι1 H1 ι2 H2 ∧ Rm nm X.K ι2 H2 M2 ∧ Rvs X.K ι2 H2 vs pxs ∧ c f (.ref n :: pxs) M2 Qp X0) → wpAny (model X.prog X.w) X.A (call (.ref fad) (.ref a :: us)) (EP X pins σ Q) X.xe s2 := fun us s2 vs H2 J2 r2 ⟨ι2, M2, pxs, e2, m2, rs, hc⟩ => by
              refine run_fn (us := .ref a :: us) (vs := .ref a :: vs) F hr hbd .nil pass0 J2 (.cons rfl r2) ?_
              rw [List.append_nil]
              exact ⟨ι2, M2, _ :: pxs, Qp, m2, .cons (.ref (e2.ix _ _ hn)) rs, hc, fun p M3 h3 ι3 H3 w e3 m3 r3 => kk p M3 h3 ι3 H3 w (e1.trans (e2.trans e3)) m3 r3⟩
            have run := ha.run pos pins s1 σ H1 (fun vs H2 => ∃ ι2 M2 pxs, Ext ι1 H1 ι2 H2 ∧ Rm nm X.K ι2 H2 M2 ∧ Rvs X.K ι2 H2 vs pxs ∧ c f (.ref n :: pxs) M2 Qp X0) J1 ⟨ι1, ρ, M1, _, sm.up e1 m1, h1, fun pxs M2 h2 ι2 H2 vs e2 m2 r2 => ⟨ι2, M2, pxs, e2, m2, r2, h2⟩⟩
            refine PySem.W.callWith_of (by show ((backTo pos (starEach es X.env)).any (·.1) || false) = false; rw [back_any, (fA_star h X.env).1]; rfl) (PySem.W.keeps_K me.kp) (args_of (by rw [back_any, (fA_star h X.env).1]) (thn run fun us s2 ⟨vs, H2, J2, r2, q2⟩ => ⟨J2.kIn, fin us s2 vs H2 J2 r2 q2⟩))
      | _ => simp only [e] at h1
def fMets (c : CE) (ms : List (Nat × Nat)) (m : Nat) (fa : FE) (fs : FA) : FE := fun ρ M Q => fa ρ M fun x M1 => match x with
    | .ref n => (match M1[n]? with
      | some (.ins k fl) => (match mthOf ms k, fldGet fl m with
        | some f, none => fs ρ M1 fun vs M2 => vs.length ≤ LL ∧ c f [.ref n, .tup vs] M2 Q X0
        | _, _ => False)
      | _ => False)
    | _ => False
/-- o.m(..), m a def with a star parameter -/
theorem q_mets {o : Expr} {as : PX} {es : List Expr} {apos pos : Pos} {m : Nat} {ms : List (Nat × Nat)} {fa : FE} {fs : FA} (hy : Hy T c nm k X) (hms : ∀ q ∈ ms, T.mv q.1 m q.2 = true) (h : fA T as k es = true) (hl : es.length < 29) (hb : noSup o = true) (hp : (apos.endLine == pos.line) = true)
    (ho : PE X o (tE nm X.K fa)) (ha : PA X es (tL nm X.K fs)) : PE X (.Call (.Attribute o (nm.fld m) apos) es [] pos) (tE nm X.K (fMets c ms m fa fs)) := by
  refine ⟨fun pins s σ H Q I ⟨ι, ρ, M, Qp, sm, hf, kk⟩ => ?_⟩
  refine PySem.W.methodCall_KW (thn (ho.run pins s σ H (fun v H1 => ∃ ι1 M1 px, Ext ι H ι1 H1 ∧ Rm nm X.K ι1 H1 M1 ∧ Rv X.K ι1 H1 v px ∧ (match px with
    | .ref n => (match M1[n]? with
      | some (.ins k fl) => (match mthOf ms k, fldGet fl m with
        | some f, none => fs ρ M1 fun vs M2 => vs.length ≤ LL ∧ c f [.ref n, .tup vs] M2 Qp X0
        | _, _ => False)
      | _ => False)
    | _ => False)) I ⟨ι, ρ, M, _, sm, hf, fun px M1 h1 ι1 H1 v e1 m1 r1 => ⟨ι1, M1, px, e1, m1, r1, h1⟩⟩) fun u s1 ⟨v, H1, J1, ru, ι1, M1, px, e1, m1, r1, h1⟩ => ?_) (meth_eq h hl hb hp)
  match px, h1 with
  | .ref n, h1 =>
    simp only at h1
    cases e : M1[n]? with
    | none => simp only [e] at h1
    | some ob =>
      cases ob with
      | ins d fl =>
        simp only [e] at h1
        cases em : mthOf ms d with
        | none => simp only [em] at h1
        | some f =>
          cases ef : fldGet fl m with
          | some w => simp only [em, ef] at h1
          | none =>
            simp only [em, ef] at h1
            obtain ⟨a, dx, gs, rfl, hn, hH, rf⟩ := ref_ins m1 r1 e
            obtain rfl : u = Value.ref a := ru
            obtain ⟨j, fad, cl, me, F, hr⟩ := hy.mv d m f (hms _ (mthOf_mem em))
            refine getmeth_ok J1 hH cl me (rf.none ef) ?_
            have fin : ∀ us s2 vs H2, L2.Inv X pins σ H2 s2 → Vals vs us → (∃ ι2 M2 pxs, Ext ι1 H1 ι2 H2 ∧ Rm nm X.K ι2 H2 M2 ∧ Rvs X.K ι2 H2 vs pxs ∧ pxs.length ≤ LL ∧ c f [.ref n, .tup pxs] M2 Qp X0) → wpAny (model X.prog X.w) X.A (call (.ref fad) (.ref a :: us)) (EP X pins σ Q) X.xe s2 := fun us s2 vs H2 J2 r2 ⟨ι2, M2, pxs, e2, m2, rs, hz, hc⟩ => by
              refine PySem.wpAny_call (run_fnR (us := .ref a :: us) (vs := .ref a :: vs) F hr (E := E0) (fun _ _ _ _ _ _ _ h => h.elim) J2 (.cons rfl r2) ?_)
              refine ⟨_, vs, rfl, by rw [rs.length, ← ll_eq]; exact hz, fun p hp => ?_⟩
              have ex : Ext ι2 H2 ι2 (upd H2 p (.tup vs)) := Ext.upd_new hp
              exact ⟨ι2, M2, [.ref n, .tup pxs], Qp, m2.new hp, .cons (.ref ((e2.trans ex).ix _ _ hn)) (.cons (.tup (SqT.of upd_same) (rs.up ex)) .nil), hc, fun p M3 h3 ι3 H3 w e3 m3 r3 => kk p M3 h3 ι3 H3 w (e1.trans (e2.trans (ex.trans e3))) m3 r3⟩
            have run := ha.run pos pins s1 σ H1 (fun vs H2 => ∃ ι2 M2 pxs, Ext ι1 H1 ι2 H2 ∧ Rm nm X.K ι2 H2 M2 ∧ Rvs X.K ι2 H2 vs pxs ∧ pxs.length ≤ LL ∧ c f [.ref n, .tup pxs] M2 Qp X0) J1 ⟨ι1, ρ, M1, _, sm.up e1 m1, h1, fun pxs M2 h2 ι2 H2 vs e2 m2 r2 => ⟨ι2, M2, pxs, e2, m2, r2, h2⟩⟩
            refine PySem.W.callWith_of (by show ((backTo pos (starEach es X.env)).any (·.1) || false) = false; rw [back_any, (fA_star h X.env).1]; rfl) (PySem.W.keeps_K me.kp) (args_of (by rw [back_any, (fA_star h X.env).1]) (thn run fun us s2 ⟨vs, H2, J2, r2, q2⟩ => ⟨J2.kIn, fin us s2 vs H2 J2 r2 q2⟩))
      | _ => simp only [e] at h1
end
end Qt
/-! ### what fits is sound: expressions, the induction -/
namespace Qt
open PySem PySem.Spec PyProof.Rows L2
abbrev EW (c : CE) (a : PX) : FE := fun ρ M Q => wE c a ρ M Q X0
abbrev AW (c : CE) (a : PX) : FA := fun ρ M Q => wA c a ρ M Q X0
abbrev OW (c : CE) (a : PX) : FO := fun ρ M Q => wO c a ρ M Q X0
abbrev IW (c : CE) (a : PX) : FI := fun ρ M Q => wI c a ρ M Q X0
/-- each argument, alone -/
def AllE (T : Tb) (c : CE) (nm : Nm) : PX → Prop
  | .cons a b => (∀ k X, Hy T c nm k X → ∀ e, fE T a k e = true → PE X e (tE nm X.K (EW c a))) ∧ AllE T c nm b
  | _ => True
structure Snd (T : Tb) (c : CE) (nm : Nm) (u : PX) : Prop where
  pe : ∀ k X, Hy T c nm k X → ∀ e, fE T u k e = true → PE X e (tE nm X.K (EW c u)) ∧ PT X e (tT nm X.K (EW c u))
  pa : ∀ k X, Hy T c nm k X → ∀ es, fA T u k es = true → PA X es (tL nm X.K (AW c u))
  po : ∀ k X, Hy T c nm k X → ∀ eo, fO T u k eo = true → PO X eo (tO nm X.K (OW c u))
  al : AllE T c nm u
  pi : ∀ k X, Hy T c nm k X → ∀ tg it, fI T u k tg it = true → PI X tg it (tI nm X.K (IW c u)) ∧ ∀ env x, foldedSetIterable it env x = pure x
section
variable {T : Tb} {c : CE} {nm : Nm} {k : Kc} {X : Cx}
theorem Snd.ofE {a : PX} (h : ∀ k X, Hy T c nm k X → ∀ e, fE T a k e = true → PE X e (tE nm X.K (EW c a)) ∧ PT X e (tT nm X.K (EW c a)))
    (ha : ∀ k es, fA T a k es = false) (ho : ∀ k eo, fO T a k eo = false) (hi : ∀ k tg it, fI T a k tg it = false) (hn : ∀ x y, a ≠ .cons x y := by intro _ _ z; cases z) : Snd T c nm a :=
  ⟨h, fun k X hy es z => (by rw [ha] at z; cases z), fun k X hy es z => (by rw [ho] at z; cases z), (by cases a <;> first | exact trivial | exact (hn _ _ rfl).elim), fun k X hy es it z => (by rw [hi] at z; cases z)⟩
theorem Snd.ph {u : PX} (s : Snd T c nm u) (k : Kc) (X : Cx) (hy : Hy T c nm k X) (a b : PX) (e : u = .cons a b) (ee : Expr) (h : fE T a k ee = true) : PE X ee (tE nm X.K (EW c a)) := by
  subst e
  exact s.al.1 k X hy ee h
theorem Snd.ph2 {u : PX} (s : Snd T c nm u) (k : Kc) (X : Cx) (hy : Hy T c nm k X) (a b d : PX) (e : u = .cons a (.cons b d)) (ee : Expr) (h : fE T b k ee = true) : PE X ee (tE nm X.K (EW c b)) := by
  subst e
  exact s.al.2.1 k X hy ee h
theorem s_k (v : PV) : Snd T c nm (.k v) := .ofE (fun k X hy e h => by
  cases e with
  | Constant u n p =>
    have h' : fC v u = true := h
    refine PE.both ?_ (fun _ => rfl)
    cases v with
    | non => cases u <;> first | exact q_const pe_non fun _ _ => .non | cases h'
    | bl b =>
      cases u with
      | bool d =>
        have e : b = d := by simpa [fC] using h'
        subst e
        exact q_const pe_bl fun _ _ => .bl b
      | _ => cases h'
    | int i =>
      cases u with
      | int d =>
        have e : i = d := by simpa [fC] using h'
        subst e
        exact q_const pe_int fun _ _ => .int i
      | _ => cases h'
    | str s =>
      cases u with
      | str d =>
        have e : d = toS s := by simpa [fC] using h'
        subst e
        exact q_const pe_str fun _ _ => .str s
      | _ => cases h'
    | _ => cases u <;> cases h'
  | _ => cases h) (fun _ _ => rfl) (fun _ _ => rfl) (fun _ _ _ => rfl)
theorem s_v (i : Nat) : Snd T c nm (.v i) := .ofE (fun k X hy e h => by
  cases e with
  | Name x p =>
    have h' : (decide (k.N[i]? = some x) && vis k x) = true := h
    rw [Bool.and_eq_true, decide_eq_true_eq] at h'
    obtain ⟨v1, v2, v3⟩ := vis_ok hy h'.2
    exact PE.both (q_var (by rw [hy.N]; exact h'.1) v1 v2 v3) (fun _ => rfl)
  | _ => cases h) (fun _ _ => rfl) (fun _ _ => rfl) (fun _ _ _ => rfl)
theorem s_gl (g : Nat) (v : PV) : Snd T c nm (.gl g v) := .ofE (fun k X hy e h => by
  cases e with
  | Name x p =>
    have h' : (gl k x && (match T.cs g with
      | some (y, w) => decide (y = x) && PV.same w v
      | none => false)) = true := h
    rw [Bool.and_eq_true] at h'
    obtain ⟨h1, h2⟩ := h'
    cases eg : T.cs g with
    | none => rw [eg] at h2; cases h2
    | some q =>
      obtain ⟨y, w⟩ := q
      rw [eg] at h2
      have h3 : (decide (y = x) && PV.same w v) = true := h2
      rw [Bool.and_eq_true, decide_eq_true_eq] at h3
      obtain ⟨e1, e2⟩ := h3
      have e3 := same_eq e2
      subst e1 e3
      obtain ⟨u, w', m, r, rr⟩ := hy.cs g _ _ eg
      obtain ⟨g1, g2⟩ := gl_ok hy h1
      exact PE.both (q_const (pe_glob g1 m r g2) rr) (fun _ => rfl)
  | _ => cases h) (fun _ _ => rfl) (fun _ _ => rfl) (fun _ _ _ => rfl)
theorem s_bin (o : Op) {a b : PX} (ia : Snd T c nm a) (ib : Snd T c nm b) : Snd T c nm (.bin o a b) := .ofE (fun k X hy e h => by
  cases e with
  | BinOp ea op eb p =>
    have h' : (fOp o op && (fE T a k ea && fE T b k eb)) = true := h
    rw [Bool.and_eq_true, Bool.and_eq_true] at h'
    obtain ⟨h0, h1, h2⟩ := h'
    have pa := (ia.pe k X hy ea h1).1
    have pb := (ib.pe k X hy eb h2).1
    refine PE.both ?_ (fun _ => rfl)
    cases o <;> cases op <;> first
      | (cases h0; done)
      | exact q_op w_add pa pb
      | exact q_op w_sub pa pb
      | exact q_op w_mul pa pb
      | exact q_op w_div pa pb
      | exact q_op w_mod pa pb
      | exact q_op w_pow pa pb
  | _ => cases h) (fun _ _ => rfl) (fun _ _ => rfl) (fun _ _ _ => rfl)
theorem s_neg {a : PX} (ia : Snd T c nm a) : Snd T c nm (.neg a) := .ofE (fun k X hy e h => by
  cases e with
  | UnaryOp op ea p =>
    cases op with
    | USub => exact PE.both (q_neg (ia.pe k X hy ea h).1) (fun _ => rfl)
    | _ => cases h
  | _ => cases h) (fun _ _ => rfl) (fun _ _ => rfl) (fun _ _ _ => rfl)
theorem s_not {a : PX} (ia : Snd T c nm a) : Snd T c nm (.not a) := .ofE (fun k X hy e h => by
  cases e with
  | UnaryOp op ea p =>
    cases op with
    | Not => exact ⟨q_not (ia.pe k X hy ea h).1, qt_not (ia.pe k X hy ea h).2⟩
    | _ => cases h
  | _ => cases h) (fun _ _ => rfl) (fun _ _ => rfl) (fun _ _ _ => rfl)
theorem s_and {a b : PX} (ia : Snd T c nm a) (ib : Snd T c nm b) : Snd T c nm (.and a b) := .ofE (fun k X hy e h => by
  have h' := h
  cases e with
  | BoolOp op es p =>
    cases op with
    | And =>
      match es, h with
      | [ea, eb], h =>
        have h' : (fE T a k ea && fE T b k eb) = true := h
        rw [Bool.and_eq_true] at h'
        exact ⟨q_and (ia.pe k X hy ea h'.1).1 (pe_bool1 (ib.pe k X hy eb h'.2).1), (qw_and (ia.pe k X hy ea h'.1).2 (pw_and1 (ib.pe k X hy eb h'.2).2)).pt⟩
      | ea :: eb :: ec :: r, h =>
        have h' : (fE T a k ea && fE T b k (.BoolOp .And (eb :: ec :: r) p)) = true := h
        rw [Bool.and_eq_true] at h'
        exact ⟨q_and (ia.pe k X hy ea h'.1).1 (ib.pe k X hy _ h'.2).1, (qw_and (ia.pe k X hy ea h'.1).2 (pt_pw_and (ib.pe k X hy _ h'.2).2)).pt⟩
      | [], h => cases h
      | [_], h => cases h
    | Or => cases h
  | _ => cases h) (fun _ _ => rfl) (fun _ _ => rfl) (fun _ _ _ => rfl)
where
  pt_pw_and {X : Cx} {op : BoolOp} {es : List Expr} {p : Pos} {t : TT} (h : PT X (.BoolOp op es p) t) : PW X (.BoolOp op es p) t := ⟨fun whole pins s σ H Q I q => h.run pins s σ H Q I q⟩
theorem s_or {a b : PX} (ia : Snd T c nm a) (ib : Snd T c nm b) : Snd T c nm (.or a b) := .ofE (fun k X hy e h => by
  cases e with
  | BoolOp op es p =>
    cases op with
    | Or =>
      match es, h with
      | [ea, eb], h =>
        have h' : (fE T a k ea && fE T b k eb) = true := h
        rw [Bool.and_eq_true] at h'
        exact ⟨q_or (ia.pe k X hy ea h'.1).1 (pe_bool1 (ib.pe k X hy eb h'.2).1), (qw_or (ia.pe k X hy ea h'.1).2 (pw_or1 (ib.pe k X hy eb h'.2).2)).pt⟩
      | ea :: eb :: ec :: r, h =>
        have h' : (fE T a k ea && fE T b k (.BoolOp .Or (eb :: ec :: r) p)) = true := h
        rw [Bool.and_eq_true] at h'
        exact ⟨q_or (ia.pe k X hy ea h'.1).1 (ib.pe k X hy _ h'.2).1, (qw_or (ia.pe k X hy ea h'.1).2 (s_and.pt_pw_and (ib.pe k X hy _ h'.2).2)).pt⟩
      | [], h => cases h
      | [_], h => cases h
    | And => cases h
  | _ => cases h) (fun _ _ => rfl) (fun _ _ => rfl) (fun _ _ _ => rfl)
/-- a comparison by its rule -/
theorem cm_op (hy : Hy T c nm k X) {o : Cm} {op : CmpOp} (h : fCm o op = true) : OpR X (compareOp op) (rOp nm X.K fun x y M Q => cmW o x y M fun b => Q (.bl b)) := by
  cases o <;> cases op <;> first
    | (cases h; done)
    | exact w_eq hy.un
    | exact w_ne hy.un
    | exact w_lt hy.un
    | exact w_le
    | exact w_gt hy.un
    | exact w_ge
    | exact w_is
    | exact w_isnt
    | exact w_in hy.un hy.P hy.w
    | exact w_notin hy.un hy.P hy.w
theorem s_cmp (o : Cm) {a b : PX} (ia : Snd T c nm a) (ib : Snd T c nm b) : Snd T c nm (.cmp o a b) := .ofE (fun k X hy e h => by
  cases e with
  | Compare ea ops cs p =>
    match ops, cs, h with
    | [op], [eb], h =>
      have h' : ((fCm o op && !(behindInMarks op eb)) && (fE T a k ea && fE T b k eb)) = true := h
      simp only [Bool.and_eq_true, Bool.not_eq_true'] at h'
      obtain ⟨⟨h1, h2⟩, h3, h4⟩ := h'
      exact ⟨q_cmp (cm_op hy h1) (ia.pe k X hy ea h3).1 (ib.pe k X hy eb h4).1 h2, qt_cmp (cm_op hy h1) (ia.pe k X hy ea h3).1 (ib.pe k X hy eb h4).1 h2⟩
    | [], _, h => cases h
    | [_], [], h => cases h
    | [_], _ :: _ :: _, h => cases h
    | _ :: _ :: _, _, h => cases h
  | _ => cases h) (fun _ _ => rfl) (fun _ _ => rfl) (fun _ _ _ => rfl)
theorem s_chn (o p : Cm) {a b d : PX} (ia : Snd T c nm a) (ib : Snd T c nm b) (id : Snd T c nm d) : Snd T c nm (.chn o p a b d) := .ofE (fun k X hy e h => by
  cases e with
  | Compare ea ops cs q =>
    match ops, cs, h with
    | [op, op'], [eb, ec], h =>
      have h' : (((fCm o op && fCm p op') && !(lastMarks [op, op'] [eb, ec])) && (fE T a k ea && (fE T b k eb && fE T d k ec))) = true := h
      simp only [Bool.and_eq_true, Bool.not_eq_true'] at h'
      obtain ⟨⟨⟨h1, h1'⟩, h2⟩, h3, h4, h5⟩ := h'
      exact ⟨q_chn (cm_op hy h1) (cm_op hy h1') (ia.pe k X hy ea h3).1 (ib.pe k X hy eb h4).1 (id.pe k X hy ec h5).1 h2, qt_chn (cm_op hy h1) (cm_op hy h1') (ia.pe k X hy ea h3).1 (ib.pe k X hy eb h4).1 (id.pe k X hy ec h5).1 h2⟩
    | [], _, h => cases h
    | [_], _, h => cases h
    | [_, _], [], h => cases h
    | [_, _], [_], h => cases h
    | [_, _], _ :: _ :: _ :: _, h => cases h
    | _ :: _ :: _ :: _, _, h => cases h
  | _ => cases h) (fun _ _ => rfl) (fun _ _ => rfl) (fun _ _ _ => rfl)
theorem s_ite {t a b : PX} (it : Snd T c nm t) (ia : Snd T c nm a) (ib : Snd T c nm b) : Snd T c nm (.ite t a b) := .ofE (fun k X hy e h => by
  cases e with
  | IfExp ec ea eb p =>
    have h' : (fE T t k ec && (fE T a k ea && fE T b k eb)) = true := h
    simp only [Bool.and_eq_true] at h'
    obtain ⟨h1, h2, h3⟩ := h'
    exact ⟨q_ite (it.pe k X hy ec h1).2 (ia.pe k X hy ea h2).1 (ib.pe k X hy eb h3).1, qt_ite (it.pe k X hy ec h1).2 (ia.pe k X hy ea h2).2 (ib.pe k X hy eb h3).2⟩
  | _ => cases h) (fun _ _ => rfl) (fun _ _ => rfl) (fun _ _ _ => rfl)
/-- the arguments' forms -/
theorem nil_of {as : PX} (h : fA T as k [] = true) : as = .nil := by
  cases as <;> first | rfl | cases h
theorem cons_of {as : PX} {e : Expr} {es : List Expr} (h : fA T as k (e :: es) = true) : ∃ a b, as = .cons a b ∧ fE T a k e = true ∧ fA T b k es = true := by
  cases as with
  | cons a b =>
    have h' : (fE T a k e && fA T b k es) = true := h
    rw [Bool.and_eq_true] at h'
    exact ⟨a, b, rfl, h'.1, h'.2⟩
  | _ => cases h
theorem tail_any {as : PX} {e : Expr} {es : List Expr} (h : fA T as k (e :: es) = true) (pos : Pos) (env : Env) : starEach (e :: es) env = (false, eval e env) :: starEach es env ∧ (backTo pos (starEach es env)).any (·.1) = false := by
  obtain ⟨a, b, _, h1, h2⟩ := cons_of h
  exact ⟨one_star h1 _ _, by rw [back_any]; exact (fA_star h2 env).1⟩
theorem s_call (f : Nat) {as : PX} (ia : Snd T c nm as) : Snd T c nm (.call f as) := .ofE (fun k X hy e h => by
  cases e with
  | Call fn es ks p =>
    cases fn with
    | Name x q =>
      cases ks with
      | nil =>
        have h' : ((gl k x && decide (T.fn f = some x)) && fA T as k es) = true := h
        simp only [Bool.and_eq_true, decide_eq_true_eq] at h'
        obtain ⟨⟨h1, h2⟩, h3⟩ := h'
        obtain ⟨g1, g2⟩ := gl_ok hy h1
        obtain ⟨j, fa, fd, ps, F, hr, hm, hk, hb⟩ := hy.fs f x h2
        refine PE.both ?_ (fun _ => rfl)
        cases es with
        | nil =>
          have e := nil_of h3
          subst e
          exact q_call0 F hr g1 hm hk hb g2
        | cons e0 er =>
          obtain ⟨s1, s2⟩ := tail_any h3 p X.env
          exact q_call F hr g1 hm hk hb (ia.pa k X hy _ h3) g2 s1 s2
      | cons _ _ => cases h
    | _ => cases h
  | _ => cases h) (fun _ _ => rfl) (fun _ _ => rfl) (fun _ _ _ => rfl)
theorem s_mk (d f : Nat) {as : PX} (ia : Snd T c nm as) : Snd T c nm (.mk d f as) := .ofE (fun k X hy e h => by
  cases e with
  | Call fn es ks p =>
    cases fn with
    | Name x q =>
      cases ks with
      | nil =>
        have h' : ((gl k x && decide (T.mkr d f = some x)) && fA T as k es) = true := h
        simp only [Bool.and_eq_true, decide_eq_true_eq] at h'
        obtain ⟨⟨h1, h2⟩, h3⟩ := h'
        obtain ⟨g1, g2⟩ := gl_ok hy h1
        obtain ⟨j, fa, fd, ps, mk, F, hr, hm, hb⟩ := hy.ms d f x h2
        refine PE.both ?_ (fun _ => rfl)
        cases es with
        | nil =>
          have e := nil_of h3
          subst e
          exact q_mk0 mk F hr g1 hm hb g2
        | cons e0 er =>
          obtain ⟨s1, s2⟩ := tail_any h3 p X.env
          exact q_mk mk F hr g1 hm hb (ia.pa k X hy _ h3) g2 s1 s2
      | cons _ _ => cases h
    | _ => cases h
  | _ => cases h) (fun _ _ => rfl) (fun _ _ => rfl) (fun _ _ _ => rfl)
theorem s_meth (ms : List (Nat × Nat)) (m : Nat) {o as : PX} (io : Snd T c nm o) (ia : Snd T c nm as) : Snd T c nm (.meth ms m o as) := .ofE (fun k X hy e h => by
  cases e with
  | Call fn es ks p =>
    cases fn with
    | Attribute eo x ap =>
      cases ks with
      | nil =>
        have h' : (((decide (x = T.fld m) && ms.all fun q => T.mt q.1 m q.2) && (noSup eo && (ap.endLine == p.line && decide (es.length < 29)))) && (fE T o k eo && fA T as k es)) = true := h
        simp only [Bool.and_eq_true, decide_eq_true_eq, List.all_eq_true] at h'
        obtain ⟨⟨⟨h1, h2⟩, h3, h4, h5⟩, h6, h7⟩ := h'
        refine PE.both ?_ (fun _ => rfl)
        have e : x = nm.fld m := by rw [hy.fl]; exact h1
        subst e
        exact q_meth hy h2 h7 h5 h3 h4 (io.pe k X hy _ h6).1 (ia.pa k X hy _ h7)
      | cons _ _ => cases h
    | _ => cases h
  | _ => cases h) (fun _ _ => rfl) (fun _ _ => rfl) (fun _ _ _ => rfl)
theorem s_mets (ms : List (Nat × Nat)) (m : Nat) {o as : PX} (io : Snd T c nm o) (ia : Snd T c nm as) : Snd T c nm (.mets ms m o as) := .ofE (fun k X hy e h => by
  cases e with
  | Call fn es ks p =>
    cases fn with
    | Attribute eo x ap =>
      cases ks with
      | nil =>
        have h' : (((decide (x = T.fld m) && ms.all fun q => T.mv q.1 m q.2) && (noSup eo && (ap.endLine == p.line && decide (es.length < 29)))) && (fE T o k eo && fA T as k es)) = true := h
        simp only [Bool.and_eq_true, decide_eq_true_eq, List.all_eq_true] at h'
        obtain ⟨⟨⟨h1, h2⟩, h3, h4, h5⟩, h6, h7⟩ := h'
        refine PE.both ?_ (fun _ => rfl)
        have e : x = nm.fld m := by rw [hy.fl]; exact h1
        subst e
        exact q_mets hy h2 h7 h5 h3 h4 (io.pe k X hy _ h6).1 (ia.pa k X hy _ h7)
      | cons _ _ => cases h
    | _ => cases h
  | _ => cases h) (fun _ _ => rfl) (fun _ _ => rfl) (fun _ _ _ => rfl)
theorem bl_ok (hy : Hy T c nm k X) {x : Str} (h : x ∈ bnames) : X.mg x = none := hy.bl x h
theorem bi_rule (hy : Hy T c nm k X) : ∀ {b : Bi} {y : Str} {t : Bool}, biN b = some (y, t) → ∃ u, bootBuiltins y = some u ∧ y ∈ bnames ∧ y ≠ "__name__" ∧ ((∃ id, u = .builtin id ∧ CallR X (.builtin id) (rBi nm X.K b)) ∨ ∃ T, u = .type T ∧ CallR X (.type T) (rBi nm X.K b))
  | .abs, _, _, rfl => ⟨.builtin "abs", by decide +kernel, by decide +kernel, by decide +kernel, .inl ⟨_, rfl, b_abs⟩⟩
  | .all, _, _, rfl => ⟨.builtin "all", by decide +kernel, by decide +kernel, by decide +kernel, .inl ⟨_, rfl, b_all hy.calm⟩⟩
  | .any, _, _, rfl => ⟨.builtin "any", by decide +kernel, by decide +kernel, by decide +kernel, .inl ⟨_, rfl, b_any hy.calm⟩⟩
  | .sum, _, _, rfl => ⟨.builtin "sum", by decide +kernel, by decide +kernel, by decide +kernel, .inl ⟨_, rfl, b_sum hy.calm⟩⟩
  | .len, _, _, rfl => ⟨.builtin "len", by decide +kernel, by decide +kernel, by decide +kernel, .inl ⟨_, rfl, b_len⟩⟩
  | .min2, _, _, rfl => ⟨.builtin "min", by decide +kernel, by decide +kernel, by decide +kernel, .inl ⟨_, rfl, b_min2 hy.calm⟩⟩
  | .min1, _, _, rfl => ⟨.builtin "min", by decide +kernel, by decide +kernel, by decide +kernel, .inl ⟨_, rfl, b_min1 hy.calm hy.un⟩⟩
  | .max2, _, _, rfl => ⟨.builtin "max", by decide +kernel, by decide +kernel, by decide +kernel, .inl ⟨_, rfl, b_max2 hy.calm⟩⟩
  | .max3, _, _, rfl => ⟨.builtin "max", by decide +kernel, by decide +kernel, by decide +kernel, .inl ⟨_, rfl, b_max3 hy.calm⟩⟩
  | .sorted, _, _, rfl => ⟨.builtin "sorted", by decide +kernel, by decide +kernel, by decide +kernel, .inl ⟨_, rfl, b_sorted hy.calm⟩⟩
  | .int, _, _, rfl => ⟨.type "int", by decide +kernel, by decide +kernel, by decide +kernel, .inr ⟨_, rfl, b_int⟩⟩
  | .list, _, _, rfl => ⟨.type "list", by decide +kernel, by decide +kernel, by decide +kernel, .inr ⟨_, rfl, b_list hy.calm⟩⟩
  | .tuple, _, _, rfl => ⟨.type "tuple", by decide +kernel, by decide +kernel, by decide +kernel, .inr ⟨_, rfl, b_tuple⟩⟩
theorem fE_isi {t : Ty} {as : PX} {x : Str} {es : List Expr} {q p : Pos} (h : fE T (.bi (.isi t) as) k (.Call (.Name x q) es [] p) = true) : gl k x = true ∧ ∃ ea y q2, es = [ea, .Name y q2] ∧ x = ("isinstance" : Str) ∧ gl k y = true ∧ y = Str.ofString (tyS t) ∧ fA T as k [ea] = true := by
  have h0 : (gl k x && (match (generalizing := false) es with
      | [ea, .Name y _] => (decide (x = ("isinstance" : Str)) && (gl k y && decide (y = Str.ofString (tyS t)))) && fA T as k [ea]
      | _ => false)) = true := by
    cases es with
    | nil => exact h
    | cons e1 r =>
      cases r with
      | nil => exact h
      | cons e2 r =>
        cases r with
        | nil => cases e2 <;> exact h
        | cons _ _ => cases e2 <;> exact h
  rw [Bool.and_eq_true] at h0
  refine ⟨h0.1, ?_⟩
  have h1 := h0.2
  split at h1
  · rename_i ea y q2
    simp only [Bool.and_eq_true, decide_eq_true_eq] at h1
    exact ⟨ea, y, q2, rfl, h1.1.1, h1.1.2.1, h1.1.2.2, h1.2⟩
  · cases h1
theorem s_bi (b : Bi) {as : PX} (ia : Snd T c nm as) : Snd T c nm (.bi b as) := .ofE (fun k X hy e h => by
  cases e with
  | Call fn es ks p =>
    cases fn with
    | Name x q =>
      cases ks with
      | nil =>
        refine PE.both ?_ (fun _ => rfl)
        cases hb : biN b with
        | some w =>
          obtain ⟨y, t⟩ := w
          have h' : (gl k x && ((decide (y = x) && decide (0 < es.length)) && fA T as k es)) = true := by
            cases b <;> first
              | (cases hb; exact h)
              | cases hb
          simp only [Bool.and_eq_true, decide_eq_true_eq] at h'
          obtain ⟨hg, ⟨rfl, hl⟩, h3⟩ := h'
          obtain ⟨g1, g2⟩ := gl_ok hy hg
          obtain ⟨u, b1, b2, b3, b4⟩ := bi_rule (nm := nm) hy hb
          cases es with
          | nil => cases hl
          | cons e0 er =>
            obtain ⟨s1, s2⟩ := tail_any h3 p X.env
            have ha := ia.pa k X hy _ h3
            rcases b4 with ⟨id, rfl, b4⟩ | ⟨id, rfl, b4⟩
            · exact q_bi b4 g1 (bl_ok hy b2) b1 ha b3 g2 s1 s2
            · exact q_bty b4 g1 (bl_ok hy b2) b1 ha b3 g2 s1 s2
        | none =>
          cases b with
          | isi t =>
            obtain ⟨h1, ea, y, q2, rfl, rfl, h3, rfl, h5⟩ := fE_isi h
            obtain ⟨g1, _⟩ := gl_ok hy h1
            obtain ⟨g3, g4⟩ := gl_ok hy h3
            obtain ⟨a, b, rfl, k1, k2⟩ := cons_of h5
            obtain rfl := nil_of k2
            refine q_isi rfl g1 (bl_ok hy (by decide +kernel)) g3 ?_ ?_ ?_ g4 (ia.ph k X hy a .nil rfl ea k1) (one_star k1 _ _)
            · cases t <;> exact bl_ok hy (by decide +kernel)
            · cases t <;> decide +kernel
            · cases t <;> decide +kernel
          | _ => first
            | (cases hb; done)
            | (have h' : (gl k x && (false && fA T as k es)) = true := h
               rw [Bool.false_and, Bool.and_false] at h'
               cases h')
      | cons _ _ => cases h
    | _ => cases h
  | _ => cases h) (fun _ _ => rfl) (fun _ _ => rfl) (fun _ _ _ => rfl)
theorem two_args {as : PX} {e1 e2 : Expr} (h : fA T as k [e1, e2] = true) : ∃ a b, as = .cons a (.cons b .nil) ∧ fE T a k e1 = true ∧ fE T b k e2 = true := by
  obtain ⟨a, b, rfl, h1, h2⟩ := cons_of h
  obtain ⟨b, d, rfl, h3, h4⟩ := cons_of h2
  obtain rfl := nil_of h4
  exact ⟨a, b, rfl, h1, h3⟩
theorem s_bm (b : Bm) {o as : PX} (io : Snd T c nm o) (ia : Snd T c nm as) : Snd T c nm (.bm b o as) := .ofE (fun k X hy e h => by
  cases e with
  | Call fn es ks p =>
    cases fn with
    | Attribute eo x ap =>
      cases ks with
      | nil =>
        have h' : ((noSup eo && ap.endLine == p.line) && ((match (generalizing := false) b with
      | .join => decide (x = ("join" : Str)) && decide (es.length = 1)
      | .index => decide (x = ("index" : Str)) && decide (es.length = 1)
      | .split => decide (x = ("split" : Str)) && decide (es.length = 1)
      | .lindex => decide (x = ("index" : Str)) && decide (es.length = 1)
      | .append => decide (x = ("append" : Str)) && decide (es.length = 1)
      | .pop => decide (x = ("pop" : Str)) && decide (es.length = 0)
      | .get => decide (x = ("get" : Str)) && decide (es.length = 2)
      | .replace => false) && (fE T o k eo && fA T as k es))) = true := h
        simp only [Bool.and_eq_true] at h'
        obtain ⟨⟨h1, h2⟩, h3, h4, h5⟩ := h'
        have hb := base_ok (x := x) (env := X.env) h1
        have po := (io.pe k X hy _ h4).1
        have pa := ia.pa k X hy _ h5
        refine PE.both ?_ (fun _ => rfl)
        cases b with
        | replace => cases h3
        | join =>
          simp only [Bool.and_eq_true, decide_eq_true_eq] at h3
          obtain ⟨rfl, hl⟩ := h3
          match es, hl with
          | [e0], _ =>
            obtain ⟨s1, s2⟩ := tail_any h5 p X.env
            exact q_bm PySem.F.plainAttrs_str PySem.F.slot_str_join PySem.F.type_str_join m_join (fun px M ι H v z _ r => bmK_str z (.inl rfl) r) po pa hb (few_ok h5 (by show 1 < 30; decide) p X.env) h2 s1 s2
        | index =>
          simp only [Bool.and_eq_true, decide_eq_true_eq] at h3
          obtain ⟨rfl, hl⟩ := h3
          match es, hl with
          | [e0], _ =>
            obtain ⟨s1, s2⟩ := tail_any h5 p X.env
            exact q_bm PySem.F.plainAttrs_str PySem.F.slot_str_index PySem.F.type_str_index m_index (fun px M ι H v z _ r => bmK_str z (.inr (.inl rfl)) r) po pa hb (few_ok h5 (by show 1 < 30; decide) p X.env) h2 s1 s2
        | split =>
          simp only [Bool.and_eq_true, decide_eq_true_eq] at h3
          obtain ⟨rfl, hl⟩ := h3
          match es, hl with
          | [e0], _ =>
            obtain ⟨s1, s2⟩ := tail_any h5 p X.env
            exact q_bm PySem.F.plainAttrs_str PySem.F.slot_str_split PySem.F.type_str_split m_split (fun px M ι H v z _ r => bmK_str z (.inr (.inr rfl)) r) po pa hb (few_ok h5 (by show 1 < 30; decide) p X.env) h2 s1 s2
        | lindex =>
          simp only [Bool.and_eq_true, decide_eq_true_eq] at h3
          obtain ⟨rfl, hl⟩ := h3
          match es, hl with
          | [e0], _ =>
            obtain ⟨s1, s2⟩ := tail_any h5 p X.env
            exact q_bm PySem.F.plainAttrs_list PySem.F.slot_list_index PySem.F.type_list_index m_lindex (fun px M ι H v z m r => by
              cases r with
              | @lst a o xs ps ha rv => exact .inl ⟨rfl, xs, .inl (.inr ⟨o, ha⟩)⟩
              | _ => cases z) po pa hb (few_ok h5 (by show 1 < 30; decide) p X.env) h2 s1 s2
        | append =>
          simp only [Bool.and_eq_true, decide_eq_true_eq] at h3
          obtain ⟨rfl, hl⟩ := h3
          match es, hl with
          | [e0], _ =>
            obtain ⟨s1, s2⟩ := tail_any h5 p X.env
            exact q_bm PySem.F.plainAttrs_list PySem.F.slot_list_append PySem.F.type_list_append m_append (fun px M ι H v z m r => bmK_list z (.inl rfl) m r) po pa hb (few_ok h5 (by show 1 < 30; decide) p X.env) h2 s1 s2
        | pop =>
          simp only [Bool.and_eq_true, decide_eq_true_eq] at h3
          obtain ⟨rfl, hl⟩ := h3
          match es, hl with
          | [], _ =>
            obtain rfl := nil_of h5
            exact q_bm0 PySem.F.plainAttrs_list PySem.F.slot_list_pop PySem.F.type_list_pop m_pop (fun px M ι H v z m r => bmK_list z (.inr rfl) m r) po hb h2
        | get =>
          simp only [Bool.and_eq_true, decide_eq_true_eq] at h3
          obtain ⟨rfl, hl⟩ := h3
          match es, hl with
          | [e1, e2], _ =>
            obtain ⟨a, b, rfl, k1, k2⟩ := two_args h5
            refine q_get (d := e1) hy.un hy.P hy.w po (ia.ph k X hy _ _ rfl _ k1) (ia.ph2 k X hy _ _ _ rfl _ k2) ⟨hb, few_ok h5 (by show 2 < 30; decide) p X.env, h2, ?_⟩
            rw [one_star k1, one_star k2]
            rfl
      | cons _ _ => cases h
    | _ => cases h
  | _ => cases h) (fun _ _ => rfl) (fun _ _ => rfl) (fun _ _ _ => rfl)
theorem s_fld {o : PX} (f : Nat) (io : Snd T c nm o) : Snd T c nm (.fld o f) := .ofE (fun k X hy e h => by
  cases e with
  | Attribute eo x p =>
    have h' : ((decide (x = T.fld f) && (T.df f && noSup eo)) && fE T o k eo) = true := h
    simp only [Bool.and_eq_true, decide_eq_true_eq] at h'
    obtain ⟨⟨h1, h2, h3⟩, h4⟩ := h'
    have e : x = nm.fld f := by rw [hy.fl]; exact h1
    subst e
    exact PE.both (q_fld (hy.df f h2) (io.pe k X hy _ h4).1 (base_ok h3)) (fun _ => rfl)
  | _ => cases h) (fun _ _ => rfl) (fun _ _ => rfl) (fun _ _ _ => rfl)
theorem s_ix {a i : PX} (ia : Snd T c nm a) (ii : Snd T c nm i) : Snd T c nm (.ix a i) := .ofE (fun k X hy e h => by
  cases e with
  | Subscript ea ei p =>
    have h' : (fE T a k ea && fE T i k ei) = true := h
    rw [Bool.and_eq_true] at h'
    exact PE.both (q_ix hy.un (ia.pe k X hy _ h'.1).1 (ii.pe k X hy _ h'.2).1 (ix_plain h'.2)) (fun _ => rfl)
  | _ => cases h) (fun _ _ => rfl) (fun _ _ => rfl) (fun _ _ _ => rfl)
theorem s_sl {a lo hi : PX} (ia : Snd T c nm a) (il : Snd T c nm lo) (ih : Snd T c nm hi) : Snd T c nm (.sl a lo hi) := .ofE (fun k X hy e h => by
  cases e with
  | Subscript ea ei p =>
    cases ei with
    | Slice l u st q =>
      cases st with
      | none =>
        have h' : (fE T a k ea && (fO T lo k l && fO T hi k u)) = true := h
        simp only [Bool.and_eq_true] at h'
        exact PE.both (q_sl (ia.pe k X hy _ h'.1).1 (il.po k X hy _ h'.2.1) (ih.po k X hy _ h'.2.2)) (fun _ => rfl)
      | some _ => cases h
    | _ => cases h
  | _ => cases h) (fun _ _ => rfl) (fun _ _ => rfl) (fun _ _ _ => rfl)
theorem s_ls {es : PX} (ia : Snd T c nm es) : Snd T c nm (.ls es) := .ofE (fun k X hy e h => by
  cases e with
  | List xs p => exact PE.both (q_ls (ia.pa k X hy _ h)) (fun _ => rfl)
  | _ => cases h) (fun _ _ => rfl) (fun _ _ => rfl) (fun _ _ _ => rfl)
theorem s_rp {es : PX} (n : Nat) (ia : Snd T c nm es) : Snd T c nm (.rp es n) := .ofE (fun k X hy e h => by
  have h0 : (match (generalizing := false) e with
    | .BinOp (.List xs _) .Mult (.Constant (.int i) _ _) _ => (decide (i = (n : Int)) && decide (n < 1000000)) && fA T es k xs
    | _ => false) = true := h
  split at h0
  · simp only [Bool.and_eq_true, decide_eq_true_eq] at h0
    obtain ⟨⟨rfl, h2⟩, h3⟩ := h0
    exact PE.both (q_rp h2 (ia.pa k X hy _ h3)) (fun _ => rfl)
  · cases h0) (fun _ _ => rfl) (fun _ _ => rfl) (fun _ _ _ => rfl)
theorem s_sset {a : PX} (ia : Snd T c nm a) : Snd T c nm (.sset a) := .ofE (fun k X hy e h => by
  have h0 : (match (generalizing := false) e with
    | .Call (.Name x _) [.Call (.Name y _) [ea] [] _] [] _ => ((gl k x && decide (x = ("sorted" : Str))) && (gl k y && decide (y = ("set" : Str)))) && fE T a k ea
    | _ => false) = true := h
  split at h0
  · simp only [Bool.and_eq_true, decide_eq_true_eq] at h0
    obtain ⟨⟨⟨h1, rfl⟩, h2, rfl⟩, h3⟩ := h0
    exact PE.both (q_sset hy.calm (gl_ok hy h1).1 (hy.bl _ (by decide +kernel)) (gl_ok hy h2).1 (hy.bl _ (by decide +kernel)) (ia.pe k X hy _ h3).1 (one_star h3 _ _)) (fun _ => rfl)
  · cases h0) (fun _ _ => rfl) (fun _ _ => rfl) (fun _ _ _ => rfl)
theorem s_lm {es : PX} (ia : Snd T c nm es) : Snd T c nm (.lm es) := .ofE (fun k X hy e h => by
  cases e with
  | List xs p => exact PE.both (q_lm (ia.pa k X hy _ h)) (fun _ => rfl)
  | _ => cases h) (fun _ _ => rfl) (fun _ _ => rfl) (fun _ _ _ => rfl)
theorem s_tp {es : PX} (ia : Snd T c nm es) : Snd T c nm (.tp es) := .ofE (fun k X hy e h => by
  cases e with
  | Tuple xs n p => exact PE.both (q_tp (ia.pa k X hy _ h)) (fun _ => rfl)
  | _ => cases h) (fun _ _ => rfl) (fun _ _ => rfl) (fun _ _ _ => rfl)
/-! ### dict displays -/
def trsOf (nm : Nm) (K : PySem.W.Frag) (c : CE) : List (List Nat) → PX → List (TE × TE)
  | s :: l, .cons a b => (tC (.str (toS s)), tE nm K (EW c a)) :: trsOf nm K c l b
  | _, _ => []
theorem dsK_nil {a r : PX} : dsK (.cons a r) [] = none := by
  cases a with
  | k u => cases u <;> rfl
  | _ => rfl
theorem dsK_none {a r : PX} {es : List (Option Expr)} : dsK (.cons a r) (none :: es) = none := by
  cases a with
  | k u => cases u <;> rfl
  | _ => rfl
theorem wA_keys {c : CE} {Z : Xt} : ∀ {ks : PX} {keys : List (Option Expr)} {l : List (List Nat)} {ρ : Rho} {M : Mem} {Q : List PV → Mem → Prop}, dsK ks keys = some l → wA c ks ρ M Q Z → Q (l.map PV.str) M
  | .nil, [], l, ρ, M, Q, h, hw => by cases h; exact hw
  | .cons a r, some e :: es, l, ρ, M, Q, h, hw => by
    cases a with
    | k v =>
      cases v with
      | str s =>
        cases e with
        | Constant u n p =>
          cases u with
          | str x =>
            have h' : (match decide (x = toS s), dsK r es with
              | true, some l => some (s :: l)
              | _, _ => none) = some l := h
            cases h1 : decide (x = toS s) with
            | false => rw [h1] at h'; cases h'
            | true =>
              rw [h1] at h'
              cases h2 : dsK r es with
              | none => rw [h2] at h'; cases h'
              | some m =>
                rw [h2] at h'
                cases h'
                exact wA_keys (Q := fun xs M => Q (.str s :: xs) M) h2 hw
          | _ => cases h
        | _ => cases h
      | _ => cases h
    | _ => cases h
  | .nil, _ :: _, _, _, _, _, h, _ => by cases h
  | .cons a r, [], _, _, _, _, h, _ => by rw [dsK_nil] at h; cases h
  | .cons a r, none :: _, _, _, _, _, h, _ => by rw [dsK_none] at h; cases h
  | .k _, _, _, _, _, _, h, _ => by cases h
  | .v _, _, _, _, _, _, h, _ => by cases h
  | .gl _ _, _, _, _, _, _, h, _ => by cases h
  | .bin _ _ _, _, _, _, _, _, h, _ => by cases h
  | .neg _, _, _, _, _, _, h, _ => by cases h
  | .not _, _, _, _, _, _, h, _ => by cases h
  | .and _ _, _, _, _, _, _, h, _ => by cases h
  | .or _ _, _, _, _, _, _, h, _ => by cases h
  | .cmp _ _ _, _, _, _, _, _, h, _ => by cases h
  | .chn _ _ _ _ _, _, _, _, _, _, h, _ => by cases h
  | .ite _ _ _, _, _, _, _, _, h, _ => by cases h
  | .call _ _, _, _, _, _, _, h, _ => by cases h
  | .mk _ _ _, _, _, _, _, _, h, _ => by cases h
  | .meth _ _ _ _, _, _, _, _, _, h, _ => by cases h
  | .mets _ _ _ _, _, _, _, _, _, h, _ => by cases h
  | .bi _ _, _, _, _, _, _, h, _ => by cases h
  | .bm _ _ _, _, _, _, _, _, h, _ => by cases h
  | .fld _ _, _, _, _, _, _, h, _ => by cases h
  | .ix _ _, _, _, _, _, _, h, _ => by cases h
  | .sl _ _ _, _, _, _, _, _, h, _ => by cases h
  | .no, _, _, _, _, _, h, _ => by cases h
  | .ls _, _, _, _, _, _, h, _ => by cases h
  | .lm _, _, _, _, _, _, h, _ => by cases h
  | .tp _, _, _, _, _, _, h, _ => by cases h
  | .ds _ _, _, _, _, _, _, h, _ => by cases h
  | .lc _ _ _ _ _, _, _, _, _, _, h, _ => by cases h
  | .itv _, _, _, _, _, _, h, _ => by cases h
  | .enum _, _, _, _, _, _, h, _ => by cases h
  | .zip2 _ _, _, _, _, _, _, h, _ => by cases h
  | .rng1 _, _, _, _, _, _, h, _ => by cases h
  | .rng2 _ _, _, _, _, _, _, h, _ => by cases h
/-- the pairs, made -/
theorem pairs_of {c : CE} {nm : Nm} {K : PySem.W.Frag} {σ : L2.St} {ρ : Rho} : ∀ {l : List (List Nat)} {vs : PX} {k : Kc} {T : Tb} {values : List Expr} {ι : List Addr} {H : Hp} {M : Mem} {Qp : List PV → Mem → Prop} {R : List (V × V) → Hp → Prop}, fA T vs k values = true → l.length = values.length →
    Sim nm K ι H M σ ρ → wA c vs ρ M Qp X0 → (∀ ι2 H2 M2 ws ps, Ext ι H ι2 H2 → Rm nm K ι2 H2 M2 → Rvs K ι2 H2 ws ps → ws.length = l.length → Qp ps M2 → R ((l.map fun s => V.str (toS s)).zip ws) H2) → tPairs (trsOf nm K c l vs) σ H R
  | [], vs, k, T, values, ι, H, M, Qp, R, h, hl, sm, hw, kk => by
    cases values with
    | nil =>
      obtain rfl := nil_of h
      exact kk ι H M [] [] .refl sm.m .nil rfl hw
    | cons _ _ => cases hl
  | s :: l, vs, k, T, values, ι, H, M, Qp, R, h, hl, sm, hw, kk => by
    cases values with
    | nil => cases hl
    | cons e er =>
      obtain ⟨a, b, rfl, h1, h2⟩ := cons_of h
      show tE nm K (EW c a) σ H fun y H2 => tPairs (trsOf nm K c l b) σ H2 fun ps H3 => R ((V.str (toS s), y) :: ps) H3
      refine ⟨ι, ρ, M, _, sm, hw, fun p M1 hp ι1 H1 v e1 m1 r1 => ?_⟩
      refine pairs_of (Qp := fun xs M2 => Qp (p :: xs) M2) h2 (by simpa using hl) (sm.up e1 m1) hp fun ι2 H2 M2 ws ps e2 m2 r2 hwl hq => ?_
      exact kk ι2 H2 M2 (v :: ws) (p :: ps) (e1.trans e2) m2 (.cons (r1.up e2) r2) (by simp [hwl]) hq
theorem pps_of {k : Kc} {X : Cx} (hy : Hy T c nm k X) {pos : Pos} : ∀ {ks vs : PX} {keys : List (Option Expr)} {values : List Expr} {l : List (List Nat)}, dsK ks keys = some l → fA T vs k values = true → l.length = values.length → AllE T c nm vs → PPs X pos keys values (trsOf nm X.K c l vs) ∧ keys.all (·.isSome) = true ∧ keys.length = values.length
  | ks, vs, [], values, l, h, hv, hl, _ => by
    have e : l = [] := by
      cases ks with
      | nil => cases h; rfl
      | cons a b => rw [dsK_nil] at h; cases h
      | _ => cases h
    subst e
    cases values with
    | nil =>
      obtain rfl := nil_of hv
      exact ⟨pps_nil, rfl, rfl⟩
    | cons _ _ => cases hl
  | ks, vs, ke :: keys, values, l, h, hv, hl, h1 => by
    cases ks with
    | cons a r =>
      cases a with
      | k u =>
        cases u with
        | str s =>
          cases ke with
          | none => cases h
          | some e =>
            cases e with
            | Constant w n p =>
              cases w with
              | str x =>
                have h' : (match decide (x = toS s), dsK r keys with
                  | true, some l => some (s :: l)
                  | _, _ => none) = some l := h
                cases g1 : decide (x = toS s) with
                | false => rw [g1] at h'; cases h'
                | true =>
                  rw [g1] at h'
                  cases g2 : dsK r keys with
                  | none => rw [g2] at h'; cases h'
                  | some m =>
                    rw [g2] at h'
                    cases h'
                    have ex : x = toS s := of_decide_eq_true g1
                    subst ex
                    cases values with
                    | nil => cases hl
                    | cons e er =>
                      obtain ⟨a, b, rfl, k1, k2⟩ := cons_of hv
                      obtain ⟨q1, q2, q3⟩ := pps_of hy (ks := r) (pos := pos) g2 k2 (by simpa using hl) h1.2
                      exact ⟨pps_cons pe_str (h1.1 k X hy e k1) q1, by rw [List.all_cons, q2]; rfl, by simp [q3]⟩
              | _ => cases h
            | _ => cases h
        | _ => cases h
      | _ => cases h
    | _ => cases h
theorem merge_nodup : ∀ {kvs acc : List (Key × V)}, ((acc ++ kvs).map (·.1)).Nodup → mergeK acc kvs = acc ++ kvs
  | [], acc, _ => by simp [mergeK]
  | p :: kvs, acc, h => by
    have e : putK acc p.1 p.2 = acc ++ [p] := by
      refine put_new fun q hq z => ?_
      rw [List.map_append, List.nodup_append] at h
      exact h.2.2 q.1 (List.mem_map_of_mem hq) p.1 (by simp) z
    show mergeK (putK acc p.1 p.2) kvs = _
    rw [e, merge_nodup (by rw [List.append_assoc]; exact h), List.append_assoc]
    rfl
where
  put_new : ∀ {acc : List (Key × V)} {p : Key × V}, (∀ q ∈ acc, q.1 ≠ p.1) → putK acc p.1 p.2 = acc ++ [p]
    | acc, p, h => by
      unfold putK
      have e : (acc.any fun kv => decide (kv.1 = p.1)) = false := by
        rw [List.any_eq_false]
        intro q hq
        simpa using h q hq
      rw [e]
      rfl
theorem s_ds {ks vs : PX} (iv : Snd T c nm vs) : Snd T c nm (.ds ks vs) := .ofE (fun k X hy e h => by
  cases e with
  | Dict keys values p =>
    have h' : ((match (generalizing := false) dsK ks keys with
      | some l => decide l.Nodup && (decide (0 < l.length) && (decide (l.length ≤ 15) && decide (l.length = values.length)))
      | none => false) && fA T vs k values) = true := h
    rw [Bool.and_eq_true] at h'
    obtain ⟨h1, h2⟩ := h'
    cases ek : dsK ks keys with
    | none => rw [ek] at h1; cases h1
    | some l =>
      rw [ek] at h1
      simp only [Bool.and_eq_true, decide_eq_true_eq] at h1
      obtain ⟨k1, k2, k3, k4⟩ := h1
      obtain ⟨q1, q2, q3⟩ := pps_of hy (pos := p) ek h2 k4 iv.al
      have kne : keys ≠ [] := fun z => by
        rw [z] at q3
        rw [← q3] at k4
        simp at k4
        rw [k4] at k2
        cases k2
      refine PE.both (PE.of (PE.lock (pe_disp q1 q2 q3 kne (by omega))) fun σ H Q ⟨ι, ρ, M, Qp, sm, hf, kk⟩ => ?_) (fun _ => rfl)
      have hw : wA c vs ρ M (fun ys M2 => Qp (.dct (l.map PV.str) ys) M2) X0 := wA_keys (Q := fun xs M1 => wA c vs ρ M1 (fun ys M2 => Qp (.dct xs ys) M2) X0) ek hf
      intro D hD
      have e0 : Ext ι H ι (upd H D (.dK [])) := .upd_new hD
      have hnD : D ∉ ι := fun z => by
        obtain ⟨n, hn⟩ := List.getElem?_of_mem z
        obtain ⟨u, hu⟩ := sm.m.has hn
        rw [hD] at hu
        cases hu
      refine pairs_of h2 k4 (sm.up e0 (sm.m.new hD)) hw fun ι2 H2 M2 ws ps e2 m2 r2 hwl hq => ?_
      have hD2 : H2 D = some (.dK []) := e2.pv _ _ upd_same hnD
      have hnD2 : D ∉ ι2 := e2.out (H := upd H D (.dK [])) (a := D) (o := .dK []) upd_same hnD
      have kvl : ∀ {l : List (List Nat)} {ws : List V}, ws.length = l.length → (l.map fun s => V.str (toS s)).zip ws = ((l.map fun s => (Sum.inr (toS s) : Key)).zip ws).map fun kv => (kV kv.1, kv.2) := by
        intro l
        induction l with
        | nil => intro ws _; rfl
        | cons s l ih => intro ws hl; cases ws with
          | nil => cases hl
          | cons w ws =>
            have := ih (ws := ws) (by simpa using hl)
            simp only [List.map_cons, List.zip_cons_cons, this]
            rfl
      have hlen : ((l.map fun s => (Sum.inr (toS s) : Key)).zip ws).length = l.length := by simp [hwl]
      have hfst : ((l.map fun s => (Sum.inr (toS s) : Key)).zip ws).map (·.1) = l.map fun s => (Sum.inr (toS s) : Key) := by
        rw [List.map_fst_zip]
        simp [hwl]
      have hsnd : ((l.map fun s => (Sum.inr (toS s) : Key)).zip ws).map (·.2) = ws := by
        rw [List.map_snd_zip]
        simp [hwl]
      refine ⟨hD2, _, kvl hwl, by rw [hlen]; exact k3, D, _, rfl, upd_same, trivial, fun od => ?_⟩
      rw [upd_upd, merge_nodup (by
        rw [List.nil_append, hfst]
        exact List.Pairwise.map _ (fun a b hne z => hne (toS_inj (Sum.inr.inj z))) k1), List.nil_append]
      have x0 : Ex0 ι2 H2 ι2 (upd H2 D (.frz od (.dK ((l.map fun s => (Sum.inr (toS s) : Key)).zip ws)))) := ⟨fun _ _ z => z, fun a u hu hf => by
        rw [upd_ne]
        · exact hu
        · rintro rfl
          rw [hD2] at hu
          cases hu
          exact hf.elim⟩
      have e3 := e0.trans e2
      refine kk _ M2 hq ι2 _ _ ⟨e3.ix, fun a u hu hf => ?_, fun a u hu hn => ?_, e3.nw⟩ (m2.keep0 x0 fun n a u ha hu => ?_) (.dct (by cases l with | nil => exact absurd k2 (Nat.lt_irrefl 0) | cons _ _ => rfl) upd_same ?_ ?_)
      · rw [upd_ne (ne_of_none hu hD)]; exact e3.fx a u hu hf
      · rw [upd_ne (ne_of_none hu hD)]; exact e3.pv a u hu hn
      · rw [upd_ne fun z => hnD2 (by rw [← z]; exact List.mem_of_getElem? ha)]
        exact hu
      · have e4 : (((l.map fun s => (Sum.inr (toS s) : Key)).zip ws).map fun p => kV p.1) = l.map fun s => V.str (toS s) := by
          have := congrArg (List.map kV) hfst
          rw [List.map_map, List.map_map] at this
          exact this
        rw [e4]
        exact keys_rv
      · rw [hsnd]
        exact r2.up0 x0
  | _ => cases h) (fun _ _ => rfl) (fun _ _ => rfl) (fun _ _ _ => rfl)
where
  keys_rv {K : PySem.W.Frag} {ι : List Addr} {H : Hp} : ∀ {l : List (List Nat)}, Rvs K ι H (l.map fun s => V.str (toS s)) (l.map PV.str)
    | [] => .nil
    | _ :: _ => .cons (.str _) keys_rv
/-- a new dict of the memory -/
theorem s_dm {ks vs : PX} (ik : Snd T c nm ks) (iv : Snd T c nm vs) : Snd T c nm (.dm ks vs) := .ofE (fun k X hy e h => by
  cases e with
  | Dict keys values p =>
    have h' : ((decide (keys.length ≤ 1) && (keys.all Option.isSome && decide (keys.length = values.length))) && (fA T ks k (keys.filterMap id) && fA T vs k values)) = true := h
    simp only [Bool.and_eq_true, decide_eq_true_eq] at h'
    obtain ⟨⟨h1, h2, h3⟩, h4, h5⟩ := h'
    match keys, values, h1, h2, h3, h4, h5 with
    | [], [], _, _, _, h4, h5 =>
      obtain rfl := nil_of h4
      obtain rfl := nil_of h5
      exact PE.both (PE.of (q_dm0 hy.P hy.w) fun σ H Q ⟨ι, ρ, M, Qp, sm, hf, kk⟩ => ⟨ι, ρ, M, Qp, sm, hf.2, kk⟩) (fun _ => rfl)
    | [some ea], [eb], _, _, _, h4, h5 =>
      obtain ⟨a, a', rfl, k1, k2⟩ := cons_of (es := []) h4
      obtain rfl := nil_of k2
      obtain ⟨b, b', rfl, k3, k4⟩ := cons_of h5
      obtain rfl := nil_of k4
      exact PE.both (q_dm1 hy.un hy.P hy.w (ik.ph k X hy _ _ rfl _ k1) (iv.ph k X hy _ _ rfl _ k3)) (fun _ => rfl)
    | [none], _, _, h2, _, _, _ => cases h2
    | _ :: _ :: _, _, h1, _, _, _, _ => simp at h1
    | [], _ :: _, _, _, h3, _, _ => simp at h3
    | [some _], [], _, _, h3, _, _ => simp at h3
    | [some _], _ :: _ :: _, _, _, h3, _, _ => simp at h3
  | _ => cases h) (fun _ _ => rfl) (fun _ _ => rfl) (fun _ _ _ => rfl)
/-! ### arguments, slices' ends, what is walked -/
theorem s_nil : Snd T c nm .nil :=
  ⟨fun k X hy e h => (by cases e <;> cases h), fun k X hy es h => (by cases es with
    | nil => exact q_nil
    | cons _ _ => cases h), fun k X hy eo h => (by cases h), trivial, fun k X hy tg it h => (by cases h)⟩
theorem s_cons {a b : PX} (ia : Snd T c nm a) (ib : Snd T c nm b) : Snd T c nm (.cons a b) :=
  ⟨fun k X hy e h => (by cases e <;> cases h), fun k X hy es h => (by cases es with
    | nil => cases h
    | cons e r =>
      have h' : (fE T a k e && fA T b k r) = true := h
      rw [Bool.and_eq_true] at h'
      exact q_cons (ia.pe k X hy _ h'.1).1 (ib.pa k X hy _ h'.2) (one_star h'.1 _ _)), fun k X hy eo h => (by cases h), ⟨fun k X hy e h => (ia.pe k X hy e h).1, ib.al⟩, fun k X hy tg it h => (by cases h)⟩
theorem s_no : Snd T c nm .no :=
  ⟨fun k X hy e h => (by cases e <;> cases h), fun k X hy es h => (by cases h), fun k X hy eo h => (by cases eo with
    | none => exact qo_none
    | some _ => cases h), trivial, fun k X hy tg it h => (by cases h)⟩
theorem s_itv {a : PX} (ia : Snd T c nm a) : Snd T c nm (.itv a) :=
  ⟨fun k X hy e h => (by cases e <;> cases h), fun k X hy es h => (by cases h), fun k X hy eo h => (by cases eo with
    | none => cases h
    | some e => exact qo_some (ia.pe k X hy _ h).1), trivial, fun k X hy tg it h => ⟨qi_any (ia.pe k X hy it h).1, fun env => set_plain (a := a) h env⟩⟩
theorem s_its {a : PX} (ia : Snd T c nm a) : Snd T c nm (.its a) :=
  ⟨fun k X hy e h => (by cases e <;> cases h), fun k X hy es h => (by cases h), fun k X hy eo h => (by cases h), trivial, fun k X hy tg it h => by
    obtain ⟨elts, kk, tp, x, ap, eo, p, rfl, rfl, h'⟩ : ∃ elts kk tp x ap eo p, tg = .Tuple elts kk tp ∧ it = .Call (.Attribute eo x ap) [] [] p ∧ ((decide (x = ("items" : Str)) && (noSup eo && (ap.endLine == p.line))) && fE T a k eo) = true := by
      have h0 : (match (generalizing := false) tg, it with
        | .Tuple _ _ _, .Call (.Attribute eo x ap) [] [] cp => (decide (x = ("items" : Str)) && (noSup eo && (ap.endLine == cp.line))) && fE T a k eo
        | _, _ => false) = true := h
      split at h0
      · exact ⟨_, _, _, _, _, _, _, rfl, rfl, h0⟩
      · cases h0
    simp only [Bool.and_eq_true, decide_eq_true_eq] at h'
    obtain ⟨⟨rfl, h1, h2⟩, h3⟩ := h'
    exact ⟨qi_dict (ia.pe k X hy _ h3).1 (base_ok h1) h2, fun _ _ => rfl⟩⟩
theorem s_enum {a : PX} (ia : Snd T c nm a) : Snd T c nm (.enum a) :=
  ⟨fun k X hy e h => (by cases e <;> cases h), fun k X hy es h => (by cases h), fun k X hy eo h => (by cases h), trivial, fun k X hy tg it h => by
    obtain ⟨elts, kk, tp, x, q, ea, p, rfl, rfl, h'⟩ : ∃ elts kk tp x q ea p, tg = .Tuple elts kk tp ∧ it = .Call (.Name x q) [ea] [] p ∧ ((gl k x && decide (x = ("enumerate" : Str))) && fE T a k ea) = true := by
      have h0 : (match (generalizing := false) tg, it with
        | .Tuple _ _ _, .Call (.Name x _) [ea] [] _ => (gl k x && decide (x = ("enumerate" : Str))) && fE T a k ea
        | _, _ => false) = true := h
      split at h0
      · exact ⟨_, _, _, _, _, _, _, rfl, rfl, h0⟩
      · cases h0
    simp only [Bool.and_eq_true, decide_eq_true_eq] at h'
    obtain ⟨⟨h1, rfl⟩, h2⟩ := h'
    exact ⟨qi_enum (gl_ok hy h1).1 (bl_ok hy (by decide +kernel)) (ia.pe k X hy _ h2).1 (one_star h2 _ _), fun _ _ => rfl⟩⟩
theorem s_zip2 {a b : PX} (ia : Snd T c nm a) (ib : Snd T c nm b) : Snd T c nm (.zip2 a b) :=
  ⟨fun k X hy e h => (by cases e <;> cases h), fun k X hy es h => (by cases h), fun k X hy eo h => (by cases h), trivial, fun k X hy tg it h => by
    obtain ⟨elts, kk, tp, x, q, ea, eb, p, rfl, rfl, h'⟩ : ∃ elts kk tp x q ea eb p, tg = .Tuple elts kk tp ∧ it = .Call (.Name x q) [ea, eb] [] p ∧ ((gl k x && decide (x = ("zip" : Str))) && (fE T a k ea && fE T b k eb)) = true := by
      have h0 : (match (generalizing := false) tg, it with
        | .Tuple _ _ _, .Call (.Name x _) [ea, eb] [] _ => (gl k x && decide (x = ("zip" : Str))) && (fE T a k ea && fE T b k eb)
        | _, _ => false) = true := h
      split at h0
      · exact ⟨_, _, _, _, _, _, _, _, rfl, rfl, h0⟩
      · cases h0
    simp only [Bool.and_eq_true, decide_eq_true_eq] at h'
    obtain ⟨⟨h1, rfl⟩, h2, h3⟩ := h'
    exact ⟨qi_zip (gl_ok hy h1).1 (bl_ok hy (by decide +kernel)) (ia.pe k X hy _ h2).1 (ib.pe k X hy _ h3).1 (one_star h2 _ _) (one_star h3 _ _), fun _ _ => rfl⟩⟩
theorem s_rng1 {a : PX} (ia : Snd T c nm a) : Snd T c nm (.rng1 a) :=
  ⟨fun k X hy e h => (by cases e <;> cases h), fun k X hy es h => (by cases h), fun k X hy eo h => (by cases h), trivial, fun k X hy tg it h => by
    obtain ⟨x, q, ea, p, rfl, h'⟩ : ∃ x q ea p, it = .Call (.Name x q) [ea] [] p ∧ ((gl k x && decide (x = ("range" : Str))) && fE T a k ea) = true := by
      have h0 : (match (generalizing := false) it with
        | .Call (.Name x _) [ea] [] _ => (gl k x && decide (x = ("range" : Str))) && fE T a k ea
        | _ => false) = true := h
      split at h0
      · exact ⟨_, _, _, _, rfl, h0⟩
      · cases h0
    simp only [Bool.and_eq_true, decide_eq_true_eq] at h'
    obtain ⟨⟨h1, rfl⟩, h2⟩ := h'
    exact ⟨qi_rng1 (gl_ok hy h1).1 (bl_ok hy (by decide +kernel)) (ia.pe k X hy _ h2).1 (one_star h2 _ _), fun _ _ => rfl⟩⟩
theorem s_rng2 {a b : PX} (ia : Snd T c nm a) (ib : Snd T c nm b) : Snd T c nm (.rng2 a b) :=
  ⟨fun k X hy e h => (by cases e <;> cases h), fun k X hy es h => (by cases h), fun k X hy eo h => (by cases h), trivial, fun k X hy tg it h => by
    obtain ⟨x, q, ea, eb, p, rfl, h'⟩ : ∃ x q ea eb p, it = .Call (.Name x q) [ea, eb] [] p ∧ ((gl k x && decide (x = ("range" : Str))) && (fE T a k ea && fE T b k eb)) = true := by
      have h0 : (match (generalizing := false) it with
        | .Call (.Name x _) [ea, eb] [] _ => (gl k x && decide (x = ("range" : Str))) && (fE T a k ea && fE T b k eb)
        | _ => false) = true := h
      split at h0
      · exact ⟨_, _, _, _, _, rfl, h0⟩
      · cases h0
    simp only [Bool.and_eq_true, decide_eq_true_eq] at h'
    obtain ⟨⟨h1, rfl⟩, h2, h3⟩ := h'
    have e2 : starEach [eb] X.env = [(false, eval eb X.env)] := one_star h3 _ _
    exact ⟨qi_rng2 (gl_ok hy h1).1 (bl_ok hy (by decide +kernel)) (ia.pe k X hy _ h2).1 (ib.pe k X hy _ h3).1 (by rw [one_star h2, e2]) e2, fun _ _ => rfl⟩⟩
/-! ### list comprehensions -/
theorem fTs_ok (hy : Hy T c nm k X) : ∀ {is : List Nat} {es : List Expr}, fTs k is es = true → PGs X es (gts is) ∧ (assignEach es X.env).length = is.length ∧ (assignEach es X.env).findIdx? (·.1) = none
  | [], [], _ => ⟨pgs_nil, rfl, rfl⟩
  | [], _ :: _, h => by cases h
  | _ :: _, [], h => by cases h
  | i :: is, e :: es, h => by
    cases e with
    | Name x p =>
      have h' : (sto k i x && fTs k is es) = true := h
      rw [Bool.and_eq_true] at h'
      obtain ⟨g1, g2, g3⟩ := sto_ok hy h'.1
      obtain ⟨h1, h2, h3⟩ := fTs_ok hy h'.2
      refine ⟨pgs_cons (pg_name (nodup_ok hy) g1 g2 g3) h1, ?_, ?_⟩
      · show (assignEach es X.env).length + 1 = _
        rw [h2]
        rfl
      · show ((false, assign (.Name x p) X.env) :: assignEach es X.env).findIdx? (·.1) = none
        rw [List.findIdx?_cons, h3]
        rfl
    | _ => cases h
theorem fTNs_ok (hy : Hy T c nm k X) : ∀ {is : List TN} {es : List Expr}, fTNs k is es = true → PGs X es (gns X.K is) ∧ (assignEach es X.env).length = is.length ∧ (assignEach es X.env).findIdx? (·.1) = none
  | [], [], _ => ⟨pgs_nil, rfl, rfl⟩
  | [], _ :: _, h => by cases h
  | .v _ :: _, [], h => by cases h
  | .t _ :: _, [], h => by cases h
  | .v i :: is, e :: es, h => by
    cases e with
    | Name x p =>
      have h' : (sto k i x && fTNs k is es) = true := h
      rw [Bool.and_eq_true] at h'
      obtain ⟨g1, g2, g3⟩ := sto_ok hy h'.1
      obtain ⟨h1, h2, h3⟩ := fTNs_ok hy h'.2
      refine ⟨pgs_cons (pg_name (nodup_ok hy) g1 g2 g3) h1, ?_, ?_⟩
      · show (assignEach es X.env).length + 1 = _
        rw [h2]
        rfl
      · show ((false, assign (.Name x p) X.env) :: assignEach es X.env).findIdx? (·.1) = none
        rw [List.findIdx?_cons, h3]
        rfl
    | _ => cases h
  | .t js :: is, e :: es, h => by
    cases e with
    | Tuple us n p =>
      have h' : (fTs k js us && fTNs k is es) = true := h
      rw [Bool.and_eq_true] at h'
      obtain ⟨g1, g2, g3⟩ := fTs_ok hy h'.1
      obtain ⟨h1, h2, h3⟩ := fTNs_ok hy h'.2
      refine ⟨pgs_cons (pg_tup hy.calm g1 g2 g3) h1, ?_, ?_⟩
      · show (assignEach es X.env).length + 1 = _
        rw [h2]
        rfl
      · show ((false, assign (.Tuple us n p) X.env) :: assignEach es X.env).findIdx? (·.1) = none
        rw [List.findIdx?_cons, h3]
        rfl
    | _ => cases h
theorem fT_ok (hy : Hy T c nm k X) {t : List Nat} {s : Bool} {tg : Expr} (h : fT k t s tg = true) : PG X tg (tG nm X.K t s) := by
  cases s with
  | true =>
    match t, tg, h with
    | [i], .Name x p, h =>
      obtain ⟨g1, g2, g3⟩ := sto_ok hy h
      exact qg_name (pg_name (nodup_ok hy) g1 g2 g3)
    | [], tg, h => cases tg <;> cases h
    | _ :: _ :: _, tg, h => cases tg <;> cases h
  | false =>
    cases tg with
    | Tuple es n p =>
      have h' : fTs k t es = true := by
        match t, h with
        | [], h => exact h
        | [_], h => exact h
        | _ :: _ :: _, h => exact h
      obtain ⟨h1, h2, h3⟩ := fTs_ok hy h'
      exact qg_tup (pg_tup hy.calm h1 h2 h3)
    | _ => match t, h with
      | [], h => cases h
      | [_], h => cases h
      | _ :: _ :: _, h => cases h
structure LcP (c : CE) (nm : Nm) (t : List Nat) (s : Bool) (it cd el : PX) (X : Cx) (elt tg iter : Expr) (ifs : List Expr) (scope : Scope) (own : List (Str × Nat)) (tt : TT) : Prop where
  hi : PI X tg iter (tI nm X.K (IW c it))
  hs : ∀ x, foldedSetIterable iter X.env x = pure x
  ok : BlkOk X.N X.env.scope scope own
  hg : ∀ (s' : Shared) (H : Hp) (C : Addr) (cl : List (Str × Addr)) (fp : List Addr), PG (X.blk s' H scope (compEnvC scope cl C X.env) fp) tg (tG nm X.K t s)
  ht : ∀ (s : Shared) (H : Hp) (C : Addr) (cl : List (Str × Addr)) (fp : List Addr), PTs (X.blk s H scope (compEnvC scope cl C X.env) fp) ifs tt
  he : ∀ (s : Shared) (H : Hp) (C : Addr) (cl : List (Str × Addr)) (fp : List Addr), PE (X.blk s H scope (compEnvC scope cl C X.env) fp) elt (tE nm X.K (EW c el))
  vs : own.map (·.2) = t
  htt : ∀ σ H Q, tT nm X.K (EW c cd) σ H Q → tt σ H Q
theorem isYes_eq {a : PX} (h : isYes a = true) : a = .k (.bl true) := by
  cases a with
  | k v =>
    cases v with
    | bl b => cases b <;> first | rfl | cases h
    | _ => cases h
  | _ => cases h
theorem lc_parts {t : List Nat} {s : Bool} {it cd el : PX} (ii : Snd T c nm it) (ic : Snd T c nm cd) (ie : Snd T c nm el) (hy : Hy T c nm k X) {elt : Expr} {gs : List Comprehension} {scope : Scope} {p : Pos}
    (h : fE T (.lc t s it cd el) k (.ListComp elt gs scope p) = true) : ∃ tg iter ifs own tt, gs = [⟨tg, iter, ifs, 0⟩] ∧ LcP c nm t s it cd el X elt tg iter ifs scope own tt := by
  match gs, h with
  | [⟨tg, iter, ifs, a⟩], h =>
    have h' : ((decide (a = 0) && (blkC k.N k.sc scope ((tgNames tg).zip t) && (decide ((tgNames tg).length = t.length) && fT (kBlk k scope) t s tg))) && ((fI T it k tg iter && fE T el (kBlk k scope) elt) && (match (generalizing := false) ifs with
      | [] => isYes cd
      | [ec] => fE T cd (kBlk k scope) ec
      | _ => false))) = true := h
    simp only [Bool.and_eq_true, decide_eq_true_eq] at h'
    obtain ⟨⟨rfl, h2, h3, h4⟩, ⟨h5, h6⟩, h7⟩ := h'
    have ok := blkOk_by h2
    obtain ⟨i1, i2⟩ := ii.pi k X hy tg iter h5
    have ok' : BlkOk X.N X.env.scope scope ((tgNames tg).zip t) := by rw [hy.N, hy.sc]; exact ok
    have hyb := fun s' H C cl fp => hy.blk ok.kind s' H C cl fp
    have vs : ((tgNames tg).zip t).map (·.2) = t := by
      rw [List.map_snd_zip]
      omega
    match ifs, h7 with
    | [], h7 =>
      have e := isYes_eq h7
      subst e
      refine ⟨tg, iter, [], _, tYes, rfl, i1, i2 _, ok', fun s' H C cl fp => fT_ok (hyb s' H C cl fp) h4, fun _ _ _ _ _ => pts_nil, fun s' H C cl fp => (ie.pe _ _ (hyb s' H C cl fp) elt h6).1, vs, ?_⟩
      intro σ H Q ⟨ι, ρ, M, Qp, sm, hf, kk⟩
      obtain ⟨b, h1, h2⟩ := kk _ _ hf
      cases h1
      exact h2 ι H .refl sm.m
    | [ec], h7 =>
      exact ⟨tg, iter, [ec], _, _, rfl, i1, i2 _, ok', fun s' H C cl fp => fT_ok (hyb s' H C cl fp) h4, fun s' H C cl fp => pts_one (ic.pe _ _ (hyb s' H C cl fp) ec h7).2, fun s' H C cl fp => (ie.pe _ _ (hyb s' H C cl fp) elt h6).1, vs, fun _ _ _ z => z⟩
    | _ :: _ :: _, h7 => cases h7
  | [], h => cases h
  | ⟨_, _, _, _⟩ :: _ :: _, h => cases h
theorem s_lc (t : List Nat) (s : Bool) {it cd el : PX} (ii : Snd T c nm it) (ic : Snd T c nm cd) (ie : Snd T c nm el) : Snd T c nm (.lc t s it cd el) := .ofE (fun k X hy e h => by
  cases e with
  | ListComp elt gs scope p =>
    obtain ⟨tg, iter, ifs, own, tt, rfl, L⟩ := lc_parts ii ic ie hy h
    exact PE.both (PE.of (PE.lock (pe_lc hy.calm (nodup_ok hy) L.hi L.ok L.hg L.ht L.he L.hs)) fun σ H Q hq => lc_of L.vs L.htt hq fun _ _ z => z) (fun _ => rfl)
  | _ => cases h) (fun _ _ => rfl) (fun _ _ => rfl) (fun _ _ _ => rfl)
theorem snd (T : Tb) (c : CE) (nm : Nm) (a : PX) : Snd T c nm a := by
  induction a with
  | k v => exact s_k v
  | v i => exact s_v i
  | gl g v => exact s_gl g v
  | bin o a b ia ib => exact s_bin o ia ib
  | neg a ia => exact s_neg ia
  | not a ia => exact s_not ia
  | and a b ia ib => exact s_and ia ib
  | or a b ia ib => exact s_or ia ib
  | cmp o a b ia ib => exact s_cmp o ia ib
  | chn o p a b d ia ib id => exact s_chn o p ia ib id
  | ite t a b it ia ib => exact s_ite it ia ib
  | call f as ia => exact s_call f ia
  | mk d f as ia => exact s_mk d f ia
  | meth ms m o as io ia => exact s_meth ms m io ia
  | mets ms m o as io ia => exact s_mets ms m io ia
  | bi b as ia => exact s_bi b ia
  | bm b o as io ia => exact s_bm b io ia
  | fld o f io => exact s_fld f io
  | ix a i ia ii => exact s_ix ia ii
  | sl a lo hi ia il ih => exact s_sl ia il ih
  | no => exact s_no
  | ls es ia => exact s_ls ia
  | lm es ia => exact s_lm ia
  | rp es n ia => exact s_rp n ia
  | sset a ia => exact s_sset ia
  | tp es ia => exact s_tp ia
  | ds ks vs _ iv => exact s_ds iv
  | dm ks vs ik iv => exact s_dm ik iv
  | lc t s it cd el ii ic ie => exact s_lc t s ii ic ie
  | itv a ia => exact s_itv ia
  | its a ia => exact s_its ia
  | enum a ia => exact s_enum ia
  | zip2 a b ia ib => exact s_zip2 ia ib
  | rng1 a ia => exact s_rng1 ia
  | rng2 a b ia ib => exact s_rng2 ia ib
  | nil => exact s_nil
  | cons a b ia ib => exact s_cons ia ib
end
end Qt
/-! ### a local whose object is known: stored, kept by tests and calls -/
namespace Qt
open PySem PySem.Spec PyProof.Rows L2
section
variable {X : Cx} {pins : List (Addr × Obj)} {σ : L2.St} {H : Hp} {s : Shared}
theorem store_raw {A : Around} {E : Value → Shared → Prop} {i : Nat} {x : Str} {v : V} {u : Value} {Q : Unit → Shared → Prop} (I : L2.Inv X pins σ H s) (nd : X.N.Nodup) (hi : X.N[i]? = some x) (hk : X.env.scope.names.lookup x = some .local) (r : RelV v u)
    (fin : ∀ g, L2.Inv X pins (σ.set i (some v)) H { s with heap := g, toks := s.toks + 1 } → (∃ m, g.Ns X.env.locals m ∧ m x = some u) → Q () { s with heap := g, toks := s.toks + 1 }) : wpAny (model X.prog X.w) A (storeName X.env x u) Q E s := by
  obtain ⟨m, hn, hl⟩ := id I.loc
  have off := I.cne
  have hiσ : i < σ.length := by rw [I.len]; exact (List.getElem?_eq_some_iff.mp hi).1
  refine wpAny_storeName_local hk hn (fun g ng sb => ?_) (by rw [I.ok.kind]; rfl)
  obtain ⟨oL, _, _, hoL, _⟩ := id hn
  refine fin g ⟨I.ok, I.os, I.bare, ⟨fun b o e n h1 h2 => ?_, fun b o e n h1 h2 => ?_, I.base.free, fun b o e h2 => ?_, I.base.tups, I.base.frzs, I.base.tbls⟩, ⟨_, ng, fun j y w' e1 e2 e3 => ?_⟩, fun y c e => ?_, I.free, I.freeC, fun p hp => ?_, fun b ob e => ?_, by simpa using I.len⟩ ⟨_, ng, by simp⟩
  · have ne := Nat.ne_of_lt (Nat.lt_of_lt_of_le (Heap.lt_size e) I.ok.above)
    exact (sb.2 b ne).trans (I.base.keep b o e n h1 h2)
  · have ne := Nat.ne_of_lt (Nat.lt_of_lt_of_le (Heap.lt_size e) I.ok.above)
    obtain ⟨sl, e1⟩ := I.base.slot b o e n h1 h2
    exact ⟨sl, (sb.2 b ne).trans e1⟩
  · have ne := Nat.ne_of_lt (Nat.lt_of_lt_of_le (Heap.lt_size e) I.ok.above)
    obtain ⟨o', e1⟩ := I.base.there b o e h2
    exact ⟨o', (sb.2 b ne).trans e1⟩
  · by_cases hj : j = i
    · subst hj
      rw [hi] at e1
      cases e1
      rw [List.getElem?_set_self hiσ] at e2
      cases e2
      exact ⟨u, r, .inl ⟨hk, by simp⟩⟩
    · rw [List.getElem?_set_ne (Ne.symm hj)] at e2
      obtain ⟨u', r', q⟩ := hl j y w' e1 e2 e3
      refine ⟨u', r', q.elim (fun ⟨k, e⟩ => .inl ⟨k, ?_⟩) fun ⟨k, c, e, z⟩ => .inr ⟨k, c, e, z.sameBut sb (off y c e)⟩⟩
      have ny : y ≠ x := fun e => hj (nodup_ix nd e1 (e ▸ hi))
      simp [ny, e]
  · obtain ⟨w', z⟩ := I.cell y c e
    exact ⟨w', z.sameBut sb (off y c e)⟩
  · obtain ⟨e, n, ne, nf, d⟩ := I.pin p hp
    exact ⟨(sb.2 p.1 ne).trans e, n, ne, nf, d⟩
  · refine (I.hok b ob e).stay (fun c w' hc q => (sb.2 c ?_).trans q) (fun _ q => q) fun _ _ q => q
    rintro rfl
    rcases hc with rfl | hc
    · rw [I.free] at e; cases e
    · rw [I.free] at hc; cases hc
/-- the local x of this frame is u itself; its number is between -/
structure Kn (X : Cx) (x : Str) (z : Str) (t : Tok) (s : Shared) : Prop where
  ns : ∃ m, s.heap.Ns X.env.locals m ∧ m x = some (.str z t)
  nz : t ≠ 0
  lt : t < s.toks
theorem Kn.tok {x z : Str} {t : Tok} (k : Kn X x z t s) {n : Nat} (h : s.toks ≤ n) : Kn X x z t { s with toks := n } := ⟨k.ns, k.nz, Nat.lt_of_lt_of_le k.lt h⟩
/-- behind a call -/
theorem Kn.call {x z : Str} {t : Tok} {s' : Shared} {P : Program} {w : World} {Q : VK} {u : Value} (k : Kn X x z t s) (I : L2.Inv X pins σ H s) (hf : X.env.locals ∈ frs X.stack) (c : L2.CE X.stack P w H s Q u s') (ht : s.toks ≤ s'.toks) : Kn X x z t s' := by
  obtain ⟨v, H', _, _, un, _⟩ := c
  obtain ⟨m, hn, hm⟩ := k.ns
  refine ⟨⟨m, ?_, hm⟩, k.nz, Nat.lt_of_lt_of_le k.lt ht⟩
  obtain ⟨o, a, b, ho, r⟩ := id hn
  obtain ⟨sl, e⟩ := un.slot _ _ ho I.free hf (by simp)
  exact ⟨_, a, b, e, r⟩
/-- .. is read -/
theorem Kn.read {x z : Str} {t : Tok} {pos : Pos} {A : Around} {Q E : Value → Shared → Prop} (k : Kn X x z t s) (hkd : X.env.scope.kind = .function) (hk : X.env.scope.names.lookup x = some .local) (hd : (x == ("__debug__" : Str)) = false) (q : Q (.str z t) s) :
    wpAny (model X.prog X.w) A (eval (.Name x pos) X.env) Q E s := by
  obtain ⟨m, hn, hm⟩ := k.ns
  exact wpAny_Name (wpAny_loadName_local hkd hk hn hm q) hd
/-! ### the tests -/
theorem tst_eqc {i : Nat} {x y a : Str} {n : Nat} {p1 p2 p3 : Pos} {E : Value → Shared → Prop} {G : Bool → Shared → Prop} {whole : Sem Value} (I : L2.Inv X pins σ H s) (hN : X.N[i]? = some x) (hv : Vis X.env.scope x) (hσ : σ[i]? = some (some (.str a))) (hd : (x == ("__debug__" : Str)) = false) (hcd : (x == ("__classdict__" : Str)) = false)
    (q : G (a == y) { s with toks := s.toks + 1 }) : wpAny (model X.prog X.w) X.A (isTrue (.Compare (.Name x p1) [.Eq] [.Constant (.str y) n p2] p3) X.env whole) G E s := by
  refine wpAny_isTrue_Compare1 (raw_name hN hv I hσ (fun u r => ?_) hd hcd) rfl
  obtain ⟨t, rfl⟩ := r
  exact Calls.Constant_str (PyProof.Rows.eq_str (wpAny_truthy_bool q))
theorem tst_inc {i : Nat} {x y b : Str} {c : Nat} {tk : Tok} {p1 p2 p3 : Pos} {E : Value → Shared → Prop} {G : Bool → Shared → Prop} {whole : Sem Value} (I : L2.Inv X pins σ H s) (hN : X.N[i]? = some x) (hv : Vis X.env.scope x) (hσ : σ[i]? = some (some (.str (toS [c])))) (hd : (x == ("__debug__" : Str)) = false) (hcd : (x == ("__classdict__" : Str)) = false)
    (hg : Gl X y) (hm : X.mg y = some (.str b tk)) (hdy : (y == ("__debug__" : Str)) = false)
    (q : G (!(Builtin.Str.occurrences b (toS [c]) 0 b.length 1).isEmpty) s) : wpAny (model X.prog X.w) X.A (isTrue (.Compare (.Name x p1) [.In] [.Name y p2] p3) X.env whole) G E s := by
  refine wpAny_isTrue_Compare1 (raw_name hN hv I hσ (fun u r => ?_) hd hcd) rfl
  obtain ⟨t, rfl⟩ := r
  exact ld_glob I hg hm (PyProof.Rows.in_str (wpAny_truthy_bool q)) hdy
theorem tst_ix0 {i : Nat} {x y : Str} {a : Addr} {kd : Str} {vs : List V} {n m : Nat} {p1 p2 p3 p4 p5 : Pos} {E : Value → Shared → Prop} {G : Bool → Shared → Prop} {whole : Sem Value} (I : L2.Inv X pins σ H s) (hN : X.N[i]? = some x) (hv : Vis X.env.scope x) (hσ : σ[i]? = some (some (.ref a))) (hd : (x == ("__debug__" : Str)) = false) (hcd : (x == ("__classdict__" : Str)) = false)
    (ht : SqT X.K H a (.str kd :: vs)) (q : ∀ k, s.toks ≤ k → G (kd == y) { s with toks := k }) : wpAny (model X.prog X.w) X.A (isTrue (.Compare (.Subscript (.Name x p1) (.Constant (.int 0) n p2) p3) [.Eq] [.Constant (.str y) m p4] p5) X.env whole) G E s := by
  refine wpAny_isTrue_Compare1 ?_ rfl
  refine Subscript_ (raw_name hN hv I hσ (fun u r => ?_) hd hcd)
  obtain rfl : u = Value.ref a := r
  refine wpAny_Constant_int ?_
  obtain ⟨its, r, pl, hz⟩ := (I.tok (s.toks + 1)).tuple ht
  cases r with | @cons _ w _ ws r1 r2 =>
  obtain ⟨tw, rfl⟩ := r1
  have hn := line63
  have hz' : (V.str kd :: vs).length = (Value.str kd tw :: ws).length := by simp [r2.length]
  refine subscriptTail_builtinR (x := Value.str kd tw) pl.typeIs slot_tuple_getitem.lookup (getItem_tuple (j := 0) (Q := fun r s' => r = Value.str kd tw ∧ _) pl (by omega) (by omega) ?_ (by simp) ⟨rfl, ?_⟩) rfl
  · refine (ixN_seq (n := (Value.str kd tw :: ws).toArray.size) (i := 0) (j := 0) ?_).1
    simp [ixN]
  · exact Calls.Constant_str (PyProof.Rows.eq_str (wpAny_truthy_bool (q _ (by show s.toks ≤ s.toks + 1 + 1; omega))))
/-! ### state_behind's part for printed quotes -/
variable {T : Tb} {c : CE} {nm : Nm} {k : Kc}
theorem sbW_case {f : Nat} {ρ : Rho} {M : Mem} {D : En} (h : sbW c f ρ M D) : ∃ mn st ah sg bh x5, ρ = [some mn, some (.str st), some ah, some (.str [sg]), some bh, x5] ∧ Qd sg ∧ st.length ≤ 1000 ∧ (match decide (sg = 125) with
    | true => c f [mn, ah, bh] M (fun b M1 => match b with
      | .bl true => D.rt (.str st) M1
      | .bl false => sbFin mn st sg D M1
      | _ => False) X0
    | false => sbFin mn st sg D M) := by
  unfold sbW at h
  split at h
  · rename_i mn st ah sg bh x5
    exact ⟨mn, st, ah, sg, bh, x5, rfl, h.1.1, h.1.2, h.2⟩
  · exact h.elim
/-- what the names are -/
structure SbX (k : Kc) (X : Cx) : Prop where
  N : X.N = sbN
  lo : ∀ x ∈ sbN, X.env.scope.names.lookup x = some .local
theorem SbX.vis (h : SbX k X) {x : Str} (hx : x ∈ sbN) : Vis X.env.scope x := .inl (h.lo x hx)
/-- back with a value -/
theorem ret_run {e : Expr} {a : PX} {p : Pos} {D : Ends} {Dp : En} {ι : List Addr} {M : Mem} {ρ : Rho} (hy : Hy T c nm k X) (h : fE T a k e = true) (I : L2.Inv X pins σ H s) (sm : Sim nm X.K ι H M σ ρ) (kk : KpM nm X.K ι H Dp.rt D.rt) (hw : wE c a ρ M Dp.rt X0) {Q : Flow → Shared → Prop} (hQ : ∀ u s', SP X pins D (.ret u) s' → Q (.ret u) s') :
    wpAny (model X.prog X.w) X.A (execs [.Return (some e) p] X.env) Q X.xe s := by
  refine wpAny_execs_cons (wpAny_Return_some (thn (((snd T c nm a).pe k X hy e h).1.run pins s σ H D.rt I ⟨ι, ρ, M, _, sm, hw, kk⟩) fun u s1 ⟨v, H1, I1, r, q⟩ => ?_))
  exact hQ u s1 ⟨v, σ, H1, I1, r, q⟩
theorem mem_list (s : Nat) (t : List Nat) : decide (s ∈ (toS t).cps.toList) = decide (s ∈ t) := rfl
theorem toS_beq (a b : List Nat) : (toS a == toS b) = decide (a = b) := by
  by_cases h : a = b
  · subst h; simp
  · rw [decide_eq_false h]
    exact beq_eq_false_iff_ne.mpr fun z => h (toS_inj z)
theorem rep_strike (st : List Nat) (q : Nat) : Txt.replace (toS st) (toS [q]) (toS []) = toS (st.filter (· != q)) := by
  have e := PyProof.Rows.replace_strikes (toS st) q
  rw [← toS_of (Txt.replace (toS st) (toS [q]) (toS []))]
  exact congrArg toS e
theorem find_take {q : Nat} : ∀ {st : List Nat}, q ∈ st → ∃ j, firstS q st = some j ∧ st.take j = st.takeWhile (· != q) ∧ j < st.length
  | [], h => by cases h
  | x :: st, h => by
    unfold firstS
    by_cases hx : (x == q) = true
    · rw [if_pos hx]
      exact ⟨0, rfl, by simp [List.takeWhile_cons, show x = q by simpa using hx], Nat.succ_pos _⟩
    · rw [if_neg hx]
      have hne : x ≠ q := by simpa using hx
      obtain ⟨j, h1, h2, h3⟩ := find_take (List.mem_of_ne_of_mem (Ne.symm hne) h)
      rw [h1]
      refine ⟨j + 1, rfl, ?_, Nat.succ_lt_succ h3⟩
      rw [List.take_succ_cons, h2, List.takeWhile_cons]
      simp [hne]
/-- the last return -/
theorem sbR_ok {mn ah bh : PV} {st : List Nat} {sg : Nat} {M : Mem} {Q : Kt} (hl : st.length ≤ 1000) (q : Q (.str (if srt sg ∈ st then st.takeWhile (· != srt sg) else st)) M) : wE c sbR [some mn, some (.str st), some ah, some (.str [sg]), some bh, some (.str [srt sg])] M Q X0 := by
  show (match truthy M (.bl (decide (srt sg ∈ st))) with
    | some true => wE c (.sl (.v 1) .no (.itv (.bm .index (.v 1) (.cons (.v 5) .nil)))) [some mn, some (.str st), some ah, some (.str [sg]), some bh, some (.str [srt sg])] M Q X0
    | some false => Q (.str st) M
    | none => False)
  by_cases h : srt sg ∈ st
  · rw [decide_eq_true h]
    rw [if_pos h] at q
    obtain ⟨j, h1, h2, h3⟩ := find_take h
    show (match firstS (srt sg) st with
      | some k => st.length ≤ LL ∧ Q (.str (cutL st none (some k))) M
      | none => False)
    rw [h1]
    refine ⟨Nat.le_trans hl (by decide), ?_⟩
    have e : cutL st none (some (j : Int)) = st.takeWhile (· != srt sg) := by
      unfold cutL
      show (st.drop (cutE st.length 0 none)).take (cutE st.length st.length (some (j : Int)) - cutE st.length 0 none) = _
      have e1 : cutE st.length 0 none = 0 := rfl
      have e2 : cutE st.length st.length (some (j : Int)) = j := by
        show (if (j : Int) < 0 then ((j : Int) + st.length).toNat else min (j : Int).toNat st.length) = j
        rw [if_neg (by omega)]
        simp
        omega
      rw [e1, e2, List.drop_zero, Nat.sub_zero, h2]
    rw [e]
    exact q
  · rw [decide_eq_false h]
    rw [if_neg h] at q
    exact q
theorem sbC_ok {mn ah bh : PV} {st : List Nat} {sg : Nat} {M : Mem} {Q : Kt} (hl : st.length ≤ 1000) (q : Q (.str (if srt sg ∈ st then st else st ++ [srt sg])) M) : wE c sbC [some mn, some (.str st), some ah, some (.str [sg]), some bh, some (.str [srt sg])] M Q X0 := by
  show (match truthy M (.bl (decide (srt sg ∈ st))) with
    | some true => Q (.str st) M
    | some false => st.length + [srt sg].length ≤ LL ∧ Q (.str (st ++ [srt sg])) M
    | none => False)
  by_cases h : srt sg ∈ st
  · rw [decide_eq_true h]
    rw [if_pos h] at q
    exact q
  · rw [decide_eq_false h]
    rw [if_neg h] at q
    exact ⟨Nat.le_trans (Nat.succ_le_succ hl) (by decide : 1001 ≤ LL), q⟩
/-- behind the test for an apostrophe -/
theorem fin_sb {mn ah bh : PV} {st : List Nat} {sg : Nat} {t : Tok} {ι : List Addr} {M : Mem} {Dp : En} {D : Ends} {p1 p2 p3 p4 p5 p6 p7 p8 p9 p10 p11 p12 p13 p14 p15 p16 ap cp : Pos} {n1 n2 n3 : Nat} {c2 : Str} {tk : Tok} {c3 e1 : Expr} (hy : Hy T c nm k X) (sx : SbX k X)
    (g2 : Gl X c2) (g2d : (c2 == ("__debug__" : Str)) = false) (m2 : X.mg c2 = some (.str (toS [60, 123]) tk)) (h3 : fE T sbC k c3 = true) (h6 : fE T sbR k e1 = true) (hap : (ap.endLine == cp.line) = true) (hl : st.length ≤ 1000)
    (I : L2.Inv X pins σ H s) (K : Kn X "sort" (toS [srt sg]) t s) (sm : Sim nm X.K ι H M σ [some mn, some (.str st), some ah, some (.str [sg]), some bh, some (.str [srt sg])]) (kk : KpM nm X.K ι H Dp.rt D.rt) (hf : sbFin mn st sg Dp M) :
    wpAny (model X.prog X.w) X.A (execs [.If (.Compare (.Name "sign" p1) [.In] [.Name c2 p2] p3) [.Return (some c3) p4] [] p5,
      .If (.Compare (.Subscript (.Name "manner" p6) (.Constant (.int 0) n1 p7) p8) [.Eq] [.Constant (.str (toS [116, 117, 114, 110, 115])) n2 p9] p10) [.Return (some (.Call (.Attribute (.Name "state" p11) "replace" ap) [.Name "sort" p12, .Constant (.str (toS [])) n3 p13] [] cp)) p14] [] p15,
      .Return (some e1) p16] X.env) (SP X pins D) X.xe s := by
  have hN : ∀ (i : Nat) x, sbN[i]? = some x → X.N[i]? = some x := fun i x e => by rw [sx.N]; exact e
  obtain ⟨v0, s0, r0⟩ := sm.r 0 mn rfl
  obtain ⟨v1, s1, r1⟩ := sm.r 1 (.str st) rfl
  obtain ⟨v3, s3, r3⟩ := sm.r 3 (.str [sg]) rfl
  cases r1
  cases r3
  have back : ∀ u s', SP X pins D (.ret u) s' → SP X pins D (.ret u) s' := fun _ _ z => z
  refine wpAny_execs_cons (wpAny_If (tst_inc I (hN 3 _ rfl) (sx.vis (by decide +kernel)) s3 (by decide +kernel) (by decide +kernel) g2 m2 g2d ?_))
  have eo : (!(Builtin.Str.occurrences (toS [60, 123]) (toS [sg]) 0 (toS [60, 123]).length 1).isEmpty) = decide (sg ∈ [60, 123]) := PySem.StrLaws.found_one (toS [60, 123]) sg
  rw [eo]
  unfold sbFin at hf
  by_cases ho : sg = 60 ∨ sg = 123
  · rw [decide_eq_true ho] at hf
    rw [decide_eq_true (by rcases ho with z | z <;> simp [z])]
    exact ret_run hy h3 I sm kk (sbC_ok hl hf) back
  · rw [decide_eq_false ho] at hf
    rw [decide_eq_false (by simp only [List.mem_cons, List.not_mem_nil, or_false]; exact ho)]
    refine wpAny_execs_nil ?_
    match mn, hf, r0, sm with
    | .tup (.str kd :: rest), hf, r0, sm =>
      cases r0 with | @tup a xs _ hq rx =>
      cases rx with | @cons w ws _ _ rk rr =>
      cases rk
      have hf' : (match decide (kd = [116, 117, 114, 110, 115]) with
        | true => Dp.rt (.str (st.filter (· != srt sg))) M
        | false => Dp.rt (.str (if srt sg ∈ st then st.takeWhile (· != srt sg) else st)) M) := hf
      refine wpAny_execs_cons (wpAny_If (tst_ix0 I (hN 0 _ rfl) (sx.vis (by decide +kernel)) s0 (by decide +kernel) (by decide +kernel) hq fun n hn => ?_))
      rw [toS_beq]
      have I2 := I.tok n
      have K2 := K.tok hn
      cases hk : decide (kd = [116, 117, 114, 110, 115]) with
      | true =>
        rw [hk] at hf'
        refine wpAny_execs_cons (wpAny_Return_some (PySem.Call_method2 (base_ok rfl) rfl hap (raw_name (hN 1 _ rfl) (sx.vis (by decide +kernel)) I2 s1 (fun u r => ?_) (by decide +kernel) (by decide +kernel))))
        obtain ⟨tx, rfl⟩ := r
        refine ⟨"str", _, PySem.F.plainAttrs_str, PySem.F.slot_str_replace, PySem.F.type_str_replace, typeIs_str _ _ _, (fun _ e => by cases e), Calls.callWith_builtin rfl (Calls.evalArgs_plain (Calls.spliced_cons (K2.read I.ok.kind (sx.lo _ (by decide +kernel)) (by decide +kernel) ?_)))⟩
        refine Calls.spliced_cons (Calls.Constant_str (Calls.spliced_nil ?_))
        have k1 := K2.nz
        have k2 : t < n := K2.lt
        refine PySem.SC.replace k1 (Nat.ne_of_gt (Nat.lt_of_le_of_lt (Nat.zero_le t) k2)) (Nat.ne_of_lt k2) (by rw [toS_beq]; rfl) ?_ fun t' j => ?_
        · have e0 : (toS st).length = st.length := toS_len st
          have e1 : (toS []).length = 0 := rfl
          rw [e0, e1]
          omega
        · rw [rep_strike]
          exact ⟨V.str (toS (st.filter (· != srt sg))), σ, H, (I2.tok (n + 1)).tok j, ⟨t', rfl⟩, kk _ M hf' ι H _ .refl sm.m (.str _)⟩
      | false =>
        rw [hk] at hf'
        refine wpAny_execs_nil ?_
        exact ret_run hy h6 I2 sm kk (sbR_ok hl hf') back
abbrev SW (c : CE) (a : PY) : FS := fun ρ M D => wS c a ρ M D
theorem run_sb {W : WX} {f : Nat} {fS fA c2 : Str} {p1 p2 p3 p4 p5 p6 p7 p8 p9 p10 p11 p12 p13 p14 p15 p16 ap cp a1 a2 a3 a4 a5 a6 a7 a8 a9 a10 a11 a12 a13 a14 a15 a16 a17 : Pos} {n1 n2 n3 n4 : Nat} {tk : Tok} {c3 e1 : Expr} (hy : Hy T c nm k X) (sx : SbX k X) (top : k.top = true)
    (gS : gl k fS = true) (hS : T.st = some fS) (gA : gl k fA = true) (hA : T.fn f = some fA)
    (g2 : Gl X c2) (g2d : (c2 == ("__debug__" : Str)) = false) (m2 : X.mg c2 = some (.str (toS [60, 123]) tk)) (h3 : fE T sbC k c3 = true) (h6 : fE T sbR k e1 = true) (hap : (ap.endLine == cp.line) = true) :
    PSs X [.Assign [.Name "sort" a1] (.Call (.Name fS a2) [.Name "sign" a3] [] a4) a5,
      .If (.BoolOp .And [.Compare (.Name "sign" a6) [.Eq] [.Constant (.str (toS [125])) n4 a7] a8, .Call (.Name fA a9) [.Name "manner" a10, .Name "ahead" a11, .Name "behind" a12] [] a13] a14) [.Return (some (.Name "state" a15)) a16] [] a17,
      .If (.Compare (.Name "sign" p1) [.In] [.Name c2 p2] p3) [.Return (some c3) p4] [] p5,
      .If (.Compare (.Subscript (.Name "manner" p6) (.Constant (.int 0) n1 p7) p8) [.Eq] [.Constant (.str (toS [116, 117, 114, 110, 115])) n2 p9] p10) [.Return (some (.Call (.Attribute (.Name "state" p11) "replace" ap) [.Name "sort" p12, .Constant (.str (toS [])) n3 p13] [] cp)) p14] [] p15,
      .Return (some e1) p16] (tS nm X.K W (SW c (.sb f))) := by
  refine ⟨fun pins s σ H D I ⟨ι, ρ, M, Dp, sm, hf, kk⟩ => ?_⟩
  obtain ⟨mn, st, ah, sg, bh, x5, rfl, hq, hl, hf⟩ := sbW_case (c := c) (f := f) (D := Dp) hf
  have hN : ∀ (i : Nat) x, sbN[i]? = some x → X.N[i]? = some x := fun i x e => by rw [sx.N]; exact e
  obtain ⟨v0, s0, r0⟩ := sm.r 0 mn rfl
  obtain ⟨v1, s1, r1⟩ := sm.r 1 (.str st) rfl
  obtain ⟨v2, s2, r2⟩ := sm.r 2 ah rfl
  obtain ⟨v3, s3, r3⟩ := sm.r 3 (.str [sg]) rfl
  obtain ⟨v4, s4, r4⟩ := sm.r 4 bh rfl
  cases r1
  cases r3
  obtain ⟨jS, aS, SR, hrS, mS, kS⟩ := hy.sr fS hS
  obtain ⟨gS1, gS2⟩ := gl_ok hy gS
  obtain ⟨gA1, gA2⟩ := gl_ok hy gA
  obtain ⟨jA, aA, fdA, psA, FA_, hrA, mA, kA, bA⟩ := hy.fs f fA hA
  have len6 : σ.length = 6 := by rw [I.len, sx.N]; rfl
  have at5 : ∀ (j : Nat), j ≠ 5 → (σ.set 5 (some (V.str (toS [srt sg]))))[j]? = σ[j]? := fun j hj => List.getElem?_set_ne (Ne.symm hj)
  refine wpAny_execs_cons (wpAny_Assign_Name ?_ rfl)
  refine wpAny_Call_Name_kw (ld_glob I gS1 mS ?_ gS2)
  refine PySem.W.callWith_K (h₀ := X.base) I.ok.mod.kin kS ?_ rfl rfl
  show wpAny _ _ (spliced ((false, eval (.Name "sign" a3) X.env) :: backTo a4 (starEach [] X.env))) _ _ s
  refine Calls.spliced_cons (raw_name (hN 3 _ rfl) (sx.vis (by decide +kernel)) I s3 (fun u r => Calls.spliced_nil ⟨I.kIn, ?_⟩) (by decide +kernel) (by decide +kernel))
  obtain ⟨tx, rfl⟩ := r
  refine wpAny_call (SR X.A X.stack s H sg tx _ hrS I.env0 hq fun t s' nz lt ce => ?_)
  obtain ⟨v, H1, I1, _, rfl, rfl⟩ := I.after ce
  refine store_raw I1 (nodup_ok hy) (hN 5 _ rfl) (sx.lo _ (by decide +kernel)) (v := .str (toS [srt sg])) ⟨t, rfl⟩ fun g I2 kn => ?_
  have K2 : Kn X "sort" (toS [srt sg]) t { s' with heap := g, toks := s'.toks + 1 } := ⟨kn, nz, Nat.lt_succ_of_lt lt⟩
  have sm2 : Sim nm X.K ι H1 M (σ.set 5 (some (.str (toS [srt sg])))) [some mn, some (.str st), some ah, some (.str [sg]), some bh, some (.str [srt sg])] := sm.set 5 (.str [srt sg])
  refine wpAny_execs_cons (wpAny_If (isTrue_and (tst_eqc I2 (hN 3 _ rfl) (sx.vis (by decide +kernel)) (by rw [at5 3 (by decide)]; exact s3) (by decide +kernel) (by decide +kernel) ?_)))
  have I3 := I2.tok (s'.toks + 1 + 1)
  have K3 := K2.tok (n := s'.toks + 1 + 1) (Nat.le_succ _)
  rw [toS_beq]
  have e125 : decide ([sg] = [125]) = decide (sg = 125) := decide_eq_decide.mpr ⟨fun z => by cases z; rfl, fun z => by rw [z]⟩
  rw [e125]
  cases hb : decide (sg = 125) with
  | false =>
    rw [hb] at hf
    exact wpAny_execs_nil (fin_sb (T := T) (k := k) hy sx g2 g2d m2 h3 h6 hap hl I3 K3 sm2 kk.rt hf)
  | true =>
    rw [hb] at hf
    refine isTrue_and (isTrue_plain ?_ rfl)
    refine wpAny_Call_Name_kw (ld_glob I3 gA1 mA ?_ gA2)
    refine PySem.W.callWith_K (h₀ := X.base) I3.ok.mod.kin kA ?_ rfl rfl
    show wpAny _ _ (spliced ((false, eval (.Name "manner" a10) X.env) :: backTo a13 (starEach [.Name "ahead" a11, .Name "behind" a12] X.env))) _ _ _
    refine Calls.spliced_cons (raw_name (hN 0 _ rfl) (sx.vis (by decide +kernel)) I3 (by rw [at5 0 (by decide)]; exact s0) (fun u0 q0 => ?_) (by decide +kernel) (by decide +kernel))
    show wpAny _ _ (spliced ((false, eval (.Name "ahead" a11) X.env) :: backTo a13 (starEach [.Name "behind" a12] X.env))) _ _ _
    refine Calls.spliced_cons (raw_name (hN 2 _ rfl) (sx.vis (by decide +kernel)) I3 (by rw [at5 2 (by decide)]; exact s2) (fun u2 q2 => ?_) (by decide +kernel) (by decide +kernel))
    show wpAny _ _ (spliced ((false, eval (.Name "behind" a12) X.env) :: backTo a13 (starEach [] X.env))) _ _ _
    refine Calls.spliced_cons (raw_name (hN 4 _ rfl) (sx.vis (by decide +kernel)) I3 (by rw [at5 4 (by decide)]; exact s4) (fun u4 q4 => Calls.spliced_nil ⟨I3.kIn, ?_⟩) (by decide +kernel) (by decide +kernel))
    have sp : spW nm X.K c f [v0, v2, v4] H1 (fun v H' => ∃ ι' M' b, Ext ι H1 ι' H' ∧ Rm nm X.K ι' H' M' ∧ v = .bl b ∧ (match b with
      | true => Dp.rt (.str st) M'
      | false => sbFin mn st sg Dp M')) E0 := by
      refine ⟨ι, M, [mn, ah, bh], _, sm.m, .cons r0 (.cons r2 (.cons r4 .nil)), hf, fun p M' hp ι' H' v e m r => ?_⟩
      cases r with
      | bl b => exact ⟨ι', M', b, e, m, rfl, by cases b <;> exact hp⟩
      | _ => exact False.elim hp
    have hlen : ([u0, u2, u4] ++ [] : List Value).length = psA.length := by rw [← FA_.len _ _ _ _ sp]; rfl
    refine wpAny_call (codeAny_mono (codeAny_toks_of (Nat.le_refl _) (FA_.run X.A X.stack _ H1 ⟨[u0, u2, u4], []⟩ [u0, u2, u4] [v0, v2, v4] _ E0 hrA I3.env0 (bA _ [u0, u2, u4] I3.kIn hlen) (.cons q0 (.cons q2 (.cons q4 .nil))) sp)) fun r s4' ⟨ht, hc⟩ => ?_)
    cases r with
    | error e => exact False.elim hc
    | ok fl =>
      cases fl with
      | ret u =>
        have ce2 : L2.CE X.stack X.prog X.w H1 { s' with heap := g, toks := s'.toks + 1 + 1 } _ u s4' := hc
        have K4 := K3.call I3 (hy.fr top) ce2 ht
        obtain ⟨v, H4, I4, rv, ι', M', b, e4, m4, rfl, hb4⟩ := I3.after ce2
        obtain rfl : u = Value.bool b := rv
        have sm4 := sm2.up e4 m4
        refine wpAny_truthy_bool ?_
        cases b with
        | true =>
          refine isTrue_and_nil ?_
          obtain ⟨w1, z1, y1⟩ := sm4.r 1 (.str st) rfl
          refine wpAny_execs_cons (wpAny_Return_some (raw_name (hN 1 _ rfl) (sx.vis (by decide +kernel)) I4 z1 (fun u5 q5 => ?_) (by decide +kernel) (by decide +kernel)))
          exact ⟨w1, _, H4, I4, q5, kk.rt _ M' hb4 ι' H4 _ e4 m4 y1⟩
        | false =>
          exact wpAny_execs_nil (fin_sb (T := T) (k := k) hy sx g2 g2d m2 h3 h6 hap hl I4 K4 sm4 (fun p M2 h2 ι2 H2 v e2 m2 r2 => kk.rt p M2 h2 ι2 H2 v (e4.trans e2) m2 r2) hb4)
      | next => exact False.elim hc
      | brk => exact False.elim hc
      | cont => exact False.elim hc
end
end Qt
/-! ### what fits is sound: statements -/
namespace Qt
open PySem PySem.Spec PyProof.Rows L2
section
variable {T : Tb} {c : CE} {nm : Nm} {k : Kc} {X : Cx} {W : WX}
theorem no_comp {a : PX} {e : Expr} (h : fE T a k e = true) (hc : ∀ elt gs sc p, e ≠ .ListComp elt gs sc p) (t : Option Expr) (l : Nat) (env : Env) : swapsWith e t l env = pure false := by
  cases e with
  | ListComp elt gs sc p => exact absurd rfl (hc elt gs sc p)
  | SetComp elt gs sc p => rw [fE_setc] at h; cases h
  | DictComp a b gs sc p => rw [fE_dictc] at h; cases h
  | _ => rfl
theorem not_comp {e : Expr} (h : isComp e = false) : ∀ elt gs sc p, e ≠ .ListComp elt gs sc p := fun _ _ _ _ z => by rw [z] at h; cases h
theorem blk_fn (hy : Hy T c nm k X) : X.env.blockKind = .function := by
  unfold Env.blockKind
  rw [hy.sc, hy.kd]
  rfl
theorem sw_comp (hy : Hy T c nm k X) {elt : Expr} {gs : List Comprehension} {sc : Scope} {p q : Pos} {y : Str} {l : Nat} : swapsWith (.ListComp elt gs sc p) (some (.Name y q)) l X.env = pure (X.env.kindOf y == some .local && q.line == p.line && !(sc.names.any fun (n, k) => n == y && (k == .local || k == .cell))) := by
  unfold swapsWith
  simp only [blk_fn hy]
  rfl
theorem lc_of_fE {a : PX} {elt : Expr} {gs : List Comprehension} {sc : Scope} {p : Pos} (h : fE T a k (.ListComp elt gs sc p) = true) : ∃ t s it cd el, a = .lc t s it cd el := by
  cases a with
  | lc t s it cd el => exact ⟨t, s, it, cd, el, rfl⟩
  | _ => cases h
/-- name = value -/
theorem st_asg (hy : Hy T c nm k X) {i : Nat} {x : Str} {q pos : Pos} {e : PX} {ee : Expr} (h1 : sto k i x = true) (h2 : fE T e k ee = true) : PS X (.Assign [.Name x q] ee pos) (tS nm X.K W (SW c (.asg i e))) := by
  obtain ⟨g1, g2, g3⟩ := sto_ok hy h1
  have plain : swapsWith ee (some (.Name x q)) pos.line X.env = pure false → PS X (.Assign [.Name x q] ee pos) (tS nm X.K W (SW c (.asg i e))) := fun hs =>
    qs_asg (ps_set (nodup_ok hy) g1 g2 ((snd T c nm e).pe k X hy ee h2).1 hs g3)
  by_cases hc : ∀ elt gs sc p, ee ≠ .ListComp elt gs sc p
  · exact plain (no_comp h2 hc _ _ _)
  · obtain ⟨elt, gs, sc, p, rfl⟩ : ∃ elt gs sc p, ee = .ListComp elt gs sc p := by
      refine Classical.byContradiction fun z => hc fun elt gs sc p e => z ⟨elt, gs, sc, p, e⟩
    have hsw := sw_comp hy (elt := elt) (gs := gs) (sc := sc) (p := p) (q := q) (y := x) (l := pos.line)
    cases hb : (X.env.kindOf x == some .local && q.line == p.line && !(sc.names.any fun (n, k) => n == x && (k == .local || k == .cell))) with
    | false =>
      rw [hb] at hsw
      exact plain hsw
    | true =>
      rw [hb] at hsw
      have hl : X.env.scope.names.lookup x = some .local := by
        simp only [Bool.and_eq_true] at hb
        exact eq_of_beq hb.1.1
      obtain ⟨t, s, it, cd, el, rfl⟩ := lc_of_fE h2
      obtain ⟨tg, iter, ifs, own, tt, rfl, L⟩ := lc_parts (snd T c nm it) (snd T c nm cd) (snd T c nm el) hy h2
      have base : PS X (.Assign [.Name x q] (.ListComp elt [⟨tg, iter, ifs, 0⟩] sc p) pos) (tAsg (tE nm X.K (EW c (.lc t s it cd el))) (gName i)) := by
        refine PS.of (PS.post (ps_setLc hy.calm (nodup_ok hy) g1 hl hsw L.hi L.ok L.hg L.ht L.he L.hs)) ?_
        intro D σ H hq
        exact lc_of (Q := fun v H' => D.nx (σ.set i (some v)) H') L.vs L.htt hq fun v H' ⟨p, u, _, hu, mu, k⟩ => ⟨p, u, hu, mu, k⟩
      exact qs_asg base
theorem no_starred {as : PX} {vs : List Expr} (h : fA T as k vs = true) : (vs.any fun | .Starred .. => true | _ => false) = false := by
  induction vs generalizing as with
  | nil => rfl
  | cons e r ih =>
    obtain ⟨a, b, rfl, h1, h2⟩ := cons_of h
    rw [List.any_cons, ih h2]
    cases e with
    | Starred e p => rw [fE_star] at h1; cases h1
    | _ => rfl
theorem swapped2 (hy : Hy T c nm k X) {x y : Str} {px py p q : Pos} {u v : Expr} {n m : Nat} {as : PX} (h : parOk k [.Name x px, .Name y py] [u, v] = true) (ha : fA T as k [u, v] = true) :
    swappedStores [.Tuple [.Name x px, .Name y py] n p] (.Tuple [u, v] m q) X.env = pure (some [x, y]) ∧ X.env.scope.names.lookup x = some .local ∧ X.env.scope.names.lookup y = some .local := by
  have h0 : ((decide (k.sc.names.lookup x = some .local) && (decide (k.sc.names.lookup y = some .local) && ((py.line == px.line) && decide ([x, y].eraseDups.length = 2)))) && (decide ([Expr.Name x px, .Name y py].length = [u, v].length) && (!([u, v].all (foldedForSure 8)) && !([u, v].all (constantsAlone 8))))) = true := h
  generalize hf : [u, v].all (foldedForSure 8) = bf at h0
  generalize hc : [u, v].all (constantsAlone 8) = bc at h0
  simp only [Bool.and_eq_true, decide_eq_true_eq, Bool.not_eq_true'] at h0
  obtain ⟨⟨h1, h2, h3, h4⟩, _, h5, h6⟩ := h0
  subst h5 h6
  have k1 : X.env.kindOf x = some .local := by show X.env.scope.names.lookup x = _; rw [hy.sc]; exact h1
  have k2 : X.env.kindOf y = some .local := by show X.env.scope.names.lookup y = _; rw [hy.sc]; exact h2
  refine ⟨?_, k1, k2⟩
  have e1 : ([Expr.Name x px, Expr.Name y py].filterMap fun
    | .Name id pos => if (X.env.kindOf id == some .local && pos.line == px.line) = true then some id else none
    | _ => none) = [x, y] := by
    simp only [List.filterMap_cons, List.filterMap_nil, k1, k2, h3, beq_self_eq_true, Bool.and_self, if_true]
  have s1 := no_starred ha
  generalize hs : ([u, v].any fun | .Starred .. => true | _ => false) = bs at s1
  subst s1
  unfold swappedStores
  refine (if_neg (c := (!([Expr.Name x px, Expr.Name y py].length == 2 || [Expr.Name x px, Expr.Name y py].length == 3) || [u, v].length != [Expr.Name x px, Expr.Name y py].length || X.env.blockKind != ScopeKind.function) = true) ?_).trans ?_
  · rw [blk_fn hy]
    exact Bool.false_ne_true
  refine (if_neg (c := ([u, v].any fun | .Starred .. => true | _ => false) = true) ?_).trans ?_
  · rw [hs]
    exact Bool.false_ne_true
  show (if (([Expr.Name x px, Expr.Name y py].filterMap fun
    | .Name id pos => if (X.env.kindOf id == some .local && pos.line == px.line) = true then some id else none
    | _ => none).length != 2 || ([Expr.Name x px, Expr.Name y py].filterMap fun
    | .Name id pos => if (X.env.kindOf id == some .local && pos.line == px.line) = true then some id else none
    | _ => none).eraseDups.length != ([Expr.Name x px, Expr.Name y py].filterMap fun
    | .Name id pos => if (X.env.kindOf id == some .local && pos.line == px.line) = true then some id else none
    | _ => none).length) = true then pure none else if [u, v].all (foldedForSure 8) = true then pure none else if [u, v].all (constantsAlone 8) = true then _ else pure (some ([Expr.Name x px, Expr.Name y py].filterMap fun
    | .Name id pos => if (X.env.kindOf id == some .local && pos.line == px.line) = true then some id else none
    | _ => none))) = _
  rw [e1, hf, hc]
  have e2 : ([x, y].length != 2 || [x, y].eraseDups.length != [x, y].length) = false := by
    rw [h4]
    rfl
  rw [e2]
  rfl
theorem swapped3 (hy : Hy T c nm k X) {x y z : Str} {px py pz p q : Pos} {u v w : Expr} {n m : Nat} {as : PX} (h : parOk k [.Name x px, .Name y py, .Name z pz] [u, v, w] = true) (ha : fA T as k [u, v, w] = true) :
    swappedStores [.Tuple [.Name x px, .Name y py, .Name z pz] n p] (.Tuple [u, v, w] m q) X.env = pure (some [x, y, z]) ∧ X.env.scope.names.lookup x = some .local ∧ X.env.scope.names.lookup y = some .local ∧ X.env.scope.names.lookup z = some .local := by
  have h0 : ((decide (k.sc.names.lookup x = some .local) && (decide (k.sc.names.lookup y = some .local) && (decide (k.sc.names.lookup z = some .local) && ((py.line == px.line) && ((pz.line == px.line) && decide ([x, y, z].eraseDups.length = 3)))))) && (decide ([Expr.Name x px, .Name y py, .Name z pz].length = [u, v, w].length) && (!([u, v, w].all (foldedForSure 8)) && !([u, v, w].all (constantsAlone 8))))) = true := h
  generalize hf : [u, v, w].all (foldedForSure 8) = bf at h0
  generalize hc : [u, v, w].all (constantsAlone 8) = bc at h0
  simp only [Bool.and_eq_true, decide_eq_true_eq, Bool.not_eq_true'] at h0
  obtain ⟨⟨h1, h2, h7, h3, h8, h4⟩, _, h5, h6⟩ := h0
  subst h5 h6
  have k1 : X.env.kindOf x = some .local := by show X.env.scope.names.lookup x = _; rw [hy.sc]; exact h1
  have k2 : X.env.kindOf y = some .local := by show X.env.scope.names.lookup y = _; rw [hy.sc]; exact h2
  have k3 : X.env.kindOf z = some .local := by show X.env.scope.names.lookup z = _; rw [hy.sc]; exact h7
  refine ⟨?_, k1, k2, k3⟩
  have e1 : ([Expr.Name x px, Expr.Name y py, Expr.Name z pz].filterMap fun
    | .Name id pos => if (X.env.kindOf id == some .local && pos.line == px.line) = true then some id else none
    | _ => none) = [x, y, z] := by
    simp only [List.filterMap_cons, List.filterMap_nil, k1, k2, k3, h3, h8, beq_self_eq_true, Bool.and_self, if_true]
  have s1 := no_starred ha
  generalize hs : ([u, v, w].any fun | .Starred .. => true | _ => false) = bs at s1
  subst s1
  unfold swappedStores
  refine (if_neg (c := (!([Expr.Name x px, Expr.Name y py, Expr.Name z pz].length == 2 || [Expr.Name x px, Expr.Name y py, Expr.Name z pz].length == 3) || [u, v, w].length != [Expr.Name x px, Expr.Name y py, Expr.Name z pz].length || X.env.blockKind != ScopeKind.function) = true) ?_).trans ?_
  · rw [blk_fn hy]
    exact Bool.false_ne_true
  refine (if_neg (c := ([u, v, w].any fun | .Starred .. => true | _ => false) = true) ?_).trans ?_
  · rw [hs]
    exact Bool.false_ne_true
  show (if (([Expr.Name x px, Expr.Name y py, Expr.Name z pz].filterMap fun
    | .Name id pos => if (X.env.kindOf id == some .local && pos.line == px.line) = true then some id else none
    | _ => none).length != 3 || ([Expr.Name x px, Expr.Name y py, Expr.Name z pz].filterMap fun
    | .Name id pos => if (X.env.kindOf id == some .local && pos.line == px.line) = true then some id else none
    | _ => none).eraseDups.length != ([Expr.Name x px, Expr.Name y py, Expr.Name z pz].filterMap fun
    | .Name id pos => if (X.env.kindOf id == some .local && pos.line == px.line) = true then some id else none
    | _ => none).length) = true then pure none else if [u, v, w].all (foldedForSure 8) = true then pure none else if [u, v, w].all (constantsAlone 8) = true then _ else pure (some ([Expr.Name x px, Expr.Name y py, Expr.Name z pz].filterMap fun
    | .Name id pos => if (X.env.kindOf id == some .local && pos.line == px.line) = true then some id else none
    | _ => none))) = _
  rw [e1, hf, hc]
  have e2 : ([x, y, z].length != 3 || [x, y, z].eraseDups.length != [x, y, z].length) = false := by
    rw [h4]
    rfl
  rw [e2]
  rfl
theorem nodup2 {i j : Nat} (h : [i, j].Nodup) : i ≠ j := by
  intro z
  subst z
  simp at h
theorem nodup3 {i j l : Nat} (h : [i, j, l].Nodup) : i ≠ j ∧ i ≠ l ∧ j ≠ l := by
  simp at h
  exact ⟨h.1.1, h.1.2, h.2⟩
theorem par_cases {ts vs : List Expr} (h : parOk k ts vs = true) : (∃ x px y py u v, ts = [.Name x px, .Name y py] ∧ vs = [u, v]) ∨ ∃ x px y py z pz u v w, ts = [.Name x px, .Name y py, .Name z pz] ∧ vs = [u, v, w] := by
  unfold parOk at h
  rw [Bool.and_eq_true] at h
  obtain ⟨h1, h2⟩ := h
  rw [Bool.and_eq_true, decide_eq_true_eq] at h2
  have hl := h2.1
  split at h1
  · match vs, hl with
    | [u, v], _ => exact .inl ⟨_, _, _, _, u, v, rfl, rfl⟩
  · match vs, hl with
    | [u, v, w], _ => exact .inr ⟨_, _, _, _, _, _, u, v, w, rfl, rfl⟩
  · cases h1
theorem st_par (hy : Hy T c nm k X) {is : List Nat} {es : PX} {ts vs : List Expr} {n m : Nat} {p q pos : Pos} (h1 : fTs k is ts = true) (h2 : fA T es k vs = true) (h3 : parOk k ts vs = true) (h4 : is.Nodup) :
    PS X (.Assign [.Tuple ts n p] (.Tuple vs m q) pos) (tS nm X.K W (SW c (.unp is (.tp es)))) := by
  have pa := (snd T c nm es).pa k X hy vs h2
  rcases par_cases h3 with ⟨x, px, y, py, u, v, rfl, rfl⟩ | ⟨x, px, y, py, z, pz, u, v, w, rfl, rfl⟩
  · match is, h1 with
    | [i, j], h1 =>
      have h1' : (sto k i x && (sto k j y && true)) = true := h1
      simp only [Bool.and_eq_true] at h1'
      obtain ⟨sw, l1, l2⟩ := swapped2 (n := n) (m := m) (p := p) (q := q) hy h3 h2
      exact qs_par (ps_par hy.calm (nodup_ok hy) (sto_ok hy h1'.1).1 (sto_ok hy h1'.2.1).1 (nodup2 h4) l1 l2 pa sw rfl)
    | [], h1 => cases h1
    | [_], h1 => (simp [fTs] at h1)
    | _ :: _ :: _ :: _, h1 => (simp [fTs] at h1)
  · match is, h1 with
    | [i, j, l], h1 =>
      have h1' : (sto k i x && (sto k j y && (sto k l z && true))) = true := h1
      simp only [Bool.and_eq_true] at h1'
      obtain ⟨sw, l1, l2, l3⟩ := swapped3 (n := n) (m := m) (p := p) (q := q) hy h3 h2
      obtain ⟨n1, n2, n3⟩ := nodup3 h4
      exact qs_par3 (ps_par3 hy.calm (nodup_ok hy) (sto_ok hy h1'.1).1 (sto_ok hy h1'.2.1).1 (sto_ok hy h1'.2.2.1).1 n1 n2 n3 l1 l2 l3 pa sw rfl)
    | [], h1 => cases h1
    | [_], h1 => (simp [fTs] at h1)
    | [_, _], h1 => (simp [fTs] at h1)
    | _ :: _ :: _ :: _ :: _, h1 => (simp [fTs] at h1)
/-- a, b = value, no display -/
theorem st_unp (hy : Hy T c nm k X) {is : List Nat} {e : PX} {ts : List Expr} {ee : Expr} {n : Nat} {p pos : Pos} (h1 : fTs k is ts = true) (h2 : fE T e k ee = true) (h3 : ∀ vs m q, ee ≠ .Tuple vs m q) :
    PS X (.Assign [.Tuple ts n p] ee pos) (tS nm X.K W (SW c (.unp is e))) := by
  obtain ⟨g1, g2, g3⟩ := fTs_ok hy h1
  refine qs_unp (tg := .Tuple ts n p) (ps_asg ((snd T c nm e).pe k X hy ee h2).1 (qg_tup (pg_tup hy.calm g1 g2 g3)) ?_ ?_ rfl)
  · show swapsWith ee (some (.Tuple ts n p)) pos.line X.env = pure false
    cases ee with
    | SetComp elt gs sc p => rw [fE_setc] at h2; cases h2
    | DictComp a b gs sc p => rw [fE_dictc] at h2; cases h2
    | _ => rfl
  · cases ee with
    | Tuple vs m q => exact absurd rfl (h3 vs m q)
    | _ => rfl
theorem ite_same2 {α : Type} {p : Prop} [Decidable p] {b : Bool} {x y : α} (h : b = true) : (if p then x else if b = true then x else y) = x := by
  subst h
  by_cases hp : p <;> simp [hp]
/-- constants in a display: nothing is exchanged -/
theorem folded_none {ts vs : List Expr} {n m : Nat} {p q : Pos} {as : PX} (hy : Hy T c nm k X) (h : fE T as k (.Tuple vs m q) = true) (hf : vs.all (foldedForSure 8) = true) : swappedStores [.Tuple ts n p] (.Tuple vs m q) X.env = pure none := by
  obtain ⟨es, rfl⟩ : ∃ es, as = .tp es := by
    cases as with
    | tp es => exact ⟨es, rfl⟩
    | _ => cases h
  have ha : fA T es k vs = true := h
  have hs := no_starred ha
  generalize hb : vs.all (foldedForSure 8) = b at hf
  subst hf
  unfold swappedStores
  dsimp only
  split
  · rfl
  · refine (if_neg fun z => Bool.false_ne_true (hs.symm.trans z)).trans ?_
    by_cases hq : vs.all (foldedForSure 8) = true
    · simp only [hq, if_true, ite_self]
    · exact absurd hb hq
theorem filt_lt {ts : List Expr} {g : Expr → Option Str} (h : ∃ t ∈ ts, g t = none) : (ts.filterMap g).length < ts.length := by
  induction ts with
  | nil => obtain ⟨_, z, _⟩ := h; cases z
  | cons a r ih =>
    obtain ⟨t, ht, hg⟩ := h
    have hle := List.length_filterMap_le g r
    rw [List.filterMap_cons, List.length_cons]
    rcases List.mem_cons.mp ht with rfl | ht
    · rw [hg]
      show (r.filterMap g).length < _
      omega
    · have := ih ⟨t, ht, hg⟩
      cases g a with
      | none => show (r.filterMap g).length < _; omega
      | some b => show (r.filterMap g).length + 1 < _; omega
theorem cell_none {ts vs : List Expr} {n m : Nat} {p q : Pos} {es : PX} (hy : Hy T c nm k X) (h : cellOk k ts = true) (ha : fA T es k vs = true) : swappedStores [.Tuple ts n p] (.Tuple vs m q) X.env = pure none := by
  have hs := no_starred ha
  obtain ⟨t, ht, h1⟩ := List.any_eq_true.mp h
  obtain ⟨x, px, rfl, hx⟩ : ∃ x px, t = .Name x px ∧ ¬ k.sc.names.lookup x = some .local := by
    cases t with
    | Name x px => exact ⟨x, px, rfl, by simpa using h1⟩
    | _ => cases h1
  have hk : ¬ X.env.kindOf x = some .local := by
    show ¬ X.env.scope.names.lookup x = _
    rw [hy.sc]
    exact hx
  unfold swappedStores
  dsimp only
  split
  · rfl
  · refine (if_neg fun z => Bool.false_ne_true (hs.symm.trans z)).trans ?_
    refine if_pos ?_
    rw [Bool.or_eq_true]
    refine .inl (bne_iff_ne.mpr (Nat.ne_of_lt (filt_lt ⟨_, ht, ?_⟩)))
    have : (X.env.kindOf x == some .local) = false := beq_eq_false_iff_ne.mpr hk
    simp [this]
theorem st_cell (hy : Hy T c nm k X) {is : List Nat} {es : PX} {ts vs : List Expr} {n m : Nat} {p q pos : Pos} (h1 : fTs k is ts = true) (h2 : fA T es k vs = true) (h3 : cellOk k ts = true) :
    PS X (.Assign [.Tuple ts n p] (.Tuple vs m q) pos) (tS nm X.K W (SW c (.unp is (.tp es)))) := by
  obtain ⟨g1, g2, g3⟩ := fTs_ok hy h1
  have h : fE T (.tp es) k (.Tuple vs m q) = true := h2
  exact qs_unp (tg := .Tuple ts n p) (ps_asg ((snd T c nm (.tp es)).pe k X hy _ h).1 (qg_tup (pg_tup hy.calm g1 g2 g3)) rfl (cell_none hy h3 h2) rfl)
theorem st_unf (hy : Hy T c nm k X) {is : List Nat} {e : PX} {ts vs : List Expr} {n m : Nat} {p q pos : Pos} (h1 : fTs k is ts = true) (h2 : fE T e k (.Tuple vs m q) = true) (h3 : vs.all (foldedForSure 8) = true) :
    PS X (.Assign [.Tuple ts n p] (.Tuple vs m q) pos) (tS nm X.K W (SW c (.unf is e))) := by
  obtain ⟨g1, g2, g3⟩ := fTs_ok hy h1
  exact qs_unp (tg := .Tuple ts n p) (ps_asg ((snd T c nm e).pe k X hy _ h2).1 (qg_tup (pg_tup hy.calm g1 g2 g3)) rfl (folded_none hy h2 h3) rfl)
/-- a, (b, d) = value -/
theorem st_unpN (hy : Hy T c nm k X) {is : List TN} {e : PX} {ts : List Expr} {ee : Expr} {n : Nat} {p pos : Pos} (h1 : fTNs k is ts = true) (h2 : fE T e k ee = true) (h3 : ∀ vs m q, ee ≠ .Tuple vs m q) :
    PS X (.Assign [.Tuple ts n p] ee pos) (tS nm X.K W (SW c (.unpN is e))) := by
  obtain ⟨g1, g2, g3⟩ := fTNs_ok hy h1
  refine qs_unpN (tg := .Tuple ts n p) (ps_asg ((snd T c nm e).pe k X hy ee h2).1 (qg_nst (pg_tup hy.calm g1 g2 g3)) ?_ ?_ rfl)
  · show swapsWith ee (some (.Tuple ts n p)) pos.line X.env = pure false
    cases ee with
    | SetComp elt gs sc p => rw [fE_setc] at h2; cases h2
    | DictComp a b gs sc p => rw [fE_dictc] at h2; cases h2
    | _ => rfl
  · cases ee with
    | Tuple vs m q => exact absurd rfl (h3 vs m q)
    | _ => rfl
theorem sole_ok {e t : Expr} {l : Nat} {env : Env} (h : swapsWith e (some t) l env = pure false) : swapsWithSole [t] e l env = pure false := h
theorem both_of {p : PY} (h : ∀ sts, fB T p k sts = true → ∃ st, sts = [st] ∧ PS X st (tS nm X.K W (SW c p))) : (∀ st, fB T p k [st] = true → PS X st (tS nm X.K W (SW c p))) ∧ ∀ sts, fB T p k sts = true → PSs X sts (tS nm X.K W (SW c p)) :=
  ⟨fun st hf => by
    obtain ⟨s2, e, q⟩ := h _ hf
    cases e
    exact q, fun sts hf => by
    obtain ⟨s2, rfl, q⟩ := h _ hf
    exact qs_one q⟩
theorem st_sb (hy : Hy T c nm k X) {f : Nat} {sts : List Stmt} (h : sbOk T f k sts = true) : PSs X sts (tS nm X.K W (SW c (.sb f))) := by
  unfold sbOk at h
  rw [Bool.and_eq_true] at h
  obtain ⟨h1, h2⟩ := h
  simp only [Bool.and_eq_true, decide_eq_true_eq, List.all_eq_true] at h1
  obtain ⟨top, kN, klo⟩ := h1
  have sx : SbX k X := ⟨by rw [hy.N]; exact kN, fun x hx => by rw [hy.sc]; exact klo x hx⟩
  split at h2
  · cases e12 : T.cs 12 with
    | none =>
      simp only [e12, Bool.and_eq_true] at h2
      exact absurd h2.2.2.1.1.2.2 Bool.false_ne_true
    | some yw =>
      obtain ⟨y, w⟩ := yw
      simp only [e12, Bool.and_eq_true, decide_eq_true_eq] at h2
      obtain ⟨⟨⟨rfl, gS, hS⟩, rfl⟩, ⟨⟨rfl, rfl⟩, ⟨gA, hA⟩, rfl, rfl, rfl, rfl⟩, ⟨⟨rfl, g2, rfl, hw⟩, h3⟩, ⟨⟨⟨rfl, rfl⟩, rfl, rfl⟩, ⟨rfl, hap⟩, rfl, rfl⟩, h6⟩ := h2
      obtain ⟨g2a, g2b⟩ := gl_ok hy g2
      obtain ⟨wv, u, m2, ru, rr⟩ := hy.cs 12 _ _ e12
      have ew := same_eq hw
      subst ew
      have rv := rr [] X.H_0
      cases rv
      obtain ⟨tk, rfl⟩ := ru
      exact run_sb hy sx top gS hS gA hA g2a g2b m2 h3 h6 hap
  · cases h2
theorem st_asr (hy : Hy T c nm k X) {i : Nat} {e : PX} {a b : List Nat} {sts : List Stmt} (h : fB T (.asr i e a b) k sts = true) : PSs X sts (tS nm X.K W (SW c (.asr i e a b))) := by
  simp only [fB] at h
  split at h
  · rename_i x p0 y q e0 w j1 q1 es q2 q3 pos x2 p1 x3 p2 x4 ap c0 j2 q4 c1 j3 q5 cp pos2
    cases e with
    | call f as =>
      simp only [Bool.and_eq_true, decide_eq_true_eq] at h
      obtain ⟨⟨⟨h1, h2⟩, ⟨rfl, rfl⟩, rfl, h3⟩, ⟨rfl, rfl⟩, ⟨h4, h5⟩, h6⟩ := h
      obtain ⟨g1, g2, g3⟩ := sto_ok hy h1
      obtain ⟨v1, v2, v3⟩ := vis_ok hy h2
      obtain ⟨gx, hdb⟩ := gl_ok hy h4
      obtain ⟨j, fa, fd, ps, F, hr, hm, hk, hb⟩ := hy.fs f y h5
      have pa := (snd T c nm as).pa k X hy _ h6
      obtain ⟨a0, a1, rfl, k1, k2⟩ := cons_of h6
      obtain ⟨a2, a3, rfl, k3, k4⟩ := cons_of k2
      have s1 := one_star k1 [.List (.Constant (.str w) j1 q1 :: es) q2] X.env
      have tk : Tk (spliced (backTo q3 (starEach (e0 :: [.List (.Constant (.str w) j1 q1 :: es) q2]) X.env))) := by
        rw [s1]
        exact Tk.tail (rest := backTo q3 (starEach [.List (.Constant (.str w) j1 q1 :: es) q2] X.env)) (Tk.head Tk.list)
      exact qs_asr (nodup_ok hy) g1 g2 v1 g3 v2 v3 rfl h3 fun I h => q_callT F hr gx hm hk hb pa tk hdb s1 rfl I h
    | _ => simp at h
  · cases h
/-! ### what may raise -/
theorem sx_ok (hy : Hy T c nm k X) (tk : Takes X W) {e : PX} {ee : Expr} (h : fX T e k ee = true) : PE X ee (tX nm X.K W fun ρ M Q Xp => wX c e ρ M Q Xp) ∧ swapsWith ee none = fun _ _ => pure false := by
  cases e with
  | call f as =>
    have h0 : (match (generalizing := false) ee with
      | .Call (.Name x _) es [] _ => (gl k x && decide (T.fn f = some x)) && (decide (0 < es.length) && fA T as k es)
      | _ => false) = true := h
    split at h0
    · rename_i x p es pos
      simp only [Bool.and_eq_true, decide_eq_true_eq] at h0
      obtain ⟨⟨h1, h2⟩, h3, h4⟩ := h0
      obtain ⟨g1, g2⟩ := gl_ok hy h1
      obtain ⟨j, fa, fd, ps, F, hr, hm, hk, hb⟩ := hy.fx f x h2
      have ha := (snd T c nm as).pa k X hy _ h4
      cases es with
      | nil => cases h3
      | cons e0 er =>
        obtain ⟨s1, s2⟩ := tail_any h4 pos X.env
        exact ⟨q_callX tk F hr g1 hm hk hb ha g2 s1 s2, rfl⟩
    · cases h0
  | _ => cases h
/-- the suite's answer: a the exception -/
def tHx (nm : Nm) (K : PySem.W.Frag) (n i : Nat) (a : Addr) (cls : Value) (d : Option Addr) (f : HX) : TE := fun σ H Q => (σ.length = n → σ[i]? = some (some (.ref a))) ∧ ∃ ι M c fs v, Rm nm K ι H M ∧ XR nm K ι H c fs cls d ∧ hE f c fs = some v ∧ ∀ w, Rv K ι H w v → Q w H
theorem hx_ok (hy : Hy T c nm k X) {a : Addr} {oe : Obj} {cls : Value} {d : Option Addr} {pn : List (Addr × Obj)} {i : Nat} (hz : Zc cls d oe) (hf : ∃ vs, oe.data = .fields vs) : ∀ {f : HX} {e : Expr}, fH T i f k e = true → PE (X.suite a ((a, oe) :: pn)) e (tHx nm X.K X.N.length i a cls d f)
  | .non, e, h => by
    have h0 : (match (generalizing := false) e with
      | .Constant .none _ _ => true
      | _ => false) = true := h
    split at h0
    · exact PE.of pe_non fun σ H Q ⟨_, ι, M, c, fs, v, m, x, hv, q⟩ => by
        cases hv
        exact q _ .non
    · cases h0
  | .isa C yes no, e, h => by
    have h0 : (match (generalizing := false) e with
      | .Call (.Name y _) [.Name n _, .Name x _] [] _ => (gl k y && decide (y = ("isinstance" : Str))) && ((decide (k.N[i]? = some n) && vis k n) && ((gl k x && (match (generalizing := false) C with
        | some c => decide (T.xk c = some x)
        | none => decide (x = ("ValueError" : Str)))) && (yes.all (fun d => decide (T.xm d C = some true)) && no.all fun d => decide (T.xm d C = some false))))
      | _ => false) = true := h
    split at h0
    · rename_i y p1 n p2 x p3 p4
      simp only [Bool.and_eq_true, decide_eq_true_eq, List.all_eq_true] at h0
      obtain ⟨⟨h1, rfl⟩, ⟨h2, h3⟩, ⟨h4, h5⟩, h6, h7⟩ := h0
      obtain ⟨g1, g2⟩ := gl_ok hy h1
      obtain ⟨v1, v2, v3⟩ := vis_ok hy h3
      obtain ⟨g4, g5⟩ := gl_ok hy h4
      have hN : X.N[i]? = some n := by rw [hy.N]; exact h2
      refine ⟨fun pins s σ H Q I ⟨hs, ι, M, c, fs, v, m, xr, hv, q⟩ => ?_⟩
      obtain ⟨rfl, rfl, rfl⟩ := xr
      have hsi := hs I.len
      obtain ⟨b, rfl, hb⟩ : ∃ b, v = .bl b ∧ T.xm c C = some b := by
        unfold hE at hv
        by_cases hy' : yes.contains c = true
        · rw [if_pos hy'] at hv
          exact ⟨true, (Option.some.inj hv).symm, h6 c (by simpa using hy')⟩
        · rw [if_neg hy'] at hv
          by_cases hn' : no.contains c = true
          · rw [if_pos hn'] at hv
            exact ⟨false, (Option.some.inj hv).symm, h7 c (by simpa using hn')⟩
          · rw [if_neg hn'] at hv
            cases hv
      obtain ⟨ec, hk⟩ := hy.xm c C b hb
      have vN : PE (X.suite a ((a, oe) :: pn)) (.Name n p2) _ := pe_var hN v1 v2 v3
      cases C with
      | some e =>
        have hx : T.xk e = some x := by simpa using h5
        obtain ⟨mx, _⟩ := hy.xo e x hx
        have p := pe_callB (X := X.suite a ((a, oe) :: pn)) (pos := p4) (p := p1) (call_isE ec hz hf) g1 (hy.bl _ (by decide +kernel)) (by decide +kernel) (pa_cons vN (pa_cons (pe_glob (v := .ref (nm.exc e)) (pos := p3) g4 mx rfl g5) pa_nil)) (by decide) (by decide) rfl rfl
        exact p.run pins s σ H Q I ⟨_, hsi, .ref (nm.exc e), .ref (nm.exc e), b, rfl, fun u r => r, hk.2, q _ (.bl b)⟩
      | none =>
        have hx : x = ("ValueError" : Str) := by simpa using h5
        subst hx
        have p := pe_callB (X := X.suite a ((a, oe) :: pn)) (pos := p4) (p := p1) (call_isE ec hz hf) g1 (hy.bl _ (by decide +kernel)) (by decide +kernel) (pa_cons vN (pa_cons (pe_bltn (v := .ty "ValueError") (pos := p3) g4 (hy.bl _ (by decide +kernel)) (by decide +kernel) rfl (by decide +kernel) g5) pa_nil)) (by decide) (by decide) rfl rfl
        exact p.run pins s σ H Q I ⟨_, hsi, .ty "ValueError", .type "ValueError", b, rfl, fun u r => r, hk, q _ (.bl b)⟩
    · cases h0
  | .and f g, e, h => by
    have h0 : (match (generalizing := false) e with
      | .BoolOp .And [ea, eb] _ => fH T i f k ea && fH T i g k eb
      | _ => false) = true := h
    split at h0
    · rename_i ea eb p
      rw [Bool.and_eq_true] at h0
      refine PE.of (pe_andT (hx_ok hy hz hf h0.1) (pe_bool1 (hx_ok hy hz hf h0.2))) fun σ H Q ⟨hs, ι, M, c, fs, v, m, x, hv, q⟩ => ?_
      unfold hE at hv
      cases e1 : hE f c fs with
      | none => simp only [e1] at hv; cases hv
      | some w =>
        cases w with
        | bl b =>
          refine ⟨hs, ι, M, c, fs, .bl b, m, x, e1, fun w r => ?_⟩
          refine ⟨b, truthy_v (M := M) r rfl, ?_⟩
          cases b with
          | true =>
            simp only [e1] at hv
            rw [if_pos rfl]
            exact ⟨hs, ι, M, c, fs, v, m, x, hv, q⟩
          | false =>
            simp only [e1] at hv
            rw [if_neg Bool.false_ne_true]
            cases hv
            exact q w r
        | _ => simp only [e1] at hv; cases hv
    · cases h0
/-- try: .. except x as n: return .. -/
theorem st_try (hy : Hy T c nm k X) (tk : Takes X W) {b : PY} (ib : ∀ (k : Kc) (X : Cx) (W : WX), Hy T c nm k X → Takes X W → (∀ st, fB T b k [st] = true → PS X st (tS nm X.K W (SW c b))) ∧ ∀ sts, fB T b k sts = true → PSs X sts (tS nm X.K W (SW c b)))
    {i C : Nat} {ks : List Nat} {h : HX} {x n : Str} {body : List Stmt} {e : Expr} {p1 p2 p3 pos : Pos} (h1 : k.top = true) (h2 : gl k x = true) (h3 : T.xk C = some x) (h4 : k.N[i]? = some n) (h5 : k.sc.names.lookup n = some .local)
    (h6 : ∀ d ∈ ks, T.xm d (some C) = some true) (h7 : fH T i h k e = true) (h8 : fB T b k body = true) :
    PS X (.Try body [.ExceptHandler (some (.Name x p1)) (some n) [.Return (some e) p2] p3] [] [] pos) (tS nm X.K W (SW c (.try_ b i C ks h))) := by
  obtain ⟨g1, g2⟩ := gl_ok hy h2
  obtain ⟨s1, s2⟩ := hy.st2 h1
  obtain ⟨mx, _⟩ := hy.xo C x h3
  have hN : X.N[i]? = some n := by rw [hy.N]; exact h4
  have hl : X.env.kindOf n = some .local := by show X.env.scope.names.lookup n = _; rw [hy.sc]; exact h5
  refine PS.of (ps_try_as (i := i) (c := .ref (nm.exc C)) (tb := fun W' => tS nm X.K W' (SW c b)) (ts := fun a cls d D σ H => tHx nm X.K X.N.length i a cls d h σ H D.rt) s1 s2 (nodup_ok hy) hN hl ⟨g1, g2, .inl mx⟩ tk
    (fun W' pn xe tk' pw => (ib k (X.tr pn xe) W' (hy.tr pw) tk').2 _ h8) (fun a oe cls d pn hz hf => pss_one (ps_ret (hx_ok hy hz hf h7)))) fun D σ H ⟨ι, ρ, M, Dp, sm, hf, kk⟩ => ?_
  refine ⟨ι, ρ, M, _, sm, hf, ⟨kk.nx, kk.rt, kk.ct, fun d fs M' hx ι' H' σ' cls dd e m xr => ?_⟩⟩
  cases hc : ks.contains d with
  | false => simp only [hc] at hx
  | true =>
    simp only [hc] at hx
    have hd : d ∈ ks := by simpa using hc
    have xm := (hy.xm d (some C) true (h6 d hd)).2
    cases hv : hE h d fs with
    | none => simp only [hv] at hx
    | some v =>
      simp only [hv] at hx
      refine ⟨true, ?_, fun _ a ha => ?_, fun z => by cases z⟩
      · rw [xr.1]
        exact xm.1
      · refine ⟨fun hl => ?_, ι', M', d, fs, v, m, xr, hv, fun w r => kk.rt v M' hx ι' H' w e m r⟩
        rw [List.length_set] at hl
        exact List.getElem?_set_self (by rw [hl]; exact (List.getElem?_eq_some_iff.mp hN).1)
/-- the induction -/
theorem sndB (T : Tb) (c : CE) (nm : Nm) : ∀ (p : PY) (k : Kc) (X : Cx) (W : WX), Hy T c nm k X → Takes X W → (∀ st, fB T p k [st] = true → PS X st (tS nm X.K W (SW c p))) ∧ ∀ sts, fB T p k sts = true → PSs X sts (tS nm X.K W (SW c p)) := by
  intro p
  induction p with
  | skip =>
    intro k X W hy tk
    have one : ∀ st, fB T .skip k [st] = true → PS X st (tS nm X.K W (SW c .skip)) := fun st h => by
      cases st with
      | Pass p => exact qs_pass
      | _ => cases h
    refine ⟨one, fun sts h => ?_⟩
    match sts, h with
    | [], _ => exact qs_nil
    | [st], h => exact qs_one (one st h)
    | st :: _ :: _, h => cases st <;> cases h
  | cont =>
    intro k X W hy tk
    refine both_of fun sts h => ?_
    simp only [fB] at h
    split at h
    · exact ⟨_, rfl, qs_cont⟩
    · cases h
  | raise n =>
    intro k X W hy tk
    refine both_of fun sts h => ?_
    simp only [fB] at h
    split at h
    · rw [Bool.and_eq_true, decide_eq_true_eq] at h
      obtain ⟨g1, g2⟩ := gl_ok hy h.1
      obtain ⟨a1, a2, a3, a4, a5⟩ := hy.xo n _ h.2
      exact ⟨_, rfl, qs_raise hy.calm tk a2 a1 a3 a4 a5 g1 g2⟩
    · cases h
  | exX e =>
    intro k X W hy tk
    refine both_of fun sts h => ?_
    simp only [fB] at h
    split at h
    · obtain ⟨p, z⟩ := sx_ok hy tk h
      exact ⟨_, rfl, qs_exX p (congrFun (congrFun z _) _)⟩
    · cases h
  | retX e =>
    intro k X W hy tk
    refine both_of fun sts h => ?_
    simp only [fB] at h
    split at h
    · exact ⟨_, rfl, qs_retX (sx_ok hy tk h).1⟩
    · cases h
  | try_ b i C ks h ib =>
    intro k X W hy tk
    refine both_of fun sts h => ?_
    simp only [fB] at h
    split at h
    · simp only [Bool.and_eq_true, decide_eq_true_eq, List.all_eq_true] at h
      obtain ⟨⟨h1, h2, h3⟩, ⟨h4, h5, _⟩, h6, h7, h8⟩ := h
      exact ⟨_, rfl, st_try hy tk ib h1 h2 h3 h4 h5 h6 h7 h8⟩
    · cases h
  | never => exact fun k X W hy tk => ⟨fun st h => qs_never1 fun _ _ _ z => z, fun sts h => qs_never fun _ _ _ z => z⟩
  | sb f =>
    intro k X W hy tk
    refine ⟨fun st h => ?_, fun sts h => st_sb hy h⟩
    have h' : sbOk T f k [st] = true := h
    unfold sbOk at h'
    rw [Bool.and_eq_true] at h'
    obtain ⟨_, h2⟩ := h'
    split at h2
    · rename_i e
      cases e
    · cases h2
  | frz i => exact fun k X W hy tk => ⟨fun st h => (by cases h), fun sts h => (by cases h)⟩
  | seq a b ia ib =>
    intro k X W hy tk
    have one : ∀ st, fB T (.seq a b) k [st] = true → PS X st (tS nm X.K W (SW c (.seq a b))) := fun st h => by
      have h' : (isFrz a && fB T b k [st]) = true := h
      rw [Bool.and_eq_true] at h'
      cases a with
      | frz i => exact PS.lock hy.P hy.w ((ib k X W hy tk).1 st h'.2)
      | _ => cases h'.1
    refine ⟨one, fun sts h => ?_⟩
    match sts, h with
    | [], h => cases h
    | [st], h => exact qs_one (one st h)
    | st :: r :: rest, h =>
      have h' : (fB T a k [st] && fB T b k (r :: rest)) = true := h
      rw [Bool.and_eq_true] at h'
      have q := qs_cons (ga := SW c a) (gb := SW c b) ((ia k X W hy tk).1 st h'.1) ((ib k X W hy tk).2 _ h'.2)
      exact q
  | asg i e =>
    intro k X W hy tk
    refine both_of fun sts h => ?_
    simp only [fB] at h
    split at h
    · rw [Bool.and_eq_true] at h
      exact ⟨_, rfl, st_asg hy h.1 h.2⟩
    · cases h
  | unp is e =>
    intro k X W hy tk
    refine both_of fun sts h => ?_
    simp only [fB] at h
    split at h
    · rw [Bool.and_eq_true] at h
      obtain ⟨h1, h2⟩ := h
      split at h2
      · simp only [Bool.and_eq_true, Bool.or_eq_true, decide_eq_true_eq] at h2
        obtain ⟨ha, h3 | h3⟩ := h2
        · exact ⟨_, rfl, st_par hy h1 ha h3.1 h3.2⟩
        · exact ⟨_, rfl, st_cell hy h1 ha h3⟩
      · rw [Bool.and_eq_true] at h2
        refine ⟨_, rfl, st_unp hy h1 h2.1 fun vs m q z => ?_⟩
        subst z
        cases h2.2
    · cases h
  | unf is e =>
    intro k X W hy tk
    refine both_of fun sts h => ?_
    simp only [fB] at h
    split at h
    · simp only [Bool.and_eq_true] at h
      exact ⟨_, rfl, st_unf hy h.1 h.2.2 h.2.1⟩
    · cases h
  | setix o i e =>
    intro k X W hy tk
    refine both_of fun sts h => ?_
    simp only [fB] at h
    split at h
    · simp only [Bool.and_eq_true, Bool.not_eq_true'] at h
      obtain ⟨⟨h1, h2⟩, h3, h4⟩ := h
      refine ⟨_, rfl, qs_setix hy.un hy.P hy.w ((snd T c nm o).pe k X hy _ h3).1 ((snd T c nm i).pe k X hy _ h4).1 (fun g hg => ps_asg ((snd T c nm e).pe k X hy _ h2).1 hg (sole_ok (no_comp h2 (not_comp h1) _ _ _)) (by rfl) (by rfl)) ?_⟩
      · intro v
        rename_i eo ei q ee pos
        cases ei with
        | Slice l u s p => rw [fE_slice] at h4; cases h4
        | _ => rfl
    · cases h
  | setfld o f e =>
    intro k X W hy tk
    refine both_of fun sts h => ?_
    simp only [fB] at h
    split at h
    · simp only [Bool.and_eq_true, Bool.not_eq_true', decide_eq_true_eq] at h
      obtain ⟨⟨h1, h2, h3⟩, h4, h5⟩ := h
      rename_i eo x q ee pos
      have e1 : x = nm.fld f := by rw [hy.fl]; exact h1
      subst e1
      exact ⟨_, rfl, qs_setfld (hy.df f h2) ((snd T c nm o).pe k X hy _ h5).1 ((snd T c nm e).pe k X hy _ h4).1 (no_comp h4 (not_comp h3) _ _ _)⟩
    · cases h
  | ret e =>
    intro k X W hy tk
    refine both_of fun sts h => ?_
    simp only [fB] at h
    split at h
    · exact ⟨_, rfl, qs_ret ((snd T c nm e).pe k X hy _ h).1⟩
    · cases h
  | ret0 =>
    intro k X W hy tk
    refine both_of fun sts h => ?_
    simp only [fB] at h
    split at h
    · exact ⟨_, rfl, qs_ret0⟩
    · cases h
  | ex e =>
    intro k X W hy tk
    refine both_of fun sts h => ?_
    simp only [fB] at h
    split at h
    · simp only [Bool.and_eq_true, Bool.not_eq_true'] at h
      exact ⟨_, rfl, qs_ex ((snd T c nm e).pe k X hy _ h.2).1 (no_comp h.2 (not_comp h.1) _ _ _)⟩
    · cases h
  | if_ t a b ia ib =>
    intro k X W hy tk
    refine both_of fun sts h => ?_
    simp only [fB] at h
    split at h
    · simp only [Bool.and_eq_true] at h
      exact ⟨_, rfl, qs_if ((snd T c nm t).pe k X hy _ h.1).2 ((ia k X W hy tk).2 _ h.2.1) ((ib k X W hy tk).2 _ h.2.2)⟩
    · cases h
  | for_ t s it b ib =>
    intro k X W hy tk
    refine both_of fun sts h => ?_
    simp only [fB] at h
    split at h
    · simp only [Bool.and_eq_true] at h
      obtain ⟨h1, h2, h3⟩ := h
      obtain ⟨i1, i2⟩ := (snd T c nm it).pi k X hy _ _ h2
      refine ⟨_, rfl, PS.of (qs_for (ps_for hy.own hy.calm i1 (fT_ok hy h1) ((ib k X W hy tk).2 _ h3) (i2 _))) fun D σ H ⟨ι, ρ, M, Dp, sm, hf, kk⟩ => ⟨ι, ρ, M, Dp, sm, ?_, kk⟩⟩
      have hf' : wI c it ρ M (fun xs M1 => wFor t s (fun ρ' M' D' => wS c b ρ' M' D') xs ρ M1 Dp) X0 := hf
      rw [wFor_R] at hf'
      exact hf'
    · cases h
  | asr i e a b =>
    intro k X W hy tk
    refine ⟨fun st h => ?_, fun sts h => st_asr hy h⟩
    simp only [fB] at h
    cases h
  | tkr i e m i2 j a b g j2 r im ir =>
    intro k X W hy tk
    have key : ∀ sts, fB T (.tkr i e m i2 j a b g j2 r) k sts = true → PSs X sts (tS nm X.K W (SW c (.tkr i e m i2 j a b g j2 r))) := fun sts h => by
      simp only [fB] at h
      split at h
      · rename_i rest
        rw [Bool.and_eq_true] at h
        obtain ⟨h1, h2⟩ := h
        split at h2
        · rename_i msr er
          simp only [Bool.and_eq_true, decide_eq_true_eq] at h1 h2
          obtain ⟨hs, he⟩ := h1
          obtain ⟨⟨hm, hs2, hj, hv⟩, ⟨rfl, hl1⟩, ⟨rfl, rfl⟩, hg, ⟨hj2, hv2⟩, ⟨rfl, hl2⟩, ⟨rfl, rfl⟩, hr⟩ := h2
          obtain ⟨g1, g2, g3⟩ := sto_ok hy hs
          obtain ⟨g4, g5, g6⟩ := sto_ok hy hs2
          obtain ⟨v1, v2, v3⟩ := vis_ok hy hv
          obtain ⟨v4, v5, v6⟩ := vis_ok hy hv2
          have e2 := congrArg List.reverse er
          rw [List.reverse_reverse, List.reverse_cons, List.reverse_cons, List.append_assoc] at e2
          subst e2
          exact qs_tkr (nodup_ok hy) g1 g2 g3 rfl ((snd T c nm e).pe k X hy _ he).1 (Tk.choice (p8 := by assumption)) ((im k X W hy tk).2 _ hm) g4 g5 g6 (by rw [hy.N]; exact hj) v1 v2 v3 hl1 ((snd T c nm g).pe k X hy _ hg).1 (by rw [hy.N]; exact hj2) v4 v5 v6 hl2 ((ir k X W hy tk).2 _ hr) (w_ne hy.un)
        · cases h2
      · cases h
    refine ⟨fun st h => ?_, key⟩
    simp only [fB] at h
    split at h
    · first
        | (simp at h; done)
        | (rename_i heq
           simp at heq
           obtain ⟨_, rfl⟩ := heq
           simp at h)
    · cases h
  | unpN is e =>
    intro k X W hy tk
    refine both_of fun sts h => ?_
    simp only [fB] at h
    split at h
    · simp only [Bool.and_eq_true] at h
      obtain ⟨h1, h2, h3⟩ := h
      refine ⟨_, rfl, st_unpN hy h1 h2 fun vs m q z => ?_⟩
      subst z
      cases h3
    · cases h
  | forN t it b ib =>
    intro k X W hy tk
    refine both_of fun sts h => ?_
    simp only [fB] at h
    split at h
    · simp only [Bool.and_eq_true] at h
      obtain ⟨h1, h2, h3⟩ := h
      obtain ⟨i1, i2⟩ := (snd T c nm it).pi k X hy _ _ h2
      obtain ⟨g1, g2, g3⟩ := fTNs_ok hy h1
      refine ⟨_, rfl, PS.of (qs_forN (ps_for hy.own hy.calm i1 (qg_nst (pg_tup hy.calm g1 g2 g3)) ((ib k X W hy tk).2 _ h3) (i2 _))) fun D σ H ⟨ι, ρ, M, Dp, sm, hf, kk⟩ => ⟨ι, ρ, M, Dp, sm, ?_, kk⟩⟩
      have hf' : wI c it ρ M (fun xs M1 => wForN t (fun ρ' M' D' => wS c b ρ' M' D') xs ρ M1 Dp) X0 := hf
      rw [wForN_R] at hf'
      exact hf'
    · cases h
  | while_ t b ib =>
    intro k X W hy tk
    refine both_of fun sts h => ?_
    simp only [fB] at h
    split at h
    · simp only [Bool.and_eq_true] at h
      exact ⟨_, rfl, qs_while hy.own ((snd T c nm t).pe k X hy _ h.1).2 ((ib k X W hy tk).2 _ h.2)⟩
    · cases h
end
end Qt
/-! ### a whole program: its defs keep what their trees say -/
namespace Qt
open PySem PySem.Spec PyProof.Rows L2
structure DefE where
  id : Nat
  f : PF
  N : List Str
  d : He.DefD
structure ClsE where
  id : Nat
  name : Str
structure PD where
  Ds : List DefE
  Cs : List ClsE
  dfs : List Nat
  fls : List Str
  cst : List (Nat × Str × PV)
  st : Option Nat
  Xs : List ClsE := []
  xms : List (Nat × Option Nat × Bool) := []
  Vs : List DefE := []
def fldOf (l : List Str) (f : Nat) : Str := match l[f]? with
  | some s => s
  | none => ⟨(List.replicate (f + 1) 0).toArray⟩
theorem fldOf_inj {l : List Str} (h1 : l.Nodup) (h2 : ∀ s ∈ l, s.cps[0]? ≠ some 0) : ∀ f g, fldOf l f = fldOf l g → f = g := by
  have none_at : ∀ f s, s ∈ l → ((⟨(List.replicate (f + 1) 0).toArray⟩ : Str) ≠ s) := fun f s hs e => by
    refine h2 s hs ?_
    rw [← e]
    simp [List.replicate_succ]
  intro f g h
  unfold fldOf at h
  cases ef : l[f]? with
  | none =>
    cases eg : l[g]? with
    | none =>
      rw [ef, eg] at h
      have h3 := congrArg (fun s : Str => s.cps.size) h
      simp at h3
      exact h3
    | some s =>
      rw [ef, eg] at h
      exact absurd h (none_at f s (List.mem_of_getElem? eg))
  | some s =>
    cases eg : l[g]? with
    | none =>
      rw [ef, eg] at h
      exact absurd h.symm (none_at g s (List.mem_of_getElem? ef))
    | some t =>
      rw [ef, eg] at h
      have h' : s = t := h
      subst h'
      obtain ⟨i1, e1⟩ := List.getElem?_eq_some_iff.mp ef
      obtain ⟨i2, e2⟩ := List.getElem?_eq_some_iff.mp eg
      exact (List.getElem_inj h1).mp (e1.trans e2.symm)
def PD.dOf (P : PD) (f : Nat) : Option DefE := P.Ds.find? fun D => D.id == f
def PD.cOf (P : PD) (d : Nat) : Option ClsE := P.Cs.find? fun C => C.id == d
def PD.xOf (P : PD) (d : Nat) : Option ClsE := P.Xs.find? fun C => C.id == d
def PD.xn (P : PD) (d : Nat) : Str := match P.xOf d with
  | some C => C.name
  | none => Str.empty
def PD.vOf (P : PD) (f : Nat) : Option DefE := P.Vs.find? fun D => D.id == f
def PD.G (P : PD) (f : Nat) : Option PF := ((P.Ds ++ P.Vs).find? fun D => D.id == f).map (·.f)
def PD.tb (P : PD) : Tb where
  fn f := match P.dOf f with
    | some D => (match D.d.at_.2 with
      | none => some D.d.at_.1
      | some _ => none)
    | none => none
  mkr d f := match P.cOf d, P.dOf f with
    | some C, some D => if D.d.at_ = (C.name, some ("__init__" : Str)) then some C.name else none
    | _, _ => none
  mt d m f := match P.cOf d, P.dOf f with
    | some C, some D => decide (D.d.at_ = (C.name, some (fldOf P.fls m))) && !decide (fldOf P.fls m = ("__init__" : Str))
    | _, _ => false
  mv d m f := match P.cOf d, P.vOf f with
    | some C, some D => decide (D.d.at_ = (C.name, some (fldOf P.fls m))) && !decide (fldOf P.fls m = ("__init__" : Str))
    | _, _ => false
  df f := P.dfs.contains f
  fld := fldOf P.fls
  cs g := match P.cst.find? fun q => q.1 == g with
    | some q => some q.2
    | none => none
  st := match P.st with
    | some f => (match P.dOf f with
      | some D => (match D.d.at_.2 with
        | none => some D.d.at_.1
        | some _ => none)
      | none => none)
    | none => none
  xk d := (P.xOf d).map (·.name)
  xm d C := (P.xms.find? fun q => q.1 == d && decide (q.2.1 = C)).map (·.2.2)
/-- straight_of's body -/
def strOk (sc : Scope) (N : List Str) (b : List Stmt) : Bool := match N, b with
  | [a0], [.Return (some (.Call (.Attribute (.Dict [some (.Constant (.str k1) _ _), some (.Constant (.str k2) _ _), some (.Constant (.str k3) _ _), some (.Constant (.str k4) _ _)] [.Constant (.str y1) _ _, .Constant (.str y2) _ _, .Constant (.str y3) _ _, .Constant (.str y4) _ _] _) g ap) [.Name x1 _, .Name x2 _] [] cp)) _] =>
    ((decide (k1 = toS [60]) && (decide (k2 = toS [62]) && (decide (k3 = toS [123]) && decide (k4 = toS [125])))) && (decide (y1 = toS [34]) && (decide (y2 = toS [34]) && (decide (y3 = toS [39]) && decide (y4 = toS [39]))))) &&
      (((decide (g = ("get" : Str)) && (decide (x1 = a0) && decide (x2 = a0))) && (ap.endLine == cp.line)) && (decide (sc.names.lookup a0 = some .local) && (!(a0 == ("__debug__" : Str)) && !(a0 == ("__classdict__" : Str)))))
  | _, _ => false
def PD.stOk (P : PD) : Bool := match P.st with
  | none => true
  | some f => (match P.dOf f with
    | some D => decide (D.f.np = 1) && strOk D.d.scope D.N D.d.body
    | none => false)
def PD.cn (P : PD) (d : Nat) : Str := match P.cOf d with
  | some C => C.name
  | none => (P.Cs.headD ⟨0, ""⟩).name
/-- plain parameters only -/
def plainArgs (a : Arguments) (ps : List Str) : Bool := match a with
  | ⟨[], as, none, [], [], none, []⟩ => decide (as.map (·.arg) = ps)
  | _ => false
def DefE.ok (P : PD) (D : DefE) : Bool := (C8.scC D.N (D.N.take D.f.np) D.d.scope && fB P.tb D.f.body ⟨D.N, D.d.scope, fun _ => true, true⟩ D.d.body) &&
  ((decide (D.N.length = D.f.ns) && decide (D.f.np ≤ D.f.ns)) && (plainArgs D.d.params (D.N.take D.f.np) && (D.d.dfl.isEmpty && D.d.kwd.isEmpty)))
/-- a self and a star parameter -/
def starArgs (a : Arguments) (ps : List Str) : Bool := match a with
  | ⟨[], [a1], some av, [], [], none, []⟩ => decide (ps = [a1.arg, av.arg]) && !decide (a1.arg = av.arg)
  | _ => false
def DefE.okV (P : PD) (D : DefE) : Bool := (C8.scC D.N (D.N.take D.f.np) D.d.scope && fB P.tb D.f.body ⟨D.N, D.d.scope, fun _ => true, true⟩ D.d.body) &&
  ((decide (D.N.length = D.f.ns) && decide (D.f.np ≤ D.f.ns)) && (starArgs D.d.params (D.N.take D.f.np) && (D.d.dfl.isEmpty && D.d.kwd.isEmpty)))
def PD.ok (P : PD) : Bool := ((P.Ds.all fun D => D.ok P) && ((P.Vs.all fun D => D.okV P) && P.stOk)) && (decide ((P.Ds ++ P.Vs).map (·.id)).Nodup && (decide P.fls.Nodup && ((P.fls.all fun s => decide (s.cps[0]? ≠ some 0)) && (P.dfs.isEmpty || !P.Cs.isEmpty))))
/-- the facts that the head must tell -/
def PD.glos (P : PD) : List He.Fa := P.Ds.filterMap fun D => match D.d.at_.2 with
  | none => some (.glo D.d.at_.1)
  | some _ => none
def PD.mths (P : PD) : List He.Fa := (P.Ds ++ P.Vs).filterMap fun D => match D.d.at_.2 with
  | none => none
  | some m => if m = ("__init__" : Str) then some (.mkr D.d.at_.1) else some (.meth D.d.at_.1 m)
def PD.clss (P : PD) : List He.Fa := P.Cs.flatMap fun C => .glo C.name :: .cls C.name :: P.dfs.map fun f => .noat C.name (fldOf P.fls f)
def cstF : PV → Str → List He.Fa
  | .int i, x => [.int x i]
  | .str s, x => [.str x (toS s)]
  | _, x => [.glo x]
def PD.fa (P : PD) : List He.Fa := (bnames.map .free ++ P.glos) ++ ((P.mths ++ P.clss) ++ ((P.cst.flatMap fun q => cstF q.2.2 q.2.1) ++ P.Xs.flatMap fun C => [.glo C.name, .exc C.name]))
def PD.fn (P : PD) : List He.DefD := (P.Ds ++ P.Vs).map (·.d)
/-- the tuples of texts -/
def tupS : List PV → Option (List He.Dv)
  | [] => some []
  | .str s :: r => (match tupS r with
    | some l => some (.str (toS s) :: l)
    | none => none)
  | _ => none
def PD.exT (P : PD) (K : PySem.W.Frag) : Bool := P.cst.all fun q => match q.2.2 with
  | .int _ => true
  | .str _ => true
  | .tup vs => (match tupS vs with
    | some l => He.tupB K q.2.1 l
    | none => false)
  | _ => false
/-- what isinstance asks of an exception's class -/
def xcB (K : PySem.W.Frag) (D : Addr) : Bool := He.eqO (PySem.W.findIn K (.ref D) "__getattribute__") (some (some (.builtin "BaseException.__getattribute__"))) && (He.eqO (PySem.W.findIn K (.ref D) "__getattr__") (some none) && (decide (PySem.W.subIn K (.ref D) (.type "BaseException") = some true) && (PySem.W.hasDictIn K D && (He.eqO (PySem.W.findIn K (.ref D) "__class__") (some (some (.builtin "object.__class__"))) &&
  (He.eqO (PySem.W.specialIn K (.builtin "object.__class__") "__get__") (some (some (.builtin "getset_descriptor.__get__"))) && (decide (PySem.W.takesIn K (.builtin "object.__class__") = some true) && decide (PySem.W.mroIn K D (.type "object") = some true)))))))
theorem xcB_ok {K : PySem.W.Frag} {D : Addr} (h : xcB K D = true) : ExcC K D := by
  unfold xcB at h
  simp only [Bool.and_eq_true, decide_eq_true_eq] at h
  obtain ⟨h1, h2, h3, h4, h5, h6, h7, h8⟩ := h
  exact ⟨He.eqO_ok h1, He.eqO_ok h2, h3, h4, He.eqO_ok h5, He.eqO_ok h6, h7, h8⟩
def PD.xmB (P : PD) (K : PySem.W.Frag) (q : Nat × Option Nat × Bool) : Bool := xcB K (He.ga K (P.xn q.1)) && (match q.2.1 with
  | some e => decide (PySem.W.exmOne K (.ref (He.ga K (P.xn q.1))) (.ref (He.ga K (P.xn e))) = some q.2.2) && decide (PySem.W.kitOne K (.ref (He.ga K (P.xn q.1))) (.ref (He.ga K (P.xn e))) = some q.2.2)
  | none => decide (PySem.W.kitOne K (.ref (He.ga K (P.xn q.1))) (.type "ValueError") = some q.2.2))
def PD.ex (P : PD) (K : PySem.W.Frag) : Bool := P.exT K && P.xms.all fun q => P.xmB K q
theorem tupS_rv {K : PySem.W.Frag} {ι : List Addr} {H : Hp} : ∀ {vs : List PV} {l : List He.Dv}, tupS vs = some l → Rvs K ι H (l.map (He.Dv.v K)) vs
  | [], l, h => by cases h; exact .nil
  | v :: vs, l, h => by
    cases v with
    | str s =>
      unfold tupS at h
      cases e : tupS vs with
      | none => rw [e] at h; cases h
      | some m =>
        rw [e] at h
        cases h
        exact .cons (.str s) (tupS_rv e)
    | _ => cases h
section
variable {w : World} {K : PySem.W.Frag} {mg : Str → Option Value} {base : Heap} {PR : Program} {P : PD}
def PD.nm (P : PD) (PR : Program) (w : World) (K : PySem.W.Frag) (h1 : P.fls.Nodup) (h2 : ∀ s ∈ P.fls, s.cps[0]? ≠ some 0) : Nm := ⟨PR, w, fun d => He.ga K (P.cn d), fldOf P.fls, fldOf_inj h1 h2, fun d => He.ga K (P.xn d)⟩
theorem find_nodup : ∀ {l : List DefE} {D : DefE}, (l.map (·.id)).Nodup → D ∈ l → l.find? (fun E => E.id == D.id) = some D
  | [], _, _, h => by cases h
  | E :: l, D, hn, h => by
    rw [List.map_cons, List.nodup_cons] at hn
    rw [List.find?_cons]
    rcases List.mem_cons.mp h with rfl | h
    · simp
    · have hne : (E.id == D.id) = false := by
        refine beq_eq_false_iff_ne.mpr fun z => hn.1 ?_
        rw [z]
        exact List.mem_map_of_mem h
      rw [hne]
      exact find_nodup hn.2 h
theorem vOf_mem {f : Nat} {D : DefE} (h : P.vOf f = some D) : D ∈ P.Vs ∧ D.id = f := ⟨List.mem_of_find?_eq_some h, by simpa using List.find?_some h⟩
theorem dOf_mem {f : Nat} {D : DefE} (h : P.dOf f = some D) : D ∈ P.Ds ∧ D.id = f := ⟨List.mem_of_find?_eq_some h, by simpa using List.find?_some h⟩
theorem cOf_mem {f : Nat} {C : ClsE} (h : P.cOf f = some C) : C ∈ P.Cs ∧ C.id = f := ⟨List.mem_of_find?_eq_some h, by simpa using List.find?_some h⟩
/-- binding -/
theorem look_zip : ∀ {ns : List Str} {us : List Value}, us.length = ns.length → ∀ n ∈ ns, ((ns.zip us).lookup n).isNone = false
  | [], _, _, n, h => by cases h
  | m :: ns, [], hl, n, h => by cases hl
  | m :: ns, u :: us, hl, n, h => by
    rw [List.zip_cons_cons, List.lookup_cons]
    cases e : n == m with
    | true => rfl
    | false =>
      rcases List.mem_cons.mp h with z | z
      · rw [z] at e; simp at e
      · exact look_zip (by simpa using hl) n z
theorem binds_zip : ∀ {ns : List Str} {us : List Value}, ns.Nodup → us.length = ns.length → ns.filterMap (fun n => ((ns.zip us).lookup n).map fun v => (n, v)) = ns.zip us
  | [], us, _, _ => by simp
  | m :: ns, [], _, hl => by cases hl
  | m :: ns, u :: us, hn, hl => by
    rw [List.nodup_cons] at hn
    have ih := binds_zip (us := us) hn.2 (by simpa using hl)
    rw [List.filterMap_cons]
    simp only [List.zip_cons_cons, List.lookup_cons, beq_self_eq_true, Option.map_some]
    congr 1
    refine Eq.trans ?_ ih
    refine fm_congr fun n hnn => ?_
    have e : (n == m) = false := beq_eq_false_iff_ne.mpr fun z => hn.1 (z ▸ hnn)
    simp only [e]
where
  fm_congr {α β : Type} {f g : α → Option β} : ∀ {l : List α}, (∀ x ∈ l, f x = g x) → l.filterMap f = l.filterMap g
    | [], _ => rfl
    | x :: l, h => by
      rw [List.filterMap_cons, List.filterMap_cons, h x (List.mem_cons_self ..), fm_congr fun y hy => h y (List.mem_cons_of_mem _ hy)]
theorem bind_any {name qual : Str} {as : List Arg} {body : List Stmt} {scope : Scope} (hn : (as.map (·.arg)).Nodup) (kV doc pm : Value) (an : Option Addr) (cdv ct : Value) (us : List Value) (hl : us.length = (as.map (·.arg)).length) :
    bindArgs (PySem.W.fnOf name qual ⟨[], as, none, [], [], none, []⟩ body scope .none kV doc pm an cdv ct) ⟨us, []⟩ = pure ((as.map (·.arg)).zip us) := by
  generalize hns : as.map (·.arg) = ns at hn hl
  have e1 : ns.filter (fun n => ((ns.zip us).lookup n).isNone) = [] := by
    rw [List.filter_eq_nil_iff]
    intro n h
    rw [look_zip hl n h]
    exact Bool.false_ne_true
  have e2 := binds_zip hn hl
  unfold bindArgs
  simp [PySem.W.fnOf, hns, hl, e1, e2, seqItems?]
  rfl

theorem plain_bind {x qual : Str} {a : Arguments} {body : List Stmt} {scope : Scope} {ps : List Str} {f : Addr} {fd : FuncData} (F : FunD K x qual a body scope [] [] f fd) (h : plainArgs a ps = true) (hn : ps.Nodup) :
    Binds K fd ps [] ∧ ∀ (s : Shared) (us : List Value), us.length = ps.length → BindsTo s fd ⟨us, []⟩ (ps.zip us) := by
  unfold plainArgs at h
  split at h
  · rename_i as
    rw [decide_eq_true_eq] at h
    subst h
    exact ⟨F.bindsN fun kV doc pm an cdv ct us hl => bind_any hn kV doc pm an cdv ct us hl, fun s us hl => F.bindsA (fun kV doc pm an cdv ct us hl => bind_any hn kV doc pm an cdv ct us hl) s us hl⟩
  · cases h
/-! the parts of PD.ok -/
theorem ok_parts (h : P.ok = true) : (∀ D ∈ P.Ds, D.ok P = true) ∧ ((P.Ds ++ P.Vs).map (·.id)).Nodup ∧ P.fls.Nodup ∧ (∀ s ∈ P.fls, s.cps[0]? ≠ some 0) ∧ (P.dfs = [] ∨ P.Cs ≠ []) ∧ P.stOk = true ∧ ∀ D ∈ P.Vs, D.okV P = true := by
  unfold PD.ok at h
  simp only [Bool.and_eq_true, List.all_eq_true, decide_eq_true_eq, Bool.or_eq_true, List.isEmpty_iff, Bool.not_eq_true'] at h
  obtain ⟨⟨h1, h7, h6⟩, h2, h3, h4, h5⟩ := h
  refine ⟨h1, h2, h3, h4, h5.imp id fun z e => ?_, h6, h7⟩
  rw [e] at z
  cases z
structure DOk (P : PD) (D : DefE) : Prop where
  sc : FnScope D.N (D.N.take D.f.np) D.d.scope
  fit : fB P.tb D.f.body ⟨D.N, D.d.scope, fun _ => true, true⟩ D.d.body = true
  ns : D.N.length = D.f.ns
  np : D.f.np ≤ D.f.ns
  ar : plainArgs D.d.params (D.N.take D.f.np) = true
  dfl : D.d.dfl = []
  kwd : D.d.kwd = []
theorem dok_of {D : DefE} (h : D.ok P = true) : DOk P D := by
  unfold DefE.ok at h
  simp only [Bool.and_eq_true, decide_eq_true_eq, List.isEmpty_iff] at h
  obtain ⟨⟨h1, h2⟩, ⟨h3, h4⟩, h5, h6, h7⟩ := h
  exact ⟨C8.fnScope_by h1, h2, h3, h4, h5, h6, h7⟩
theorem dokV_of {D : DefE} (h : D.okV P = true) : FnScope D.N (D.N.take D.f.np) D.d.scope ∧ fB P.tb D.f.body ⟨D.N, D.d.scope, fun _ => true, true⟩ D.d.body = true ∧ D.N.length = D.f.ns ∧ D.f.np ≤ D.f.ns ∧ starArgs D.d.params (D.N.take D.f.np) = true ∧ D.d.dfl = [] ∧ D.d.kwd = [] := by
  unfold DefE.okV at h
  simp only [Bool.and_eq_true, decide_eq_true_eq, List.isEmpty_iff] at h
  obtain ⟨⟨h1, h2⟩, ⟨h3, h4⟩, h5, h6, h7⟩ := h
  exact ⟨C8.fnScope_by h1, h2, h3, h4, h5, h6, h7⟩
theorem bind_star {name qual : Str} {a1 av : Arg} {body : List Stmt} {scope : Scope} (kV doc pm : Value) (an : Option Addr) (cdv ct : Value) (u : Value) (rest : List Value) :
    bindArgs (PySem.W.fnOf name qual ⟨[], [a1], some av, [], [], none, []⟩ body scope .none kV doc pm an cdv ct) ⟨u :: rest, []⟩ = (newTuple rest >>= fun t => pure [(a1.arg, u), (av.arg, t)]) := by
  have e : seqItems? Value.none = (pure none : Sem _) := rfl
  unfold bindArgs
  simp [PySem.W.fnOf, e, List.lookup]
/-- what the head tells -/
structure Told (P : PD) (K : PySem.W.Frag) (mg : Str → Option Value) (base : Heap) : Prop where
  ok : P.ok = true
  X : K.In base
  G : base.Ns mainGlobals mg
  c : He.SaysD P.fa P.fn K
  ex : P.ex K = true
theorem Told.free (t : Told P K mg base) : ∀ x ∈ bnames, mg x = none := fun x hx =>
  He.free_ok t.X t.G (t.c.facts (f := .free x) (List.mem_append_left _ (List.mem_append_left _ (List.mem_map_of_mem hx))))
theorem Told.glo (t : Told P K mg base) {D : DefE} (h : D ∈ P.Ds) (h2 : D.d.at_.2 = none) : mg D.d.at_.1 = some (.ref (He.fAd K D.d.at_)) := by
  have e : He.fAd K D.d.at_ = He.ga K D.d.at_.1 := by unfold He.fAd; rw [h2]
  rw [e]
  refine He.glo_ok t.X t.G (t.c.facts (f := .glo D.d.at_.1) (List.mem_append_left _ (List.mem_append_right _ (List.mem_filterMap.mpr ⟨D, h, ?_⟩))))
  simp only [h2]
theorem Told.cls (t : Told P K mg base) {C : ClsE} (h : C ∈ P.Cs) : mg C.name = some (.ref (He.ga K C.name)) ∧ Cls K (He.ga K C.name) ∧ ∀ f ∈ P.dfs, NoAttr K (He.ga K C.name) (fldOf P.fls f) := by
  have mem : ∀ f : He.Fa, f ∈ (.glo C.name :: .cls C.name :: P.dfs.map fun f => .noat C.name (fldOf P.fls f) : List He.Fa) → f.ok K = true := fun f hf =>
    t.c.facts (List.mem_append_right _ (List.mem_append_left _ (List.mem_append_right _ (List.mem_flatMap.mpr ⟨C, h, hf⟩))))
  refine ⟨He.glo_ok t.X t.G (mem _ (List.mem_cons_self ..)), He.cls_ok (mem (.cls C.name) (List.mem_cons_of_mem _ (List.mem_cons_self ..))), fun f hf => He.noat_ok (mem (.noat C.name (fldOf P.fls f)) ?_)⟩
  exact List.mem_cons_of_mem _ (List.mem_cons_of_mem _ (List.mem_map_of_mem hf))
theorem Told.init (t : Told P K mg base) {D : DefE} {x : Str} (h : D ∈ P.Ds ++ P.Vs) (h2 : D.d.at_ = (x, some ("__init__" : Str))) : Mk K (He.ga K x) (He.fAd K D.d.at_) := by
  have e : He.fAd K D.d.at_ = He.ma K (He.ga K x) "__init__" := by rw [h2]; rfl
  rw [e]
  refine He.mkr_ok (t.c.facts (f := .mkr x) (List.mem_append_right _ (List.mem_append_left _ (List.mem_append_left _ (List.mem_filterMap.mpr ⟨D, h, ?_⟩)))))
  rw [h2]
  rfl
theorem Told.meth (t : Told P K mg base) {D : DefE} {x m : Str} (h : D ∈ P.Ds ++ P.Vs) (h2 : D.d.at_ = (x, some m)) (h3 : m ≠ ("__init__" : Str)) : Meth K (He.ga K x) m (He.fAd K D.d.at_) := by
  have e : He.fAd K D.d.at_ = He.ma K (He.ga K x) m := by rw [h2]; rfl
  rw [e]
  refine He.meth_ok (t.c.facts (f := .meth x m) (List.mem_append_right _ (List.mem_append_left _ (List.mem_append_left _ (List.mem_filterMap.mpr ⟨D, h, ?_⟩)))))
  rw [h2]
  exact if_neg h3
theorem Told.cst (t : Told P K mg base) {g : Nat} {x : Str} {v : PV} (h : (g, x, v) ∈ P.cst) : ∃ (w : V) (u : Value), mg x = some u ∧ RelV w u ∧ ∀ ι H, Rv K ι H w v := by
  have mem : ∀ f : He.Fa, f ∈ cstF v x → f.ok K = true := fun f hf => t.c.facts (List.mem_append_right _ (List.mem_append_right _ (List.mem_append_left _ (List.mem_flatMap.mpr ⟨_, h, hf⟩))))
  have e := List.all_eq_true.mp (Bool.and_eq_true_iff.mp t.ex).1 _ h
  cases v with
  | int i =>
    obtain ⟨tk, hm⟩ := He.int_ok t.X t.G (mem (.int x i) (List.mem_cons_self ..))
    exact ⟨.int i, _, hm, ⟨tk, rfl⟩, fun ι H => .int i⟩
  | str s =>
    obtain ⟨tk, hm⟩ := He.str_ok t.X t.G (mem (.str x (toS s)) (List.mem_cons_self ..))
    exact ⟨.str (toS s), _, hm, ⟨tk, rfl⟩, fun ι H => .str s⟩
  | tup vs =>
    have hm := He.glo_ok t.X t.G (mem (.glo x) (List.mem_cons_self ..))
    cases el : tupS vs with
    | none => simp only [el] at e; cases e
    | some l =>
      simp only [el] at e
      exact ⟨.ref (He.ga K x), _, hm, rfl, fun ι H => .tup (He.tupB_ok e H) (tupS_rv el)⟩
  | _ => cases e
theorem Told.exc (t : Told P K mg base) {d : Nat} {C : ClsE} (h : P.xOf d = some C) : mg C.name = some (.ref (He.ga K (P.xn d))) ∧ PySem.W.excIn K (He.ga K (P.xn d)) He.veBase "ValueError.__new__" = true ∧ PySem.W.keepIn K (.ref (He.ga K (P.xn d))) = true ∧ PySem.W.subIn K (.ref (He.ga K (P.xn d))) (.type "BaseException") = some true ∧
    PySem.W.typeIn K (.ref (He.ga K (P.xn d))) = some (.type "type") := by
  have e : P.xn d = C.name := by
    unfold PD.xn
    rw [h]
  have hC : C ∈ P.Xs := List.mem_of_find?_eq_some h
  have mem : ∀ f : He.Fa, f ∈ ([.glo C.name, .exc C.name] : List He.Fa) → f.ok K = true := fun f hf =>
    t.c.facts (List.mem_append_right _ (List.mem_append_right _ (List.mem_append_right _ (List.mem_flatMap.mpr ⟨C, hC, hf⟩))))
  rw [e]
  obtain ⟨a1, a2, a3, a4⟩ := He.exc_ok (mem (.exc C.name) (List.mem_cons_of_mem _ (List.mem_cons_self ..)))
  exact ⟨He.glo_ok t.X t.G (mem (.glo C.name) (List.mem_cons_self ..)), a1, a2, a3, a4⟩
theorem Told.xm (t : Told P K mg base) {d : Nat} {C : Option Nat} {b : Bool} (h : P.tb.xm d C = some b) : P.xmB K (d, C, b) = true := by
  have h0 : ((P.xms.find? fun q => q.1 == d && decide (q.2.1 = C)).map (·.2.2)) = some b := h
  obtain ⟨q, hq, rfl⟩ := Option.map_eq_some_iff.mp h0
  have hp := List.find?_some hq
  rw [Bool.and_eq_true, decide_eq_true_eq] at hp
  obtain ⟨d', C', b'⟩ := q
  have e1 : d' = d := by simpa using hp.1
  have e2 : C' = C := hp.2
  subst e1 e2
  exact List.all_eq_true.mp (Bool.and_eq_true_iff.mp t.ex).2 _ (List.mem_of_find?_eq_some hq)
theorem callW_len {G : Nat → Option PF} {d f : Nat} {vs : List PV} {M : Mem} {Q : Kt} {Z : Xt} (h : callW G (d + 1) f vs M Q Z) : ∃ F, G f = some F ∧ vs.length = F.np ∧ wS (callW G d) F.body (vs.map some ++ List.replicate (F.ns - F.np) none) M { nx := fun _ M1 => Q .non M1, rt := Q, ct := fun _ _ => False, ex := Z } := by
  have h0 : (match G f with
    | some F => callF (callW G d) F vs M Q Z
    | none => False) := h
  cases e : G f with
  | none => rw [e] at h0; exact h0.elim
  | some F =>
    rw [e] at h0
    have h1 : (match vs.length == F.np with
      | true => wS (callW G d) F.body (vs.map some ++ List.replicate (F.ns - F.np) none) M { nx := fun _ M1 => Q .non M1, rt := Q, ct := fun _ _ => False, ex := Z }
      | false => False) := h0
    cases e2 : (vs.length == F.np) with
    | false => rw [e2] at h1; exact h1.elim
    | true =>
      rw [e2] at h1
      exact ⟨F, rfl, by simpa using e2, h1⟩
/-- the slots at the start -/
theorem start_ok {nm : Nm} {ι : List Addr} {H : Hp} {M : Mem} {vs : List V} {ps : List PV} {N : List Str} {np : Nat} (m : Rm nm K ι H M) (r : Rvs K ι H vs ps) (h1 : ps.length = np) (h2 : np ≤ N.length) : Sim nm K ι H M (L2.start N vs) (ps.map some ++ List.replicate (N.length - np) none) := by
  refine ⟨m, fun i p hp => ?_, ?_⟩
  · by_cases hi : i < ps.length
    · rw [List.getElem?_append_left (by simpa using hi), List.getElem?_map] at hp
      cases e : ps[i]? with
      | none => rw [e] at hp; cases hp
      | some q =>
        rw [e] at hp
        cases hp
        obtain ⟨v, hv, rv⟩ := r.get e
        refine ⟨v, ?_, rv⟩
        unfold L2.start
        rw [List.getElem?_append_left (by rw [List.length_map, r.length]; exact hi), List.getElem?_map, hv]
        rfl
    · rw [List.getElem?_append_right (by simpa using Nat.le_of_not_lt hi), List.getElem?_replicate] at hp
      split at hp <;> cases hp
  · unfold L2.start
    simp only [List.length_append, List.length_map, List.length_replicate, r.length]
    omega
theorem fun_lk {name qual : Str} {params : Arguments} {scope : Scope} {body : List Stmt} {f : Addr} {fd : FuncData} (F : FunD K name qual params body scope [] [] f fd) : ∃ (oc : Value) (od : Option Addr) (osl : Array (Option Value)), K.lookup f = some ⟨oc, od, .func fd, osl⟩ := by
  obtain ⟨oc, od, dV, kV, doc, pm, an, cdv, ct, osl, _, lk, _⟩ := F.ex
  exact ⟨oc, od, osl, lk⟩
theorem str_told {name qual : Str} {params : Arguments} {scope : Scope} {N : List Str} {body : List Stmt} {f : Addr} {fd : FuncData} {np : Nat} (F : FunD K name qual params body scope [] [] f fd) (S : FnScope N (N.take np) scope) (hb : ∀ (s : Shared) (us : List Value), us.length = (N.take np).length → BindsTo s fd ⟨us, []⟩ ((N.take np).zip us)) (h1 : np = 1) (h : strOk scope N body = true) :
    StrRun PR w K mg base 1 f := by
  subst h1
  unfold strOk at h
  split at h
  · rename_i a0 k1 _ _ k2 _ _ k3 _ _ k4 _ _ y1 _ _ y2 _ _ y3 _ _ y4 _ _ _ g ap x1 _ x2 _ cp _
    simp only [Bool.and_eq_true, decide_eq_true_eq, Bool.not_eq_true'] at h
    obtain ⟨⟨⟨rfl, rfl, rfl, rfl⟩, rfl, rfl, rfl, rfl⟩, ⟨⟨rfl, rfl, rfl⟩, hl⟩, lo, d0, c0⟩ := h
    exact str_run rfl F S (fun s us hl => hb s us hl) lo d0 c0 hl
  · cases h
theorem fnr_of_X {k : Nat} {f : Addr} {nm : Nm} {c : CE} {id : Nat} (F : FnR PR w K mg base (L2.CX PR w) k f (spR (spX nm K c id))) : FnR PR w K mg base CX0 k f (spV nm K c id) :=
  fun A outer s H us vs Q E hr he hv ⟨v, rest, ev, hz, h⟩ => codeAny_mono (F A outer s H us vs Q E0 hr he hv ⟨v, rest, ev, hz, fun p hp => by
    obtain ⟨ι, M, ps', Qp, m, r, hc, kk⟩ := h p hp
    exact ⟨ι, M, ps', Qp, X0, m, r, hc, kk, fun _ _ _ z => z.elim⟩⟩) fun r s' q => by
    cases r with
    | error e =>
      obtain ⟨_, _, _, _, _, _, _, _, _, _, _, _, z⟩ := (show L2.CX PR w outer H s E0 e s' from q)
      exact z.elim
    | ok fl => cases fl <;> exact q
/-- every def keeps what its tree says, d calls deep -/
def AllAt (P : PD) (PR : Program) (w : World) (K : PySem.W.Frag) (mg : Str → Option Value) (base : Heap) (h3 : P.fls.Nodup) (h4 : ∀ s ∈ P.fls, s.cps[0]? ≠ some 0) (d : Nat) : Prop :=
  (∀ D ∈ P.Ds, ∃ fd, Binds K fd (D.N.take D.f.np) [] ∧ (∀ (s : Shared) (us : List Value), us.length = (D.N.take D.f.np).length → BindsTo s fd ⟨us, []⟩ ((D.N.take D.f.np).zip us)) ∧
    PySem.W.keepIn K (.ref (He.fAd K D.d.at_)) = true ∧ (∃ (oc : Value) (od : Option Addr) (osl : Array (Option Value)), K.lookup (He.fAd K D.d.at_) = some ⟨oc, od, .func fd, osl⟩) ∧ FnOk PR w K mg base (L2.CX PR w) (2 * d) (He.fAd K D.d.at_) fd (D.N.take D.f.np) (spX (P.nm PR w K h3 h4) K (callW P.G d) D.id)) ∧
  ∀ D ∈ P.Vs, FnR PR w K mg base (L2.CX PR w) (2 * d) (He.fAd K D.d.at_) (spR (spX (P.nm PR w K h3 h4) K (callW P.G d) D.id))
theorem fun_at (t : Told P K mg base) {D : DefE} (hD : D ∈ P.Ds ++ P.Vs) (e3 : D.d.dfl = []) (e4 : D.d.kwd = []) : ∃ fd, FunD K D.d.name D.d.qual D.d.params D.d.body D.d.scope [] [] (He.fAd K D.d.at_) fd := by
  obtain ⟨fd, F⟩ := t.c.defs (List.mem_map_of_mem (f := fun D : DefE => D.d) hD)
  have e1 : D.d.dvs K = [] := by unfold He.DefD.dvs; rw [e3]; rfl
  have e2 : D.d.kws K = [] := by unfold He.DefD.kws; rw [e4]; rfl
  rw [e1, e2] at F
  exact ⟨fd, F⟩
theorem body_at (t : Told P K mg base) (h3 : P.fls.Nodup) (h4 : ∀ s ∈ P.fls, s.cps[0]? ≠ some 0) {d : Nat} (ih : AllAt P PR w K mg base h3 h4 d) {D : DefE} (sc : FnScope D.N (D.N.take D.f.np) D.d.scope) (fit : fB P.tb D.f.body ⟨D.N, D.d.scope, fun _ => true, true⟩ D.d.body = true) (ns : D.N.length = D.f.ns) (np : D.f.np ≤ D.f.ns) (hG : P.G D.id = some D.f)
    (cdv : Value) (A : Around) (outer : List Env) (s : Shared) (H : Hp) (vs : List V) (Q : VK) (E : XK) (hr : Room (2 * d + 1) (A.deeper (envOfC D.d.qual D.d.scope s.heap.objs.size (He.fAd K D.d.at_) cdv))) (hsp : spX (P.nm PR w K h3 h4) K (callW P.G (d + 1)) D.id vs H Q E) :
    ∃ t, PSs (cxOf (L2.CX PR w) PR w K mg base D.N D.d.qual D.d.scope (He.fAd K D.d.at_) cdv A outer s H E) D.d.body t ∧ t { nx := fun _ H' => Q .non H', rt := Q } (start D.N vs) H := by
  obtain ⟨ι, M, ps, Qp, Xp, m, r, hc, kk, kx⟩ := hsp
  obtain ⟨k1, k2, _, _, k5, k6, _⟩ := ok_parts t.ok
  have fun_ : ∀ D ∈ P.Ds, ∃ fd, FunD K D.d.name D.d.qual D.d.params D.d.body D.d.scope [] [] (He.fAd K D.d.at_) fd := fun D hD => fun_at t (List.mem_append_left _ hD) (dok_of (k1 D hD)).dfl (dok_of (k1 D hD)).kwd
  obtain ⟨F', e1, e2, hb⟩ := callW_len hc
  rw [hG] at e1
  cases e1
  refine ⟨tS (P.nm PR w K h3 h4) K (fun cls d _ H => E cls d H) (SW (callW P.G d) D.f.body), (sndB P.tb (callW P.G d) (P.nm PR w K h3 h4) D.f.body ⟨D.N, D.d.scope, fun _ => true, true⟩ _ _ ?hy (takes_of rfl rfl rfl rfl)).2 _ fit, ?_⟩
  rotate_left
  · refine ⟨ι, _, M, { nx := fun _ M1 => Qp .non M1, rt := Qp, ct := fun _ _ => False, ex := Xp }, start_ok (np := D.f.np) m r e2 (by rw [ns]; exact np), ?_, ?_⟩
    · rw [ns]
      exact hb
    · exact ⟨fun ρ' M' h ι' H' σ' e sm => kk .non M' h ι' H' .non e sm.m .non, kk, fun _ _ z => z.elim, fun c fs M' h ι' H' σ' cls dd e m x => kx c fs M' h ι' H' cls dd e m x⟩
  · have hr0 : Room (2 * d) (A.deeper (envOfC D.d.qual D.d.scope s.heap.objs.size (He.fAd K D.d.at_) cdv)) := hr.mono (Nat.le_succ _)
    refine ⟨rfl, rfl, rfl, sc.kind, sc.nd, rfl, passes_of rfl, ?_, rfl, rfl, t.free, rfl, ?_, ?_, ?_, ?_, ?_, ?_, ?_, ?_, ?_, ?_, ?_, ?_⟩
    · have := hr.un
      show (A.deeper (envOfC D.d.qual D.d.scope s.heap.objs.size (He.fAd K D.d.at_) cdv)).units + 65 < cLine
      omega
    · intro f x hx
      unfold PD.tb at hx
      cases e : P.dOf f with
      | none => simp only [e] at hx; cases hx
      | some E =>
        simp only [e] at hx
        cases e2 : E.d.at_.2 with
        | some m => simp only [e2] at hx; cases hx
        | none =>
          simp only [e2] at hx
          cases hx
          obtain ⟨hE, rfl⟩ := dOf_mem e
          obtain ⟨fdE, q1, _, q3, _, q4⟩ := ih.1 E hE
          exact ⟨2 * d, _, fdE, _, fn_of_X q4, hr0, t.glo hE e2, q3, q1⟩
    · intro cd f x hx
      unfold PD.tb at hx
      cases e : P.cOf cd with
      | none => simp only [e] at hx; cases hx
      | some C =>
        cases e' : P.dOf f with
        | none => simp only [e, e'] at hx; cases hx
        | some E =>
          simp only [e, e'] at hx
          split at hx
          · rename_i hat
            cases hx
            obtain ⟨hE, rfl⟩ := dOf_mem e'
            obtain ⟨hC, rfl⟩ := cOf_mem e
            obtain ⟨fdE, q1, _, q3, _, q4⟩ := ih.1 E hE
            have ec : (P.nm PR w K h3 h4).cls C.id = He.ga K C.name := by
              show He.ga K (P.cn C.id) = _
              unfold PD.cn
              rw [e]
            refine ⟨2 * d, He.fAd K E.d.at_, fdE, _, ?_, fn_of_X q4, hr, ?_, q1⟩
            · rw [ec]; exact t.init (List.mem_append_left _ hE) hat
            · rw [ec]; exact (t.cls hC).1
          · cases hx
    · intro cd m f hx
      unfold PD.tb at hx
      cases e : P.cOf cd with
      | none => simp only [e] at hx; cases hx
      | some C =>
        cases e' : P.dOf f with
        | none => simp only [e, e'] at hx; cases hx
        | some E =>
          simp only [e, e', Bool.and_eq_true, decide_eq_true_eq, Bool.not_eq_true', decide_eq_false_iff_not] at hx
          obtain ⟨hE, rfl⟩ := dOf_mem e'
          obtain ⟨hC, rfl⟩ := cOf_mem e
          obtain ⟨fdE, q1, _, q3, _, q4⟩ := ih.1 E hE
          have ec : (P.nm PR w K h3 h4).cls C.id = He.ga K C.name := by
            show He.ga K (P.cn C.id) = _
            unfold PD.cn
            rw [e]
          refine ⟨2 * d, He.fAd K E.d.at_, fdE, _, ?_, ?_, fn_of_X q4, hr0, q1⟩
          · rw [ec]; exact (t.cls hC).2.1
          · rw [ec]; exact t.meth (List.mem_append_left _ hE) hx.1 hx.2
    · intro cd m f hx
      unfold PD.tb at hx
      cases e : P.cOf cd with
      | none => simp only [e] at hx; cases hx
      | some C =>
        cases e' : P.vOf f with
        | none => simp only [e, e'] at hx; cases hx
        | some E =>
          simp only [e, e', Bool.and_eq_true, decide_eq_true_eq, Bool.not_eq_true', decide_eq_false_iff_not] at hx
          obtain ⟨hE, rfl⟩ := vOf_mem e'
          obtain ⟨hC, rfl⟩ := cOf_mem e
          have ec : (P.nm PR w K h3 h4).cls C.id = He.ga K C.name := by
            show He.ga K (P.cn C.id) = _
            unfold PD.cn
            rw [e]
          refine ⟨2 * d, He.fAd K E.d.at_, ?_, ?_, fnr_of_X (ih.2 E hE), hr0⟩
          · rw [ec]; exact (t.cls hC).2.1
          · rw [ec]; exact t.meth (List.mem_append_right _ hE) hx.1 hx.2
    · intro f hf cd
      have hf' : f ∈ P.dfs := by
        have : P.dfs.contains f = true := hf
        simpa using this
      have hne : P.Cs ≠ [] := k5.elim (fun z => by rw [z] at hf'; cases hf') id
      have key : ∃ C ∈ P.Cs, P.cn cd = C.name := by
        unfold PD.cn
        cases e : P.cOf cd with
        | some C => exact ⟨C, (cOf_mem e).1, rfl⟩
        | none =>
          cases hcs : P.Cs with
          | nil => exact absurd hcs hne
          | cons C r => exact ⟨C, List.mem_cons_self .., rfl⟩
      obtain ⟨C, hC, ec⟩ := key
      show Cls K (He.ga K (P.cn cd)) ∧ NoAttr K (He.ga K (P.cn cd)) (fldOf P.fls f)
      rw [ec]
      exact ⟨(t.cls hC).2.1, (t.cls hC).2.2 f hf'⟩
    · intro x hx
      unfold PD.tb at hx
      cases e0 : P.st with
      | none => simp only [e0] at hx; cases hx
      | some f =>
        cases e : P.dOf f with
        | none => simp only [e0, e] at hx; cases hx
        | some E =>
          simp only [e0, e] at hx
          cases e2 : E.d.at_.2 with
          | some m => simp only [e2] at hx; cases hx
          | none =>
            simp only [e2] at hx
            cases hx
            obtain ⟨hE, rfl⟩ := dOf_mem e
            obtain ⟨fdE, FE_⟩ := fun_ E hE
            have oE := dok_of (k1 E hE)
            have ndE : (E.N.take E.f.np).Nodup := oE.sc.nd.sublist (List.take_sublist ..)
            obtain ⟨_, bE⟩ := plain_bind FE_ oE.ar ndE
            unfold PD.stOk at k6
            simp only [e0, e, Bool.and_eq_true, decide_eq_true_eq] at k6
            exact ⟨1, _, str_told FE_ oE.sc (k6.1 ▸ bE) k6.1 k6.2, hr.mono (by omega), t.glo hE e2, FE_.kp⟩
    · exact fun _ => List.mem_filterMap.mpr ⟨_, List.mem_cons_self .., rfl⟩
    · intro f x hx
      unfold PD.tb at hx
      cases e : P.dOf f with
      | none => simp only [e] at hx; cases hx
      | some E =>
        simp only [e] at hx
        cases e2 : E.d.at_.2 with
        | some m => simp only [e2] at hx; cases hx
        | none =>
          simp only [e2] at hx
          cases hx
          obtain ⟨hE, rfl⟩ := dOf_mem e
          obtain ⟨fdE, q1, _, q3, _, q4⟩ := ih.1 E hE
          exact ⟨2 * d, _, fdE, _, q4, hr0, t.glo hE e2, q3, q1⟩
    · exact fun _ => ⟨rfl, rfl⟩
    · intro d x hx
      obtain ⟨C, hC, rfl⟩ := Option.map_eq_some_iff.mp (show (P.xOf d).map (·.name) = some x from hx)
      exact t.exc hC
    · intro d C b hx
      have q := t.xm hx
      unfold PD.xmB at q
      rw [Bool.and_eq_true] at q
      refine ⟨xcB_ok q.1, ?_⟩
      have q2 := q.2
      cases C with
      | none => exact of_decide_eq_true q2
      | some e =>
        rw [Bool.and_eq_true, decide_eq_true_eq, decide_eq_true_eq] at q2
        exact q2
    · intro g x v hx
      unfold PD.tb at hx
      cases e : P.cst.find? (fun q => q.1 == g) with
      | none => simp only [e] at hx; cases hx
      | some q =>
        simp only [e] at hx
        obtain ⟨g', x', v'⟩ := q
        cases hx
        exact t.cst (List.mem_of_find?_eq_some e)

theorem fn_all (t : Told P K mg base) (h3 : P.fls.Nodup) (h4 : ∀ s ∈ P.fls, s.cps[0]? ≠ some 0) : ∀ d : Nat, AllAt P PR w K mg base h3 h4 d := by
  obtain ⟨k1, k2, _, _, _, _, k7⟩ := ok_parts t.ok
  have hGo : ∀ D ∈ P.Ds ++ P.Vs, P.G D.id = some D.f := fun D hD => by
    unfold PD.G
    rw [find_nodup k2 hD]
    rfl
  intro d
  induction d with
  | zero =>
    refine ⟨fun D hD => ?_, fun D hD => ?_⟩
    · have o := dok_of (k1 D hD)
      obtain ⟨fd, F⟩ := fun_at t (List.mem_append_left _ hD) o.dfl o.kwd
      have nd : (D.N.take D.f.np).Nodup := o.sc.nd.sublist (List.take_sublist ..)
      obtain ⟨b1, b2⟩ := plain_bind F o.ar nd
      have lk := fun_lk F
      exact ⟨fd, b1, b2, F.kp, lk, ⟨fun vs H Q E ⟨_, _, _, _, _, _, _, z, _⟩ => z.elim, fun A outer s H args us vs Q E hr he hb hv ⟨_, _, _, _, _, _, _, z, _⟩ => z.elim⟩⟩
    · intro A outer s H us vs Q E hr e0 r ⟨v, rest, ev, hz, h⟩
      obtain ⟨_, _, _, _, _, _, _, z, _⟩ := h _ (e0.hok.fresh (Nat.le_refl _))
      exact z.elim
  | succ d ih =>
    refine ⟨fun D hD => ?_, fun D hD => ?_⟩
    · have o := dok_of (k1 D hD)
      obtain ⟨fd, F⟩ := fun_at t (List.mem_append_left _ hD) o.dfl o.kwd
      have nd : (D.N.take D.f.np).Nodup := o.sc.nd.sublist (List.take_sublist ..)
      obtain ⟨b1, b2⟩ := plain_bind F o.ar nd
      have hG := hGo D (List.mem_append_left _ hD)
      have hl : (D.N.take D.f.np).length = D.f.np := by rw [List.length_take, o.ns]; exact Nat.min_eq_left o.np
      refine ⟨fd, b1, b2, F.kp, fun_lk F, ?_⟩
      refine F.ok (k := 2 * d + 1) o.sc (fun vs H Q E ⟨ι, M, ps, Qp, Xp, m, r, hc, _⟩ => ?_) (body_at t h3 h4 ih o.sc o.fit o.ns o.np hG)
      obtain ⟨F', e1, e2, _⟩ := callW_len hc
      rw [hG] at e1
      cases e1
      rw [r.length, e2, hl]
    · obtain ⟨sc, fit, ns, np, ar, dfl, kwd⟩ := dokV_of (k7 D hD)
      obtain ⟨fd, F⟩ := fun_at t (List.mem_append_right _ hD) dfl kwd
      have hG := hGo D (List.mem_append_right _ hD)
      obtain ⟨oc, od, dV, kV, doc, pm, an, cdv, ct, osl, rfl, lk, hcd, hDf, hK⟩ := F.ex
      have edV : dV = .none := by
        rcases hDf with ⟨_, e⟩ | ⟨e, _⟩
        · exact e
        · exact absurd rfl e
      subst edV
      have bo := body_at (PR := PR) (w := w) t h3 h4 ih sc fit ns np hG cdv
      obtain ⟨a1, av, ea, ep, hne⟩ : ∃ a1 av : Arg, D.d.params = ⟨[], [a1], some av, [], [], none, []⟩ ∧ D.N.take D.f.np = [a1.arg, av.arg] ∧ a1.arg ≠ av.arg := by
        unfold starArgs at ar
        split at ar
        · rename_i a1 av e
          simp only [Bool.and_eq_true, decide_eq_true_eq, Bool.not_eq_true', decide_eq_false_iff_not] at ar
          exact ⟨a1, av, e, ar.1, ar.2⟩
        · cases ar
      rw [ep] at sc
      rw [ea] at lk
      have R := StX.fn_star (ps := [a1.arg]) (pv := av.arg) (CX := L2.CX PR w) (P := PR) (w := w) (mg := mg) (base := base) (k := 2 * d + 1) (sp := spX (P.nm PR w K h3 h4) K (callW P.G (d + 1)) D.id) lk hcd sc StX.cxUp (fun us rest hl => by
        match us, hl with
        | [u], _ => exact bind_star kV doc pm an cdv ct u rest) bo
      exact R.imp fun vs H Q E ⟨v, rest, ev, hz, h⟩ => ⟨[v], rest, ev, rfl, hz, h⟩
/-- a law's end -/
theorem law_F (PR : Program) (hok : P.ok = true) {D : DefE} (hD : D ∈ P.Ds) (hat : D.d.at_ = (("law" : Str), none)) (hN : D.N.take D.f.np = [("script" : Str)]) {d n : Nat} (math : ∀ ns : List Int, ns.length ≤ n → callW P.G d D.id [.scr ns] [] (fun v _ => v = .bl true) X0)
    (w : World) (mg : Str → Option Value) (fa : Addr) (h : Heap) (Y : (He.hookX 4 P.fa P.fn [] [] P.ex).says w h) (G : h.Ns mainGlobals mg) (hm : mg ("law" : Str) = some (.ref fa)) :
    ∃ (K : PySem.W.Frag) (fd : FuncData) (sp : Sp), K.In h ∧ (∀ (s : Shared) (u : Value), BindsTo s fd ⟨[u], []⟩ [(("script" : Str), u)]) ∧
      (∀ (H : Hp) (a : Addr) (ns : List Int), ns.length ≤ n → Only H → SqL K H a (ns.map V.int) → sp [.ref a] H (fun v _ => v = .bl true) fun _ _ _ => False) ∧ ∀ base : Heap, K.In base → base.Ns mainGlobals mg → FnOk PR w K mg base CX0 (2 * d) fa fd [("script" : Str)] sp := by
  obtain ⟨K, KX, c⟩ := Y
  obtain ⟨_, _, h3, h4, _, _, _⟩ := ok_parts hok
  have t0 : ∀ base, K.In base → base.Ns mainGlobals mg → Told P K mg base := fun base a b => ⟨hok, a, b, c.t.d, c.more⟩
  have ef : fa = He.fAd K D.d.at_ := by
    have e := (t0 h KX G).glo hD (by rw [hat])
    rw [hat] at e
    have e2 := hm.symm.trans e
    cases e2
    rw [hat]
  subst ef
  obtain ⟨fd, b1, b2, _, ⟨oc, od, osl, lk⟩, _⟩ := (fn_all (PR := PR) (w := w) (t0 h KX G) h3 h4 d).1 D hD
  rw [hN] at b2
  refine ⟨K, fd, spW (P.nm PR w K h3 h4) K (callW P.G d) D.id, KX, fun s u => b2 s [u] rfl, fun H a ns hl hO hS => ?_, fun base hK hG => ?_⟩
  · have fz : FzL K H a (ns.map V.int) := by
      rcases hS with (z | z) | z
      · rcases hO a with y | ⟨o, xs, y⟩
        · rw [y] at z; cases z
        · rw [y] at z; cases z
      · exact .inl z
      · exact .inr z
    refine ⟨[], [], [.scr ns], fun v _ => v = .bl true, ⟨rfl, List.nodup_nil, fun n a o e => by simp at e⟩, .cons (.scr fz) .nil, math ns hl, fun p M' hp ι' H' v e m r => ?_⟩
    subst hp
    cases r
    rfl
  · obtain ⟨fd', _, _, _, ⟨oc', od', osl', lk'⟩, F⟩ := (fn_all (PR := PR) (w := w) (t0 base hK hG) h3 h4 d).1 D hD
    rw [lk] at lk'
    cases lk'
    rw [hN] at F
    exact fn_of_X F
end
end Qt
namespace Qt
def g_CLASSES : PV := (.tup [(.str [98, 108, 97, 110, 107]), (.str [98, 114, 97, 99, 107, 101, 116]), (.str [100, 97, 115, 104]), (.str [113, 117, 111, 116, 101]), (.str [115, 116, 97, 114, 116])])
def g_CLOSING : PV := (.str [62, 125])
def g_DIGITS : PV := (.str [49])
def g_KINDS : PV := (.tup [(.str [98, 101, 115, 105, 100, 101]), (.str [110, 101, 115, 116, 101, 100]), (.str [116, 117, 114, 110, 115])])
def g_LETTERS : PV := (.str [97, 98])
def g_MOST_TEXT : PV := (.int 60)
def g_OPENING : PV := (.str [60, 123])
def g_PLAIN : PV := (.str [32, 40, 41, 46, 45, 49, 97, 98])
def g_SIGNS : PV := (.str [32, 40, 41, 46, 45, 49, 97, 98, 34, 39, 60, 123, 62, 125])
def g_STRAIGHT : PV := (.str [34, 39])
def q__wall_wc0 : PX := (.k (.bl true))
def q__wall_wb1 : PY := .skip
def q__wall_b : PY := (.while_ q__wall_wc0 q__wall_wb1)
def q__wall : PF := ⟨1, 1, q__wall_b⟩
def q_is_sign_b : PY := (.ret (.and (.bi (.isi .str) (.cons (.v 0) .nil)) (.and (.cmp .eq (.bi .len (.cons (.v 0) .nil)) (.k (.int 1))) (.cmp .in_ (.v 0) (.gl 18 g_SIGNS)))))
def q_is_sign : PF := ⟨1, 1, q_is_sign_b⟩
def q_is_text_el0 : PX := (.cmp .in_ (.v 1) (.gl 18 g_SIGNS))
def q_is_text_b : PY := (.ret (.and (.bi (.isi .str) (.cons (.v 0) .nil)) (.and (.cmp .le (.bi .len (.cons (.v 0) .nil)) (.gl 11 g_MOST_TEXT)) (.bi .all (.cons (.lc [1] true (.itv (.v 0)) (.k (.bl true)) q_is_text_el0) .nil)))))
def q_is_text : PF := ⟨1, 2, q_is_text_b⟩
def q_is_manner_el0 : PX := (.and (.bi (.isi .str) (.cons (.v 5) .nil)) (.cmp .in_ (.v 5) (.gl 1 g_CLASSES)))
def q_is_manner_el1 : PX := (.cmp .lt (.v 6) (.v 7))
def q_is_manner_b : PY := (.seq (.if_ (.or (.not (.bi (.isi .tuple) (.cons (.v 0) .nil))) (.or (.cmp .ne (.bi .len (.cons (.v 0) .nil)) (.k (.int 4))) (.or (.not (.bi (.isi .str) (.cons (.ix (.v 0) (.k (.int 0))) .nil))) (.cmp .notin (.ix (.v 0) (.k (.int 0))) (.gl 5 g_KINDS))))) (.ret (.k (.bl false))) .skip) (.seq (.unp [1, 2, 3, 4] (.v 0)) (.seq (.if_ (.or (.not (.bi (.isi .tuple) (.cons (.v 2) .nil))) (.or (.not (.bi (.isi .bool) (.cons (.v 3) .nil))) (.not (.bi (.isi .bool) (.cons (.v 4) .nil))))) (.ret (.k (.bl false))) .skip) (.seq (.if_ (.not (.bi .all (.cons (.lc [5] true (.itv (.v 2)) (.k (.bl true)) q_is_manner_el0) .nil))) (.ret (.k (.bl false))) .skip) (.ret (.and (.bi .all (.cons (.lc [6, 7] false (.zip2 (.v 2) (.sl (.v 2) (.itv (.k (.int 1))) .no)) (.k (.bl true)) q_is_manner_el1) .nil)) (.or (.cmp .eq (.v 1) (.k (.str [98, 101, 115, 105, 100, 101]))) (.cmp .eq (.v 2) (.tp .nil)))))))))
def q_is_manner : PF := ⟨1, 8, q_is_manner_b⟩
def q_need_manner_b : PY := (.if_ (.not (.call 142 (.cons (.v 0) .nil))) .never .skip)
def q_need_manner : PF := ⟨1, 1, q_need_manner_b⟩
def q_need_text_b : PY := (.if_ (.not (.call 149 (.cons (.v 0) .nil))) .never .skip)
def q_need_text : PF := ⟨1, 1, q_need_text_b⟩
def q_straight_of_b : PY := (.ret (.bm .get (.ds (.cons (.k (.str [60])) (.cons (.k (.str [62])) (.cons (.k (.str [123])) (.cons (.k (.str [125])) .nil)))) (.cons (.k (.str [34])) (.cons (.k (.str [34])) (.cons (.k (.str [39])) (.cons (.k (.str [39])) .nil))))) (.cons (.v 0) (.cons (.v 0) .nil))))
def q_straight_of : PF := ⟨1, 1, q_straight_of_b⟩
def q_class_of_b : PY := (.seq (.if_ (.cmp .eq (.v 0) (.k (.str []))) (.ret (.k (.str [115, 116, 97, 114, 116]))) .skip) (.ret (.bm .get (.ds (.cons (.k (.str [32])) (.cons (.k (.str [40])) (.cons (.k (.str [45])) (.cons (.k (.str [60])) (.cons (.k (.str [123])) .nil))))) (.cons (.k (.str [98, 108, 97, 110, 107])) (.cons (.k (.str [98, 114, 97, 99, 107, 101, 116])) (.cons (.k (.str [100, 97, 115, 104])) (.cons (.k (.str [113, 117, 111, 116, 101])) (.cons (.k (.str [113, 117, 111, 116, 101])) .nil)))))) (.cons (.v 0) (.cons (.k (.str [111, 116, 104, 101, 114])) .nil)))))
def q_class_of : PF := ⟨1, 1, q_class_of_b⟩
def q_is_in_b : PY := (.ret (.and (.cmp .ne (.v 0) (.k (.str []))) (.cmp .in_ (.v 0) (.v 1))))
def q_is_in : PF := ⟨2, 2, q_is_in_b⟩
def q_is_apostrophe_b : PY := (.seq (.if_ (.and (.ix (.v 0) (.k (.int 2))) (.and (.call 141 (.cons (.v 1) (.cons (.gl 6 g_LETTERS) .nil))) (.call 141 (.cons (.v 2) (.cons (.gl 6 g_LETTERS) .nil))))) (.ret (.k (.bl true))) .skip) (.ret (.and (.ix (.v 0) (.k (.int 3))) (.call 141 (.cons (.v 2) (.cons (.gl 3 g_DIGITS) .nil))))))
def q_is_apostrophe : PF := ⟨3, 3, q_is_apostrophe_b⟩
def q_state_behind_b : PY := (.seq (.if_ (.or (.cmp .eq (.ix (.v 0) (.k (.int 0))) (.k (.str [98, 101, 115, 105, 100, 101]))) (.not (.call 141 (.cons (.v 3) (.cons (.bin .add (.gl 12 g_OPENING) (.gl 2 g_CLOSING)) .nil))))) (.ret (.v 1)) .skip) (.sb 138))
def q_state_behind : PF := ⟨5, 6, q_state_behind_b⟩
def q_outcome_b : PY := (.seq (.if_ (.and (.cmp .eq (.v 3) (.k (.str [39]))) (.call 138 (.cons (.v 0) (.cons (.v 2) (.cons (.v 4) .nil))))) (.ret (.k (.str [125]))) .skip) (.seq (.asg 5 (.ite (.cmp .eq (.ix (.v 0) (.k (.int 0))) (.k (.str [98, 101, 115, 105, 100, 101]))) (.cmp .in_ (.call 122 (.cons (.v 2) .nil)) (.ix (.v 0) (.k (.int 1)))) (.cmp .notin (.v 3) (.v 1)))) (.ret (.ix (.ix (.ds (.cons (.k (.str [34])) (.cons (.k (.str [39])) .nil)) (.cons (.k (.str [62, 60])) (.cons (.k (.str [125, 123])) .nil))) (.v 3)) (.bi .int (.cons (.v 5) .nil))))))
def q_outcome : PF := ⟨5, 6, q_outcome_b⟩
def q_turn_with_for0 : PY := (.seq (.asg 7 (.sl (.v 1) (.itv (.bin .add (.v 5) (.k (.int 1)))) (.itv (.bin .add (.v 5) (.k (.int 2)))))) (.seq (.if_ (.cmp .in_ (.v 6) (.gl 19 g_STRAIGHT)) (.asg 6 (.call 170 (.cons (.v 0) (.cons (.v 4) (.cons (.sl (.v 3) (.itv (.neg (.k (.int 1)))) .no) (.cons (.v 6) (.cons (.ite (.v 2) (.v 7) (.k (.str []))) .nil))))))) .skip) (.seq (.asg 4 (.call 182 (.cons (.v 0) (.cons (.v 4) (.cons (.sl (.v 3) (.itv (.neg (.k (.int 1)))) .no) (.cons (.v 6) (.cons (.v 7) .nil))))))) (.asg 3 (.bin .add (.v 3) (.v 6))))))
def q_turn_with_b : PY := (.seq (.unf [3, 4] (.tp (.cons (.k (.str [])) (.cons (.k (.str [])) .nil)))) (.seq (.for_ [5, 6] false (.enum (.v 1)) q_turn_with_for0) (.ret (.v 3))))
def q_turn_with : PF := ⟨3, 8, q_turn_with_b⟩
def q_turn_keyed_b : PY := (.ret (.call 188 (.cons (.v 0) (.cons (.v 1) (.cons (.k (.bl false)) .nil)))))
def q_turn_keyed : PF := ⟨2, 2, q_turn_keyed_b⟩
def q_keyed_b : PY := (.seq (.ex (.call 163 (.cons (.v 0) .nil))) (.seq (.ex (.call 167 (.cons (.v 1) .nil))) (.ret (.call 186 (.cons (.v 0) (.cons (.v 1) .nil))))))
def q_keyed : PF := ⟨2, 2, q_keyed_b⟩
def q_normal_b : PY := (.seq (.unp [1, 2, 3, 4] (.v 0)) (.ret (.ite (.cmp .eq (.v 1) (.k (.str [98, 101, 115, 105, 100, 101]))) (.tp (.cons (.v 1) (.cons (.v 2) (.cons (.k (.bl false)) (.cons (.and (.v 4) (.cmp .ne (.v 2) (.tp .nil))) .nil))))) (.v 0))))
def q_normal : PF := ⟨1, 5, q_normal_b⟩
def q_are_alike_b : PY := (.ret (.cmp .eq (.call 169 (.cons (.v 0) .nil)) (.call 169 (.cons (.v 1) .nil))))
def q_are_alike : PF := ⟨2, 2, q_are_alike_b⟩
def q_Editor___init___b : PY := (.seq (.ex (.call 163 (.cons (.v 1) .nil))) (.seq (.setfld (.v 0) 19 (.v 1)) (.setfld (.v 0) 37 (.lm (.cons (.tp (.cons (.k (.str [])) (.cons (.k (.int 0)) .nil))) .nil)))))
def q_Editor___init__ : PF := ⟨2, 2, q_Editor___init___b⟩
def q_Editor___len___b : PY := (.ret (.bi .len (.cons (.ix (.ix (.fld (.v 0) 37) (.neg (.k (.int 1)))) (.k (.int 0))) .nil)))
def q_Editor___len__ : PF := ⟨1, 1, q_Editor___len___b⟩
def q_Editor___eq___b : PY := .never
def q_Editor___eq__ : PF := ⟨2, 2, q_Editor___eq___b⟩
def q_Editor_made_for0 : PY := (.seq (.asg 7 (.ite (.cmp .lt (.bin .add (.v 5) (.k (.int 1))) (.bi .len (.cons (.v 1) .nil))) (.sl (.v 1) (.itv (.bin .add (.v 5) (.k (.int 1)))) (.itv (.bin .add (.v 5) (.k (.int 2))))) (.v 2))) (.asg 4 (.call 182 (.cons (.fld (.v 0) 19) (.cons (.v 4) (.cons (.sl (.v 1) (.itv (.bi .max2 (.cons (.k (.int 0)) (.cons (.bin .sub (.v 5) (.k (.int 1))) .nil)))) (.itv (.v 5))) (.cons (.v 6) (.cons (.v 7) .nil))))))))
def q_Editor_made_b : PY := (.seq (.if_ (.cmp .notin (.v 2) (.gl 19 g_STRAIGHT)) (.ret (.v 2)) .skip) (.seq (.asg 4 (.k (.str []))) (.seq (.for_ [5, 6] false (.enum (.v 1)) q_Editor_made_for0) (.ret (.call 170 (.cons (.fld (.v 0) 19) (.cons (.v 4) (.cons (.sl (.v 1) (.itv (.neg (.k (.int 1)))) .no) (.cons (.v 2) (.cons (.v 3) .nil))))))))))
def q_Editor_made : PF := ⟨4, 8, q_Editor_made_b⟩
def q_Editor_back_b : PY := (.ex (.call 112 (.cons (.k (.int 0)) .nil)))
def q_Editor_back : PF := ⟨1, 1, q_Editor_back_b⟩
def q_Editor_move_b : PY := (.ex (.call 112 (.cons (.k (.int 1)) .nil)))
def q_Editor_move : PF := ⟨2, 2, q_Editor_move_b⟩
def q_Editor_undo_b : PY := (.ex (.call 112 (.cons (.k (.int 2)) .nil)))
def q_Editor_undo : PF := ⟨1, 1, q_Editor_undo_b⟩
def q_Editor_text_b : PY := (.ret (.ix (.ix (.fld (.v 0) 37) (.neg (.k (.int 1)))) (.k (.int 0))))
def q_Editor_text : PF := ⟨1, 1, q_Editor_text_b⟩
def q_Editor_place_b : PY := (.ret (.ix (.ix (.fld (.v 0) 37) (.neg (.k (.int 1)))) (.k (.int 1))))
def q_Editor_place : PF := ⟨1, 1, q_Editor_place_b⟩
def q_Editor_wrong_b : PY := (.ex (.call 112 (.cons (.k (.int 3)) .nil)))
def q_Editor_wrong : PF := ⟨1, 1, q_Editor_wrong_b⟩
def q_Editor_lines_b : PY := (.ex (.call 112 (.cons (.k (.int 4)) .nil)))
def q_Editor_lines : PF := ⟨1, 1, q_Editor_lines_b⟩
def q__law_source_b : PY := (.seq (.asg 2 (.k (.int 0))) (.seq (.if_ (.cmp .lt (.v 1) (.bi .len (.cons (.v 0) .nil))) (.asg 2 (.bi .abs (.cons (.ix (.v 0) (.v 1)) .nil))) .skip) (.seq (.if_ (.cmp .lt (.v 2) (.bin .pow (.k (.int 10)) (.k (.int 18)))) (.ret (.lm (.cons (.k (.int 0)) (.cons (.bin .add (.k (.int 1)) (.bin .mod (.bi .int (.cons (.bin .add (.bin .mul (.v 2) (.k (.int 7919))) (.bin .mul (.k (.int 104729)) (.v 1))) .nil)) (.k (.int 2147483646)))) .nil)))) .skip) (.ret (.lm (.cons (.v 2) (.cons (.bin .add (.k (.int 1)) (.bin .mod (.bi .int (.cons (.bin .add (.v 2) (.v 1)) .nil)) (.k (.int 2147483646)))) .nil)))))))
def q__law_source : PF := ⟨2, 3, q__law_source_b⟩
def q__law_draw_b : PY := (.seq (.if_ (.cmp .gt (.ix (.v 0) (.k (.int 0))) (.k (.int 0))) (.seq (.asg 2 (.bin .mod (.bi .int (.cons (.ix (.v 0) (.k (.int 0))) .nil)) (.v 1))) (.seq (.setix (.v 0) (.k (.int 0)) (.bin .div (.ix (.v 0) (.k (.int 0))) (.v 1))) (.ret (.v 2)))) .skip) (.seq (.setix (.v 0) (.k (.int 1)) (.bin .mod (.bi .int (.cons (.bin .mul (.ix (.v 0) (.k (.int 1))) (.k (.int 48271))) .nil)) (.k (.int 2147483647)))) (.ret (.bin .mod (.bi .int (.cons (.bin .div (.bin .mod (.bi .int (.cons (.bin .mul (.ix (.v 0) (.k (.int 1))) (.ix (.v 0) (.k (.int 1)))) .nil)) (.k (.int 2147483629))) (.k (.int 64))) .nil)) (.v 1)))))
def q__law_draw : PF := ⟨2, 3, q__law_draw_b⟩
def q__law_choice_b : PY := (.ret (.ix (.v 1) (.call 61 (.cons (.v 0) (.cons (.bi .len (.cons (.v 1) .nil)) .nil)))))
def q__law_choice : PF := ⟨2, 2, q__law_choice_b⟩
def q__law_manner_for0 : PY := (.if_ (.or (.cmp .gt (.call 61 (.cons (.v 0) (.cons (.k (.int 3)) .nil))) (.k (.int 0))) (.cmp .eq (.v 3) (.k (.int 0)))) (.asg 2 (.bin .add (.v 2) (.tp (.cons (.v 4) .nil)))) .skip)
def q__law_manner_b : PY := (.seq (.asg 1 (.call 59 (.cons (.v 0) (.cons (.ls (.cons (.k (.str [98, 101, 115, 105, 100, 101])) (.cons (.k (.str [98, 101, 115, 105, 100, 101])) (.cons (.k (.str [110, 101, 115, 116, 101, 100])) (.cons (.k (.str [116, 117, 114, 110, 115])) .nil))))) .nil)))) (.seq (.asg 2 (.tp .nil)) (.seq (.if_ (.cmp .eq (.v 1) (.k (.str [98, 101, 115, 105, 100, 101]))) (.seq (.asg 3 (.call 61 (.cons (.v 0) (.cons (.k (.int 3)) .nil)))) (.for_ [4] true (.itv (.ls (.cons (.k (.str [98, 108, 97, 110, 107])) (.cons (.k (.str [98, 114, 97, 99, 107, 101, 116])) (.cons (.k (.str [100, 97, 115, 104])) (.cons (.k (.str [113, 117, 111, 116, 101])) (.cons (.k (.str [115, 116, 97, 114, 116])) .nil))))))) q__law_manner_for0)) .skip) (.ret (.tp (.cons (.v 1) (.cons (.v 2) (.cons (.cmp .eq (.call 61 (.cons (.v 0) (.cons (.k (.int 2)) .nil))) (.k (.int 0))) (.cons (.cmp .eq (.call 61 (.cons (.v 0) (.cons (.k (.int 2)) .nil))) (.k (.int 0))) .nil)))))))))
def q__law_manner : PF := ⟨1, 5, q__law_manner_b⟩
def q__law_sort_b : PY := (.seq (.if_ (.cmp .in_ (.v 0) (.ls (.cons (.k (.str [60])) (.cons (.k (.str [62])) .nil)))) (.ret (.k (.str [34]))) .skip) (.ret (.ite (.cmp .in_ (.v 0) (.ls (.cons (.k (.str [123])) (.cons (.k (.str [125])) .nil)))) (.k (.str [39])) (.v 0))))
def q__law_sort : PF := ⟨1, 1, q__law_sort_b⟩
def q__law_straight_el0 : PX := (.call 98 (.cons (.v 1) .nil))
def q__law_straight_b : PY := (.ret (.bm .join (.k (.str [])) (.cons (.lc [1] true (.itv (.v 0)) (.k (.bl true)) q__law_straight_el0) .nil)))
def q__law_straight : PF := ⟨1, 2, q__law_straight_b⟩
def q__law_mark_b : PY := (.seq (.if_ (.and (.ix (.v 0) (.k (.int 2))) (.and (.cmp .in_ (.v 1) (.ls (.cons (.k (.str [97])) (.cons (.k (.str [98])) .nil)))) (.cmp .in_ (.v 2) (.ls (.cons (.k (.str [97])) (.cons (.k (.str [98])) .nil)))))) (.ret (.k (.bl true))) .skip) (.ret (.and (.ix (.v 0) (.k (.int 3))) (.cmp .eq (.v 2) (.k (.str [49]))))))
def q__law_mark : PF := ⟨3, 3, q__law_mark_b⟩
def q__law_open_for0 : PY := (.seq (.asg 6 (.ite (.cmp .gt (.v 4) (.k (.int 0))) (.ix (.v 1) (.bin .sub (.v 4) (.k (.int 1)))) (.k (.str [])))) (.seq (.asg 7 (.ite (.cmp .lt (.bin .add (.v 4) (.k (.int 1))) (.bi .len (.cons (.v 1) .nil))) (.ix (.v 1) (.bin .add (.v 4) (.k (.int 1)))) (.v 2))) (.seq (.asg 8 (.call 98 (.cons (.v 5) .nil))) (.if_ (.and (.cmp .in_ (.v 5) (.ls (.cons (.k (.str [60])) (.cons (.k (.str [123])) .nil)))) (.cmp .notin (.v 8) (.v 3))) (.asg 3 (.bin .add (.v 3) (.ls (.cons (.v 8) .nil)))) (.if_ (.and (.cmp .in_ (.v 5) (.ls (.cons (.k (.str [62])) (.cons (.k (.str [125])) .nil)))) (.cmp .in_ (.v 8) (.v 3))) (.if_ (.or (.cmp .eq (.v 5) (.k (.str [62]))) (.not (.call 82 (.cons (.v 0) (.cons (.v 6) (.cons (.v 7) .nil)))))) (.seq (.asg 9 (.bm .lindex (.v 3) (.cons (.v 8) .nil))) (.seq (.asg 10 (.ite (.cmp .eq (.ix (.v 0) (.k (.int 0))) (.k (.str [110, 101, 115, 116, 101, 100]))) (.ls .nil) (.sl (.v 3) (.itv (.bin .add (.v 9) (.k (.int 1)))) .no))) (.asg 3 (.bin .add (.sl (.v 3) .no (.itv (.v 9))) (.v 10))))) .skip) .skip)))))
def q__law_open_b : PY := (.seq (.asg 3 (.ls .nil)) (.seq (.for_ [4, 5] false (.enum (.v 1)) q__law_open_for0) (.ret (.v 3))))
def q__law_open : PF := ⟨3, 11, q__law_open_b⟩
def q__law_becomes_b : PY := (.seq (.asg 4 (.sl (.v 1) (.itv (.neg (.k (.int 1)))) .no)) (.seq (.if_ (.and (.cmp .eq (.v 2) (.k (.str [39]))) (.call 82 (.cons (.v 0) (.cons (.v 4) (.cons (.v 3) .nil))))) (.ret (.k (.str [125]))) .skip) (.seq (.if_ (.cmp .eq (.ix (.v 0) (.k (.int 0))) (.k (.str [98, 101, 115, 105, 100, 101]))) (.seq (.asg 5 (.ds (.cons (.k (.str [])) (.cons (.k (.str [32])) (.cons (.k (.str [40])) (.cons (.k (.str [45])) (.cons (.k (.str [60])) (.cons (.k (.str [123])) .nil)))))) (.cons (.k (.str [115, 116, 97, 114, 116])) (.cons (.k (.str [98, 108, 97, 110, 107])) (.cons (.k (.str [98, 114, 97, 99, 107, 101, 116])) (.cons (.k (.str [100, 97, 115, 104])) (.cons (.k (.str [113, 117, 111, 116, 101])) (.cons (.k (.str [113, 117, 111, 116, 101])) .nil)))))))) (.asg 6 (.cmp .in_ (.bm .get (.v 5) (.cons (.v 4) (.cons (.k (.str [110, 111, 110, 101])) .nil))) (.ix (.v 0) (.k (.int 1)))))) (.asg 6 (.cmp .notin (.v 2) (.call 86 (.cons (.v 0) (.cons (.v 1) (.cons (.v 2) .nil))))))) (.seq (.if_ (.cmp .eq (.v 2) (.k (.str [39]))) (.ret (.ite (.v 6) (.k (.str [123])) (.k (.str [125])))) .skip) (.ret (.ite (.v 6) (.k (.str [60])) (.k (.str [62]))))))))
def q__law_becomes : PF := ⟨4, 7, q__law_becomes_b⟩
def q__law_turned_for0 : PY := (.seq (.asg 6 (.ite (.v 2) (.sl (.v 1) (.itv (.bin .add (.v 4) (.k (.int 1)))) (.itv (.bin .add (.v 4) (.k (.int 2))))) (.k (.str [])))) (.seq (.asg 7 (.v 5)) (.seq (.if_ (.cmp .in_ (.v 5) (.ls (.cons (.k (.str [39])) (.cons (.k (.str [34])) .nil)))) (.asg 7 (.call 57 (.cons (.v 0) (.cons (.v 3) (.cons (.v 5) (.cons (.v 6) .nil)))))) .skip) (.asg 3 (.bin .add (.v 3) (.v 7))))))
def q__law_turned_b : PY := (.seq (.asg 3 (.k (.str []))) (.seq (.for_ [4, 5] false (.enum (.v 1)) q__law_turned_for0) (.ret (.v 3))))
def q__law_turned : PF := ⟨3, 8, q__law_turned_b⟩
def q__law_text_el0 : PX := (.call 59 (.cons (.v 0) (.cons (.bi .list (.cons (.v 2) .nil)) .nil)))
def q__law_text_b : PY := (.seq (.asg 2 (.call 59 (.cons (.v 0) (.cons (.ls (.cons (.k (.str [97, 49, 32, 34, 39])) (.cons (.k (.str [97, 98, 39, 34, 40, 32])) (.cons (.k (.str [34, 39])) (.cons (.k (.str [97, 98, 49, 32, 40, 41, 46, 45, 34, 39, 60, 62, 123, 125])) (.cons (.k (.str [97, 39, 49, 32])) (.cons (.k (.str [97, 98, 32, 34, 39, 60, 123, 125, 62])) .nil))))))) .nil)))) (.ret (.bm .join (.k (.str [])) (.cons (.lc [3] true (.rng1 (.call 61 (.cons (.v 0) (.cons (.bin .add (.v 1) (.k (.int 1))) .nil)))) (.k (.bl true)) q__law_text_el0) .nil))))
def q__law_text : PF := ⟨2, 4, q__law_text_b⟩
def q_law_for0 : PY := (.ex (.mets [(1, 8)] 12 (.v 7) (.cons (.v 8) .nil)))
def q_law_for1 : PY := (.seq (.unp [9, 10] (.tp (.cons (.call 80 (.cons (.v 3) .nil)) (.cons (.call 107 (.cons (.v 3) (.cons (.k (.int 30)) .nil))) .nil)))) (.seq (.asg 5 (.call 151 (.cons (.v 9) (.cons (.v 10) .nil)))) (.seq (.if_ (.or (.cmp .ne (.v 5) (.call 109 (.cons (.v 9) (.cons (.v 10) (.cons (.k (.bl false)) .nil))))) (.cmp .ne (.call 103 (.cons (.v 5) .nil)) (.call 103 (.cons (.v 10) .nil)))) (.ret (.k (.bl false))) .skip) (.seq (.asg 6 (.call 61 (.cons (.v 3) (.cons (.bin .add (.bi .len (.cons (.v 10) .nil)) (.k (.int 1))) .nil)))) (.seq (.if_ (.cmp .ne (.call 151 (.cons (.v 9) (.cons (.bin .add (.call 151 (.cons (.v 9) (.cons (.sl (.v 10) .no (.itv (.v 6))) .nil))) (.sl (.v 10) (.itv (.v 6)) .no)) .nil))) (.v 5)) (.ret (.k (.bl false))) .skip) (.seq (.if_ (.cmp .ne (.call 151 (.cons (.v 9) (.cons (.sl (.v 10) .no (.itv (.v 6))) .nil))) (.sl (.v 5) .no (.itv (.v 6)))) (.ret (.k (.bl false))) .skip) (.seq (.asg 7 (.mk 1 5 (.cons (.v 9) .nil))) (.seq (.for_ [8] true (.itv (.v 10)) q_law_for0) (.if_ (.or (.cmp .ne (.meth [(1, 13)] 36 (.v 7) .nil) (.v 5)) (.cmp .ne (.meth [(1, 12)] 27 (.v 7) .nil) (.bi .len (.cons (.v 10) .nil)))) (.ret (.k (.bl false))) .skip)))))))))
def q_law_for2 : PY := (.seq (.asg 3 (.call 99 (.cons (.v 0) (.cons (.v 1) .nil)))) (.for_ [4] true (.rng1 (.k (.int 6))) q_law_for1))
def q_law_b : PY := (.seq (.for_ [1] true (.rng1 (.bin .add (.k (.int 1)) (.bi .min2 (.cons (.bi .len (.cons (.v 0) .nil)) (.cons (.k (.int 10)) .nil))))) q_law_for2) (.seq (.asg 2 (.tp (.cons (.k (.str [116, 117, 114, 110, 115])) (.cons (.tp .nil) (.cons (.k (.bl true)) (.cons (.k (.bl false)) .nil)))))) (.seq (.if_ (.or (.cmp .ne (.call 151 (.cons (.v 2) (.cons (.k (.str [34, 97, 39, 98, 32, 40, 39, 97, 39, 41, 46, 34])) .nil))) (.k (.str [60, 97, 123, 98, 32, 40, 125, 97, 123, 41, 46, 62]))) (.cmp .ne (.call 151 (.cons (.v 2) (.cons (.k (.str [97, 39, 98, 39, 97])) .nil))) (.k (.str [97, 123, 98, 125, 97])))) (.ret (.k (.bl false))) .skip) (.seq (.if_ (.cmp .ne (.call 151 (.cons (.tp (.cons (.k (.str [110, 101, 115, 116, 101, 100])) (.cons (.tp .nil) (.cons (.k (.bl true)) (.cons (.k (.bl true)) .nil))))) (.cons (.k (.str [39, 49, 32, 97, 39, 98, 32, 39, 97, 39])) .nil))) (.k (.str [123, 49, 32, 97, 125, 98, 32, 125, 97, 123]))) (.ret (.k (.bl false))) .skip) (.seq (.if_ (.cmp .ne (.call 151 (.cons (.tp (.cons (.k (.str [98, 101, 115, 105, 100, 101])) (.cons (.tp (.cons (.k (.str [115, 116, 97, 114, 116])) .nil)) (.cons (.k (.bl false)) (.cons (.k (.bl true)) .nil))))) (.cons (.k (.str [39, 49, 39, 49])) .nil))) (.k (.str [123, 49, 125, 49]))) (.ret (.k (.bl false))) .skip) (.ret (.cmp .eq (.call 151 (.cons (.v 2) (.cons (.k (.str [123, 97, 125, 98, 39])) .nil))) (.k (.str [123, 97, 125, 98, 125])))))))))
def q_law : PF := ⟨1, 11, q_law_b⟩
def q_Editor_key_el0 : PX := (.call 147 (.cons (.v 2) .nil))
def q_Editor_key_for1 : PY := (.asg 5 (.bin .add (.v 5) (.meth [(1, 10)] 18 (.v 0) (.cons (.v 5) (.cons (.v 2) (.cons (.sl (.v 6) .no (.itv (.k (.int 1)))) .nil))))))
def q_Editor_key_b : PY := (.seq (.if_ (.not (.bi .all (.cons (.lc [2] true (.itv (.v 1)) (.k (.bl true)) q_Editor_key_el0) .nil))) .never .skip) (.seq (.unp [3, 4] (.ix (.fld (.v 0) 37) (.neg (.k (.int 1))))) (.seq (.if_ (.cmp .gt (.bin .add (.bi .len (.cons (.v 3) .nil)) (.bi .len (.cons (.v 1) .nil))) (.gl 11 g_MOST_TEXT)) .never .skip) (.seq (.unp [5, 6] (.tp (.cons (.sl (.v 3) .no (.itv (.v 4))) (.cons (.sl (.v 3) (.itv (.v 4)) .no) .nil)))) (.seq (.for_ [2] true (.itv (.v 1)) q_Editor_key_for1) (.seq (.ex (.bm .append (.fld (.v 0) 37) (.cons (.tp (.cons (.bin .add (.v 5) (.v 6)) (.cons (.bi .len (.cons (.v 5) .nil)) .nil))) .nil))) (.ret (.bin .add (.v 5) (.v 6)))))))))
def q_Editor_key : PF := ⟨2, 7, q_Editor_key_b⟩
def tblL : List (Nat × PF) := [(112, q__wall), (147, q_is_sign), (149, q_is_text), (142, q_is_manner), (163, q_need_manner), (167, q_need_text), (183, q_straight_of), (122, q_class_of), (141, q_is_in), (138, q_is_apostrophe), (182, q_state_behind), (170, q_outcome), (188, q_turn_with), (186, q_turn_keyed), (151, q_keyed), (169, q_normal), (118, q_are_alike), (5, q_Editor___init__), (6, q_Editor___len__), (4, q_Editor___eq__), (10, q_Editor_made), (7, q_Editor_back), (11, q_Editor_move), (14, q_Editor_undo), (13, q_Editor_text), (12, q_Editor_place), (15, q_Editor_wrong), (9, q_Editor_lines), (99, q__law_source), (61, q__law_draw), (59, q__law_choice), (80, q__law_manner), (98, q__law_sort), (103, q__law_straight), (82, q__law_mark), (86, q__law_open), (57, q__law_becomes), (109, q__law_turned), (107, q__law_text), (154, q_law), (8, q_Editor_key)]
def lookF (f : Nat) : List (Nat × PF) → Option PF
  | [] => none
  | (g, F) :: r => if (g == f) = true then some F else lookF f r
def TBL (f : Nat) : Option PF := lookF f tblL
def Is (G : Nat → Option PF) : Prop := ∀ f F, TBL f = some F → G f = some F
end Qt
namespace Qm
open Qt
variable {G : Nat → Option PF}
local macro_rules | `(tactic| tm_at "v") => `(tactic| ((conv => whnf); repeat (refine And.intro (by first | with_reducible rfl | with_reducible assumption | exact LLle (by omega) | exact LLle (by simp; omega) | omega | decide | exact Nat.le_of_ble_eq_true rfl) ?_; (conv => whnf))))
local macro_rules | `(tactic| tm_at "w") => `(tactic| ((conv => whnf); repeat (refine And.intro (by first | decide | assumption | omega | rfl | exact Nat.le_of_ble_eq_true rfl) ?_; (conv => whnf))))
/-- a call, entered -/
theorem call_in {d f : Nat} {F : PF} {vs : List PV} {M : Mem} {Q : Kt} {Z : Xt} (hG : G f = some F) (hl : (vs.length == F.np) = true) (h : wS (callW G d) F.body (vs.map some ++ List.replicate (F.ns - F.np) none) M { nx := fun _ M1 => Q .non M1, rt := Q, ct := fun _ _ => False, ex := Z }) : callW G (d + 1) f vs M Q Z := by
  show (match G f with
    | some F => callF (callW G d) F vs M Q Z
    | none => False)
  rw [hG]
  show (match vs.length == F.np with
    | true => _
    | false => False)
  rw [hl]
  exact h
/-! ### loops by what holds between two turns -/
section
variable {t : List Nat} {s : Bool} {body : Rho → Mem → En → Prop} {D : En}
theorem wFor_rem {α : Type} {f : α → PV} (I : List α → Rho → Mem → Prop) (hend : ∀ ρ M, I [] ρ M → D.nx ρ M)
    (hstep : ∀ x rest ρ M, I (x :: rest) ρ M → ∃ ρ', setT t s (f x) ρ = some ρ' ∧ ∀ N : Rho → Mem → Prop, (∀ ρ2 M2, I rest ρ2 M2 → N ρ2 M2) → body ρ' M ⟨N, D.rt, N, D.ex⟩) :
    ∀ xs ρ M, I xs ρ M → wFor t s body (xs.map f) ρ M D
  | [], ρ, M, h => by rw [wFor_R]; exact hend ρ M h
  | x :: xs, ρ, M, h => by
    obtain ⟨ρ', e, k⟩ := hstep x xs ρ M h
    rw [wFor_R]
    show (match setT t s (f x) ρ with
      | none => False
      | some ρ' => body ρ' M _)
    rw [e, ← wFor_R]
    exact k _ fun ρ2 M2 h2 => wFor_rem I hend hstep xs ρ2 M2 h2
theorem wFor_enum {α : Type} {f : α → PV} (I : Nat → List α → Rho → Mem → Prop) (hend : ∀ i ρ M, I i [] ρ M → D.nx ρ M)
    (hstep : ∀ (i : Nat) x rest ρ M, I i (x :: rest) ρ M → ∃ ρ', setT t s (.tup [.int i, f x]) ρ = some ρ' ∧ ∀ N : Rho → Mem → Prop, (∀ ρ2 M2, I (i + 1) rest ρ2 M2 → N ρ2 M2) → body ρ' M ⟨N, D.rt, N, D.ex⟩) :
    ∀ xs i ρ M, I i xs ρ M → wFor t s body (enumL i (xs.map f)) ρ M D
  | [], i, ρ, M, h => by rw [wFor_R]; exact hend i ρ M h
  | x :: xs, i, ρ, M, h => by
    obtain ⟨ρ', e, k⟩ := hstep i x xs ρ M h
    rw [wFor_R]
    show (match setT t s (.tup [.int i, f x]) ρ with
      | none => False
      | some ρ' => body ρ' M _)
    rw [e, ← wFor_R]
    exact k _ fun ρ2 M2 h2 => wFor_enum I hend hstep xs (i + 1) ρ2 M2 h2
theorem wFor_inv (P : PV → Prop) (I : Rho → Mem → Prop) (hend : ∀ ρ M, I ρ M → D.nx ρ M)
    (hstep : ∀ x ρ M, P x → I ρ M → ∃ ρ', setT t s x ρ = some ρ' ∧ ∀ N : Rho → Mem → Prop, (∀ ρ2 M2, I ρ2 M2 → N ρ2 M2) → body ρ' M ⟨N, D.rt, N, D.ex⟩) :
    ∀ xs, (∀ x ∈ xs, P x) → ∀ ρ M, I ρ M → wFor t s body xs ρ M D
  | [], _, ρ, M, h => by rw [wFor_R]; exact hend ρ M h
  | x :: xs, hx, ρ, M, h => by
    obtain ⟨ρ', e, k⟩ := hstep x ρ M (hx x (List.mem_cons_self ..)) h
    rw [wFor_R]
    show (match setT t s x ρ with
      | none => False
      | some ρ' => body ρ' M _)
    rw [e, ← wFor_R]
    exact k _ fun ρ2 M2 h2 => wFor_inv P I hend hstep xs (fun y hy => hx y (List.mem_cons_of_mem _ hy)) ρ2 M2 h2
end
theorem rngL_map : ∀ (n : Nat) (lo : Int), rngL lo n = (List.range n).map fun k : Nat => .int (lo + k)
  | 0, _ => rfl
  | n + 1, lo => by
    rw [List.range_succ_eq_map, List.map_cons, List.map_map]
    show .int lo :: rngL (lo + 1) n = _
    rw [rngL_map n (lo + 1)]
    congr 1
    · rw [show ((0 : Nat) : Int) = 0 from rfl, Int.add_zero]
    · refine List.map_congr_left fun k _ => ?_
      show PV.int (lo + 1 + k) = PV.int (lo + ((k + 1 : Nat) : Int))
      rw [show ((k + 1 : Nat) : Int) = k + 1 from rfl, Int.add_comm (k : Int) 1, Int.add_assoc]
theorem rngL_mem : ∀ (n : Nat) (lo : Int), ∀ x ∈ rngL lo n, ∃ i : Int, x = .int i ∧ lo ≤ i ∧ i < lo + n
  | 0, _, _, h => by cases h
  | n + 1, lo, x, h => by
    rcases List.mem_cons.mp h with rfl | h
    · exact ⟨lo, rfl, Int.le_refl _, by omega⟩
    · obtain ⟨i, e, h1, h2⟩ := rngL_mem n (lo + 1) x h
      exact ⟨i, e, by omega, by omega⟩
theorem rngL_len : ∀ (n : Nat) (lo : Int), (rngL lo n).length = n
  | 0, _ => rfl
  | n + 1, lo => congrArg (· + 1) (rngL_len n (lo + 1))
section
variable {t : List Nat} {s : Bool} {ρ : Rho} {cond elt : Rho → Mem → Kt → Prop}
/-- a comprehension whose parts leave the memory as it is -/
theorem wLc_map {α : Type} {f : α → PV} (p : α → Bool) (g : α → PV) {M : Mem} : ∀ (xs : List α) (_ : ∀ x ∈ xs, ∃ ρ', setT t s (f x) ρ = some ρ' ∧ (∀ K : Kt, K (.bl (p x)) M → cond ρ' M K) ∧ (p x = true → ∀ K : Kt, K (g x) M → elt ρ' M K)) (acc : List PV) (Q : Kt),
    Q (.lst (acc ++ (xs.filter p).map g)) M → wLc t s ρ cond elt (xs.map f) acc M Q
  | [], _, acc, Q, q => by
    rw [List.filter_nil, List.map_nil, List.append_nil] at q
    rw [wLc_R]
    exact q
  | x :: xs, h, acc, Q, q => by
    obtain ⟨ρ', e, h1, h2⟩ := h x (List.mem_cons_self ..)
    rw [wLc_R]
    show (match setT t s (f x) ρ with
      | none => False
      | some ρ' => cond ρ' M fun b M1 => match truthy M1 b with
        | some true => elt ρ' M1 fun v M2 => wLcR t s ρ cond elt (xs.map f) (acc ++ [v]) M2 Q
        | some false => wLcR t s ρ cond elt (xs.map f) acc M1 Q
        | none => False)
    rw [e, ← wLc_R]
    refine h1 _ ?_
    have hx := fun y hy => h y (List.mem_cons_of_mem _ hy)
    cases hp : p x with
    | true =>
      refine h2 hp _ (wLc_map p g xs hx _ _ ?_)
      rw [List.filter_cons, hp] at q
      rw [List.append_assoc]
      exact q
    | false =>
      refine wLc_map p g xs hx _ _ ?_
      rw [List.filter_cons, hp] at q
      exact q
/-- the same; the parts may make the memory another one of the kind I -/
theorem wLc_mapI {α : Type} {f : α → PV} (I : Mem → Prop) (p : α → Bool) (g : α → PV) : ∀ (xs : List α) (_ : ∀ x ∈ xs, ∀ M, I M → ∃ ρ', setT t s (f x) ρ = some ρ' ∧ (∀ K : Kt, (∀ M2, I M2 → K (.bl (p x)) M2) → cond ρ' M K) ∧ (p x = true → ∀ M1, I M1 → ∀ K : Kt, (∀ M2, I M2 → K (g x) M2) → elt ρ' M1 K)) (acc : List PV) (M : Mem) (Q : Kt),
    I M → (∀ M2, I M2 → Q (.lst (acc ++ (xs.filter p).map g)) M2) → wLc t s ρ cond elt (xs.map f) acc M Q
  | [], _, acc, M, Q, hI, q => by
    have q := q M hI
    rw [List.filter_nil, List.map_nil, List.append_nil] at q
    rw [wLc_R]
    exact q
  | x :: xs, h, acc, M, Q, hI, q => by
    obtain ⟨ρ', e, h1, h2⟩ := h x (List.mem_cons_self ..) M hI
    rw [wLc_R]
    show (match setT t s (f x) ρ with
      | none => False
      | some ρ' => cond ρ' M fun b M1 => match truthy M1 b with
        | some true => elt ρ' M1 fun v M2 => wLcR t s ρ cond elt (xs.map f) (acc ++ [v]) M2 Q
        | some false => wLcR t s ρ cond elt (xs.map f) acc M1 Q
        | none => False)
    rw [e, ← wLc_R]
    refine h1 _ fun M1 hM1 => ?_
    have hx := fun y hy => h y (List.mem_cons_of_mem _ hy)
    cases hp : p x with
    | true =>
      refine h2 hp M1 hM1 _ fun M2 hM2 => wLc_mapI I p g xs hx _ M2 _ hM2 fun M3 hM3 => ?_
      have q := q M3 hM3
      rw [List.filter_cons, hp] at q
      rw [List.append_assoc]
      exact q
    | false =>
      refine wLc_mapI I p g xs hx _ M1 _ hM1 fun M3 hM3 => ?_
      have q := q M3 hM3
      rw [List.filter_cons, hp] at q
      exact q
/-- a comprehension without a test, by what is kept of the memory and what holds of the items -/
theorem wLc_inv (J : PV → Prop) (I : Mem → Prop) {Q : Kt} : ∀ (xs : List PV) (_ : ∀ x ∈ xs, ∀ M, I M → ∃ ρ', setT t s x ρ = some ρ' ∧ (∀ K : Kt, K (.bl true) M → cond ρ' M K) ∧ ∀ K : Kt, (∀ v M2, J v → I M2 → K v M2) → elt ρ' M K) (acc : List PV) (M : Mem),
    I M → (∀ v ∈ acc, J v) → (∀ vs M2, vs.length = acc.length + xs.length → (∀ v ∈ vs, J v) → I M2 → Q (.lst vs) M2) → wLc t s ρ cond elt xs acc M Q
  | [], _, acc, M, hI, ha, q => by rw [wLc_R]; exact q acc M rfl ha hI
  | x :: xs, h, acc, M, hI, ha, q => by
    obtain ⟨ρ', e, h1, h2⟩ := h x (List.mem_cons_self ..) M hI
    rw [wLc_R]
    show (match setT t s x ρ with
      | none => False
      | some ρ' => cond ρ' M fun b M1 => match truthy M1 b with
        | some true => elt ρ' M1 fun v M2 => wLcR t s ρ cond elt xs (acc ++ [v]) M2 Q
        | some false => wLcR t s ρ cond elt xs acc M1 Q
        | none => False)
    rw [e, ← wLc_R]
    refine h1 _ (h2 _ fun v M2 hv hM2 => ?_)
    refine wLc_inv J I xs (fun y hy => h y (List.mem_cons_of_mem _ hy)) _ M2 hM2 (fun w hw => ?_) fun vs M3 hl hvs hM3 => q vs M3 (by rw [hl]; simp; omega) hvs hM3
    rcases List.mem_append.mp hw with z | z
    · exact ha w z
    · rw [List.mem_singleton] at z
      rw [z]
      exact hv
end
/-! ### the memory with a source of draws at n -/
def Src (M : Mem) (n : Nat) : Prop := ∃ a b : Int, M[n]? = some (.lst [.int a, .int b])
/-- behind draws: the source is one, the other objects stand as before -/
structure Fr (n : Nat) (M M' : Mem) : Prop where
  src : Src M' n
  len : M.length ≤ M'.length
  keep : ∀ k, k < M.length → k ≠ n → M'[k]? = M[k]?
theorem Fr.refl {M : Mem} {n : Nat} (h : Src M n) : Fr n M M := ⟨h, Nat.le_refl _, fun _ _ _ => rfl⟩
theorem Fr.trans {M M1 M2 : Mem} {n : Nat} (a : Fr n M M1) (b : Fr n M1 M2) : Fr n M M2 :=
  ⟨b.src, Nat.le_trans a.len b.len, fun k h1 h2 => (b.keep k (Nat.lt_of_lt_of_le h1 a.len) h2).trans (a.keep k h1 h2)⟩
theorem Fr.put {M : Mem} {n : Nat} (h : Src M n) (a b : Int) : Fr n M (M.set n (.lst [.int a, .int b])) := by
  obtain ⟨_, _, e⟩ := h
  refine ⟨⟨a, b, List.getElem?_set_self (List.getElem?_eq_some_iff.mp e).1⟩, by rw [List.length_set]; exact Nat.le_refl _, fun k _ hk => List.getElem?_set_ne (Ne.symm hk)⟩
/-- the memory, longer -/
structure Ex (M M' : Mem) : Prop where
  len : M.length ≤ M'.length
  keep : ∀ k, k < M.length → M'[k]? = M[k]?
theorem Ex.refl {M : Mem} : Ex M M := ⟨Nat.le_refl _, fun _ _ => rfl⟩
theorem Ex.trans {M M1 M2 : Mem} (a : Ex M M1) (b : Ex M1 M2) : Ex M M2 := ⟨Nat.le_trans a.len b.len, fun k h => (b.keep k (Nat.lt_of_lt_of_le h a.len)).trans (a.keep k h)⟩
theorem Src.lt {M : Mem} {n : Nat} (h : Src M n) : n < M.length := let ⟨_, _, e⟩ := h; (List.getElem?_eq_some_iff.mp e).1
theorem Src.ex {M M' : Mem} {n : Nat} (h : Src M n) (x : Ex M M') : Src M' n := by
  have hl := h.lt
  obtain ⟨a, b, e⟩ := h
  exact ⟨a, b, (x.keep n hl).trans e⟩
theorem Src.set {M : Mem} {n k : Nat} {o : MO} (h : Src M n) (hk : k ≠ n) : Src (M.set k o) n := by
  obtain ⟨a, b, e⟩ := h
  exact ⟨a, b, by rw [List.getElem?_set_ne hk]; exact e⟩
theorem set_at {M : Mem} {k : Nat} {o o' : MO} (h : M[k]? = some o) : (M.set k o')[k]? = some o' := List.getElem?_set_self (List.getElem?_eq_some_iff.mp h).1
theorem set_ne {M : Mem} {j k : Nat} {o o' : MO} (h : M[k]? = some o) (hk : j ≠ k) : (M.set j o')[k]? = some o := by rw [List.getElem?_set_ne hk]; exact h
theorem app_at {M : Mem} {o : MO} : (M ++ [o])[M.length]? = some o := by simp
theorem app_lt {M : Mem} {k : Nat} {o o' : MO} (h : M[k]? = some o) : (M ++ [o'])[k]? = some o := by rw [List.getElem?_append_left (List.getElem?_eq_some_iff.mp h).1]; exact h
theorem at_lt {M : Mem} {k : Nat} {o : MO} (h : M[k]? = some o) : k < M.length := (List.getElem?_eq_some_iff.mp h).1
theorem Fr.ex {M M1 M2 : Mem} {n : Nat} (a : Fr n M M1) (b : Ex M1 M2) : Fr n M M2 :=
  ⟨a.src.ex b, Nat.le_trans a.len b.len, fun k h1 h2 => (b.keep k (Nat.lt_of_lt_of_le h1 a.len)).trans (a.keep k h1 h2)⟩
theorem Ex.app {M : Mem} (o : MO) : Ex M (M ++ [o]) := ⟨by simp, fun k h => List.getElem?_append_left h⟩
theorem asL_ref {M : Mem} {m : Nat} {xs : List PV} (h : M[m]? = some (.lst xs)) : asL M (.ref m) = some xs := by unfold asL; simp only [h]
theorem bmK_app {M : Mem} {m : Nat} {xs : List PV} (h : M[m]? = some (.lst xs)) : bmK .append (.ref m) M = true := by unfold bmK; simp only [h]
theorem asL_lst (M : Mem) (xs : List PV) : asL M (.lst xs) = some xs := rfl
/-- the statements behind the first one -/
def tl : PY → PY
  | .seq _ b => b
  | p => p
/-- two values, compared -/
theorem eqW_ok {x y : PV} {Q : Bool → Prop} (h : (x.ok && y.ok) = true) (q : Q (PV.eqv x y)) : eqW x y Q := by
  cases x <;> cases y <;> first | exact ⟨h, q⟩ | exact q
theorem LLle {n : Nat} (h : n ≤ 1000) : n ≤ LL := Nat.le_trans h (by decide)
theorem bmK_get {M : Mem} {m : Nat} {ks vs : List PV} (h : M[m]? = some (.dct ks vs)) : bmK .get (.ref m) M = true := by unfold bmK; simp only [h]
theorem eqv_bb (b : Bool) : PV.eqv (.bl b) (.bl b) = true := by cases b <;> rfl
theorem rng_int {n : Nat} {lo : Int} : ∀ x ∈ rngL lo n, ∃ i, x = PV.int i := fun x hx => let ⟨i, e, _, _⟩ := rngL_mem n lo x hx; ⟨i, e⟩
theorem rng_nat {n : Nat} : ∀ x ∈ rngL 0 n, ∃ i : Nat, x = PV.int i ∧ i < n := fun x hx => by
  obtain ⟨i, e, h1, h2⟩ := rngL_mem n 0 x hx
  exact ⟨i.toNat, by rw [Int.toNat_of_nonneg h1]; exact e, by omega⟩
end Qm
namespace Qm
open Qt
variable {G : Nat → Option PF}
local macro_rules | `(tactic| tm_at "v") => `(tactic| ((conv => whnf); repeat (refine And.intro (by first | with_reducible rfl | with_reducible assumption | exact LLle (by omega) | exact LLle (by simp; omega) | omega | decide | exact Nat.le_of_ble_eq_true rfl) ?_; (conv => whnf))))
local macro_rules | `(tactic| tm_at "w") => `(tactic| ((conv => whnf); repeat (refine And.intro (by first | decide | assumption | omega | rfl | exact Nat.le_of_ble_eq_true rfl) ?_; (conv => whnf))))
/-- at most one sign -/
def One (x : List Nat) : Prop := x = [] ∨ ∃ c, x = [c]
def isIn (x s : List Nat) : Bool := match x with
  | [] => false
  | c :: _ => decide (c ∈ s)
end Qm
namespace Qm
open Qt
variable {G : Nat → Option PF}
local macro_rules | `(tactic| tm_at "v") => `(tactic| ((conv => whnf); repeat (refine And.intro (by first | with_reducible rfl | with_reducible assumption | exact LLle (by omega) | exact LLle (by simp; omega) | omega | decide | exact Nat.le_of_ble_eq_true rfl) ?_; (conv => whnf))))
local macro_rules | `(tactic| tm_at "w") => `(tactic| ((conv => whnf); repeat (refine And.intro (by first | decide | assumption | omega | rfl | exact Nat.le_of_ble_eq_true rfl) ?_; (conv => whnf))))
theorem sp_is_in (hI : Is G) {d : Nat} {x s : List Nat} {M : Mem} {Q : Kt} {Z : Xt} (h : One x) (q : Q (.bl (isIn x s)) M) : callW G (d + 1) 141 [.str x, .str s] M Q Z := by
  refine call_in (hI _ _ rfl) rfl ?_
  rcases h with rfl | ⟨c, rfl⟩
  · conv => whnf
    exact q
  · conv => whnf
    exact q
end Qm
namespace Qm
open Qt
variable {G : Nat → Option PF}
local macro_rules | `(tactic| tm_at "v") => `(tactic| ((conv => whnf); repeat (refine And.intro (by first | with_reducible rfl | with_reducible assumption | exact LLle (by omega) | exact LLle (by simp; omega) | omega | decide | exact Nat.le_of_ble_eq_true rfl) ?_; (conv => whnf))))
local macro_rules | `(tactic| tm_at "w") => `(tactic| ((conv => whnf); repeat (refine And.intro (by first | decide | assumption | omega | rfl | exact Nat.le_of_ble_eq_true rfl) ?_; (conv => whnf))))
def manV (kd : List Nat) (op : List (List Nat)) (w f : Bool) : PV := .tup [.str kd, .tup (op.map PV.str), .bl w, .bl f]
def kBes : List Nat := [98, 101, 115, 105, 100, 101]
def kNes : List Nat := [110, 101, 115, 116, 101, 100]
def kTur : List Nat := [116, 117, 114, 110, 115]
def cBlank : List Nat := [98, 108, 97, 110, 107]
def cBrack : List Nat := [98, 114, 97, 99, 107, 101, 116]
def cDash : List Nat := [100, 97, 115, 104]
def cQuote : List Nat := [113, 117, 111, 116, 101]
def cStart : List Nat := [115, 116, 97, 114, 116]
def cNone : List Nat := [110, 111, 110, 101]
def cOther : List Nat := [111, 116, 104, 101, 114]
theorem scal_strs : ∀ op : List (List Nat), (op.map PV.str).all isScal = true
  | [] => rfl
  | x :: r => by rw [List.map_cons, List.all_cons, scal_strs r]; rfl
theorem any_strs (x : List Nat) : ∀ op : List (List Nat), ((op.map PV.str).any fun z => PV.eqv z (.str x)) = decide (x ∈ op)
  | [] => by simp
  | y :: r => by
    rw [List.map_cons, List.any_cons, any_strs x r]
    show (decide (y = x) || decide (x ∈ r)) = _
    by_cases h : y = x
    · subst h; simp
    · have h' : ¬ x = y := fun z => h z.symm
      simp [h, h']
end Qm
namespace Qm
open Qt
variable {G : Nat → Option PF}
local macro_rules | `(tactic| tm_at "v") => `(tactic| ((conv => whnf); repeat (refine And.intro (by first | with_reducible rfl | with_reducible assumption | exact LLle (by omega) | exact LLle (by simp; omega) | omega | decide | exact Nat.le_of_ble_eq_true rfl) ?_; (conv => whnf))))
local macro_rules | `(tactic| tm_at "w") => `(tactic| ((conv => whnf); repeat (refine And.intro (by first | decide | assumption | omega | rfl | exact Nat.le_of_ble_eq_true rfl) ?_; (conv => whnf))))
def apos (w f : Bool) (ah bh : List Nat) : Bool := (w && (isIn ah [97, 98] && isIn bh [97, 98])) || (f && isIn bh [49])
theorem sp_apos (hI : Is G) {d : Nat} {kd : List Nat} {op : List (List Nat)} {w f : Bool} {ah bh : List Nat} {M : Mem} {Q : Kt} {Z : Xt} (h1 : One ah) (h2 : One bh) (q : Q (.bl (apos w f ah bh)) M) :
    callW G (d + 2) 138 [manV kd op w f, .str ah, .str bh] M Q Z := by
  refine call_in (hI _ _ rfl) rfl ?_
  unfold apos at q
  have tail : ∀ {D : Kt}, D (.bl (f && isIn bh [49])) M → wE (callW G (d + 1)) (.and (.ix (.v 0) (.k (.int 3))) (.call 141 (.cons (.v 2) (.cons (.gl 3 g_DIGITS) .nil)))) [some (manV kd op w f), some (.str ah), some (.str bh)] M D X0 := fun {D} hD => by
    cases f with
    | false =>
      conv => whnf
      exact hD
    | true =>
      conv => whnf
      exact sp_is_in hI h2 hD
  cases w with
  | false =>
    conv => whnf
    exact tail q
  | true =>
    conv => whnf
    refine sp_is_in hI h1 ?_
    cases e1 : isIn ah [97, 98] with
    | false =>
      rw [e1] at q
      conv => whnf
      exact tail q
    | true =>
      rw [e1] at q
      conv => whnf
      refine sp_is_in hI h2 ?_
      cases e2 : isIn bh [97, 98] with
      | false =>
        rw [e2] at q
        conv => whnf
        exact tail q
      | true =>
        rw [e2] at q
        conv => whnf
        exact q
/-! ### the state -/
def stP (kd st : List Nat) (sg : Nat) : List Nat :=
  if sg = 60 ∨ sg = 123 then (if srt sg ∈ st then st else st ++ [srt sg]) else if kd = kTur then st.filter (· != srt sg) else if srt sg ∈ st then st.takeWhile (· != srt sg) else st
def stB (kd : List Nat) (w f : Bool) (st ah : List Nat) (sg : Nat) (bh : List Nat) : List Nat :=
  if kd = kBes ∨ ¬ Qd sg then st else if sg = 125 ∧ apos w f ah bh = true then st else stP kd st sg
theorem sbFin_ok {kd : List Nat} {op : List (List Nat)} {w f : Bool} {st : List Nat} {sg : Nat} {M : Mem} {D : En} (q : D.rt (.str (stP kd st sg)) M) : sbFin (manV kd op w f) st sg D M := by
  unfold sbFin stP at *
  by_cases h : sg = 60 ∨ sg = 123
  · rw [decide_eq_true h]
    rw [if_pos h] at q
    exact q
  · rw [decide_eq_false h]
    rw [if_neg h] at q
    show (match decide (kd = [116, 117, 114, 110, 115]) with
      | true => D.rt (.str (st.filter (· != srt sg))) M
      | false => D.rt (.str (if srt sg ∈ st then st.takeWhile (· != srt sg) else st)) M)
    by_cases hk : kd = kTur
    · rw [if_pos hk] at q
      rw [decide_eq_true (show kd = [116, 117, 114, 110, 115] from hk)]
      exact q
    · rw [if_neg hk] at q
      rw [decide_eq_false (show ¬ kd = [116, 117, 114, 110, 115] from hk)]
      exact q
theorem sp_state (hI : Is G) {d : Nat} {kd : List Nat} {op : List (List Nat)} {w f : Bool} {st ah bh : List Nat} {sg : Nat} {M : Mem} {Q : Kt} {Z : Xt} (h1 : One ah) (h2 : One bh) (hl : st.length ≤ 1000)
    (q : Q (.str (stB kd w f st ah sg bh)) M) : callW G (d + 3) 182 [manV kd op w f, .str st, .str ah, .str [sg], .str bh] M Q Z := by
  refine call_in (hI _ _ rfl) rfl ?_
  unfold stB at q
  conv => whnf
  by_cases hk : kd = kBes
  · rw [decide_eq_true (show kd = [98, 101, 115, 105, 100, 101] from hk)]
    rw [if_pos (.inl hk)] at q
    conv => whnf
    exact q
  · rw [decide_eq_false (show ¬ kd = [98, 101, 115, 105, 100, 101] from hk)]
    conv => whnf
    refine ⟨by decide, ?_⟩
    refine sp_is_in hI (.inr ⟨sg, rfl⟩) ?_
    have hq : isIn [sg] ([60, 123] ++ [62, 125]) = decide (Qd sg) := by
      unfold isIn Qd
      simp only [List.cons_append, List.nil_append, List.mem_cons, List.not_mem_nil, or_false]
      exact decide_eq_decide.mpr ⟨fun z => by rcases z with z | z | z | z <;> simp [z], fun z => by rcases z with z | z | z | z <;> simp [z]⟩
    conv => whnf
    rw [hq]
    by_cases hd : Qd sg
    · rw [decide_eq_true hd]
      have hn : ¬ (kd = kBes ∨ ¬ Qd sg) := fun z => z.elim hk fun y => y hd
      rw [if_neg hn] at q
      conv => whnf
      refine ⟨⟨hd, hl⟩, ?_⟩
      by_cases h125 : sg = 125
      · rw [decide_eq_true h125]
        refine sp_apos hI h1 h2 ?_
        cases ha : apos w f ah bh with
        | true =>
          rw [if_pos ⟨h125, ha⟩] at q
          exact q
        | false =>
          rw [if_neg (fun z => by rw [ha] at z; cases z.2)] at q
          exact sbFin_ok q
      · rw [decide_eq_false h125]
        rw [if_neg (fun z => h125 z.1)] at q
        exact sbFin_ok q
    · rw [decide_eq_false hd]
      rw [if_pos (.inr hd)] at q
      conv => whnf
      exact q
end Qm
namespace Qm
open Qt
variable {G : Nat → Option PF}
local macro_rules | `(tactic| tm_at "v") => `(tactic| ((conv => whnf); repeat (refine And.intro (by first | with_reducible rfl | with_reducible assumption | exact LLle (by omega) | exact LLle (by simp; omega) | omega | decide | exact Nat.le_of_ble_eq_true rfl) ?_; (conv => whnf))))
local macro_rules | `(tactic| tm_at "w") => `(tactic| ((conv => whnf); repeat (refine And.intro (by first | decide | assumption | omega | rfl | exact Nat.le_of_ble_eq_true rfl) ?_; (conv => whnf))))
def clsOf : List Nat → List Nat
  | [] => cStart
  | c :: _ => if c = 32 then cBlank else if c = 40 then cBrack else if c = 45 then cDash else if c = 60 then cQuote else if c = 123 then cQuote else cOther
theorem sp_class (hI : Is G) {d : Nat} {ah : List Nat} {M : Mem} {Q : Kt} {Z : Xt} (h : One ah) (q : Q (.str (clsOf ah)) M) : callW G (d + 1) 122 [.str ah] M Q Z := by
  refine call_in (hI _ _ rfl) rfl ?_
  rcases h with rfl | ⟨c, rfl⟩
  · conv => whnf
    exact q
  · conv => whnf
    have e : (dFind (.str [c]) [.str [32], .str [40], .str [45], .str [60], .str [123]] [.str cBlank, .str cBrack, .str cDash, .str cQuote, .str cQuote]).getD (.str cOther) = .str (clsOf [c]) := by
      unfold clsOf
      simp only [dFind, PV.eqv, List.cons.injEq, and_true]
      by_cases h1 : c = 32
      · simp [h1]
      · by_cases h2 : c = 40
        · simp [h2]
        · by_cases h3 : c = 45
          · simp [h3]
          · by_cases h4 : c = 60
            · simp [h4]
            · by_cases h5 : c = 123
              · simp [h5]
              · simp [h1, h2, h3, h4, h5, Ne.symm h1, Ne.symm h2, Ne.symm h3, Ne.symm h4, Ne.symm h5]
    rw [← e] at q
    exact ⟨rfl, q⟩
def opn (kd : List Nat) (op : List (List Nat)) (st ah : List Nat) (sg : Nat) : Bool := if kd = kBes then decide (clsOf ah ∈ op) else !decide (sg ∈ st)
def qut (sg : Nat) (o : Bool) : Nat := if sg = 34 then (if o then 60 else 62) else (if o then 123 else 125)
def outc (kd : List Nat) (op : List (List Nat)) (w f : Bool) (st ah : List Nat) (sg : Nat) (bh : List Nat) : Nat := if sg = 39 ∧ apos w f ah bh = true then 125 else qut sg (opn kd op st ah sg)
theorem sp_outcome (hI : Is G) {d : Nat} {kd : List Nat} {op : List (List Nat)} {w f : Bool} {st ah bh : List Nat} {sg : Nat} {M : Mem} {Q : Kt} {Z : Xt} (h1 : One ah) (h2 : One bh) (hs : sg = 34 ∨ sg = 39)
    (q : Q (.str [outc kd op w f st ah sg bh]) M) : callW G (d + 3) 170 [manV kd op w f, .str st, .str ah, .str [sg], .str bh] M Q Z := by
  refine call_in (hI _ _ rfl) rfl ?_
  have fin : ∀ o : Bool, Q (.str [qut sg o]) M → wS (callW G (d + 2)) (.ret (.ix (.ix (.ds (.cons (.k (.str [34])) (.cons (.k (.str [39])) .nil)) (.cons (.k (.str [62, 60])) (.cons (.k (.str [125, 123])) .nil))) (.v 3)) (.bi .int (.cons (.v 5) .nil)))) [some (manV kd op w f), some (.str st), some (.str ah), some (.str [sg]), some (.str bh), some (.bl o)] M { nx := fun _ M1 => Q .non M1, rt := Q, ct := fun _ _ => False, ex := Z } := fun o ho => by
    rcases hs with rfl | rfl <;> cases o <;> (conv => whnf) <;> refine ⟨rfl, ?_⟩ <;> (conv => whnf) <;> exact ⟨by decide, ho⟩
  have tail : Q (.str [qut sg (opn kd op st ah sg)]) M → wS (callW G (d + 2)) (.seq (.asg 5 (.ite (.cmp .eq (.ix (.v 0) (.k (.int 0))) (.k (.str [98, 101, 115, 105, 100, 101]))) (.cmp .in_ (.call 122 (.cons (.v 2) .nil)) (.ix (.v 0) (.k (.int 1)))) (.cmp .notin (.v 3) (.v 1)))) (.ret (.ix (.ix (.ds (.cons (.k (.str [34])) (.cons (.k (.str [39])) .nil)) (.cons (.k (.str [62, 60])) (.cons (.k (.str [125, 123])) .nil))) (.v 3)) (.bi .int (.cons (.v 5) .nil))))) [some (manV kd op w f), some (.str st), some (.str ah), some (.str [sg]), some (.str bh), none] M { nx := fun _ M1 => Q .non M1, rt := Q, ct := fun _ _ => False, ex := Z } := fun ho => by
    unfold opn at ho
    conv => whnf
    by_cases hk : kd = kBes
    · rw [decide_eq_true (show kd = [98, 101, 115, 105, 100, 101] from hk)]
      rw [if_pos hk] at ho
      conv => whnf
      refine sp_class hI h1 ?_
      conv => whnf
      refine ⟨by rw [scal_strs]; rfl, ?_⟩
      rw [any_strs]
      exact fin _ ho
    · rw [decide_eq_false (show ¬ kd = [98, 101, 115, 105, 100, 101] from hk)]
      rw [if_neg hk] at ho
      conv => whnf
      exact fin _ ho
  unfold outc at q
  rcases hs with rfl | rfl
  · rw [if_neg (by simp)] at q
    conv => whnf
    exact tail q
  · conv => whnf
    refine sp_apos hI h1 h2 ?_
    cases ha : apos w f ah bh with
    | true =>
      rw [ha, if_pos ⟨rfl, rfl⟩] at q
      conv => whnf
      exact q
    | false =>
      rw [ha, if_neg (by simp)] at q
      conv => whnf
      exact tail q
end Qm
namespace Qm
open Qt
variable {G : Nat → Option PF}
local macro_rules | `(tactic| tm_at "v") => `(tactic| ((conv => whnf); repeat (refine And.intro (by first | with_reducible rfl | with_reducible assumption | exact LLle (by omega) | exact LLle (by simp; omega) | omega | decide | exact Nat.le_of_ble_eq_true rfl) ?_; (conv => whnf))))
local macro_rules | `(tactic| tm_at "w") => `(tactic| ((conv => whnf); repeat (refine And.intro (by first | decide | assumption | omega | rfl | exact Nat.le_of_ble_eq_true rfl) ?_; (conv => whnf))))
def last1 (x : List Nat) : List Nat := x.drop (x.length - 1)
theorem last1_one (x : List Nat) : One (last1 x) := by
  unfold last1
  cases h : x.drop (x.length - 1) with
  | nil => exact .inl rfl
  | cons a r =>
    cases r with
    | nil => exact .inr ⟨a, rfl⟩
    | cons b r =>
      have := congrArg List.length h
      simp at this
      omega
theorem take1_one (x : List Nat) : One (x.take 1) := by
  cases x with
  | nil => exact .inl rfl
  | cons c r => exact .inr ⟨c, rfl⟩
theorem cut_last (x : List Nat) : cutL x (some (-1)) none = last1 x := by
  unfold cutL last1
  have e1 : cutE x.length 0 (some (-1)) = x.length - 1 := by
    show (if (-1 : Int) < 0 then ((-1 : Int) + x.length).toNat else min (-1 : Int).toNat x.length) = _
    rw [if_pos (by omega)]
    omega
  have e2 : cutE x.length x.length none = x.length := rfl
  rw [e1, e2]
  refine List.take_of_length_le ?_
  rw [List.length_drop]
  exact Nat.le_refl _
theorem cut_next {pre rest : List Nat} {c : Nat} : cutL (pre ++ c :: rest) (some ((pre.length : Int) + 1)) (some ((pre.length : Int) + 2)) = rest.take 1 := by
  have e1 : cutE (pre ++ c :: rest).length 0 (some ((pre.length : Int) + 1)) = pre.length + 1 := by
    show (if (pre.length : Int) + 1 < 0 then ((pre.length : Int) + 1 + (pre ++ c :: rest).length).toNat else min ((pre.length : Int) + 1).toNat (pre ++ c :: rest).length) = _
    rw [if_neg (by omega), List.length_append, List.length_cons]
    omega
  have e2 : cutE (pre ++ c :: rest).length (pre ++ c :: rest).length (some ((pre.length : Int) + 2)) = min (pre.length + 2) (pre.length + (rest.length + 1)) := by
    show (if (pre.length : Int) + 2 < 0 then ((pre.length : Int) + 2 + (pre ++ c :: rest).length).toNat else min ((pre.length : Int) + 2).toNat (pre ++ c :: rest).length) = _
    rw [if_neg (by omega), List.length_append, List.length_cons]
    omega
  unfold cutL
  rw [e1, e2]
  have e3 : (pre ++ c :: rest).drop (pre.length + 1) = rest := by
    rw [List.drop_append, List.drop_of_length_le (by omega)]
    simp
  rw [e3]
  cases rest with
  | nil => simp
  | cons b r => 
    have : min (pre.length + 2) (pre.length + ((b :: r).length + 1)) - (pre.length + 1) = 1 := by rw [List.length_cons]; omega
    rw [this]
end Qm
namespace Qm
open Qt
variable {G : Nat → Option PF}
local macro_rules | `(tactic| tm_at "v") => `(tactic| ((conv => whnf); repeat (refine And.intro (by first | with_reducible rfl | with_reducible assumption | exact LLle (by omega) | exact LLle (by simp; omega) | omega | decide | exact Nat.le_of_ble_eq_true rfl) ?_; (conv => whnf))))
local macro_rules | `(tactic| tm_at "w") => `(tactic| ((conv => whnf); repeat (refine And.intro (by first | decide | assumption | omega | rfl | exact Nat.le_of_ble_eq_true rfl) ?_; (conv => whnf))))
/-- turning, from a state on -/
def tw (kd : List Nat) (op : List (List Nat)) (w f looks : Bool) : List Nat → List Nat → List Nat → List Nat
  | found, _, [] => found
  | found, st, c :: r =>
    let c' := if c = 34 ∨ c = 39 then outc kd op w f st (last1 found) c (if looks then r.take 1 else []) else c
    tw kd op w f looks (found ++ [c']) (stB kd w f st (last1 found) c' (r.take 1)) r
theorem stB_len (kd : List Nat) (w f : Bool) (st ah : List Nat) (sg : Nat) (bh : List Nat) : (stB kd w f st ah sg bh).length ≤ st.length + 1 := by
  unfold stB stP
  have h1 := List.length_filter_le (fun x => x != srt sg) st
  have h2 : (st.takeWhile fun x => x != srt sg).length ≤ st.length := (List.takeWhile_prefix (p := fun x => x != srt sg) (l := st)).length_le
  split
  · omega
  · split
    · omega
    · split
      · split
        · omega
        · simp
      · split
        · omega
        · split <;> omega
end Qm
namespace Qm
open Qt
variable {G : Nat → Option PF}
local macro_rules | `(tactic| tm_at "v") => `(tactic| ((conv => whnf); repeat (refine And.intro (by first | with_reducible rfl | with_reducible assumption | exact LLle (by omega) | exact LLle (by simp; omega) | omega | decide | exact Nat.le_of_ble_eq_true rfl) ?_; (conv => whnf))))
local macro_rules | `(tactic| tm_at "w") => `(tactic| ((conv => whnf); repeat (refine And.intro (by first | decide | assumption | omega | rfl | exact Nat.le_of_ble_eq_true rfl) ?_; (conv => whnf))))
def sSig : List Nat := [32, 40, 41, 46, 45, 49, 97, 98, 34, 39, 60, 123, 62, 125]
theorem bools_map (p : Nat → Bool) : ∀ l : List Nat, bools (l.map fun c => PV.bl (p c)) = some (l.map p)
  | [] => rfl
  | c :: r => by
    show (match bools (r.map fun c => PV.bl (p c)) with
      | some bs => some (p c :: bs)
      | none => none) = _
    rw [bools_map p r]
    rfl
theorem all_map (p : Nat → Bool) : ∀ l : List Nat, (l.map p).all id = l.all p
  | [] => rfl
  | c :: r => by rw [List.map_cons, List.all_cons, List.all_cons, all_map p r]; rfl
end Qm
namespace Qm
open Qt
variable {G : Nat → Option PF}
local macro_rules | `(tactic| tm_at "v") => `(tactic| ((conv => whnf); repeat (refine And.intro (by first | with_reducible rfl | with_reducible assumption | exact LLle (by omega) | exact LLle (by simp; omega) | omega | decide | exact Nat.le_of_ble_eq_true rfl) ?_; (conv => whnf))))
local macro_rules | `(tactic| tm_at "w") => `(tactic| ((conv => whnf); repeat (refine And.intro (by first | decide | assumption | omega | rfl | exact Nat.le_of_ble_eq_true rfl) ?_; (conv => whnf))))
abbrev Sm (c : Nat) : Prop := c < 1114112
theorem ok_one {c : Nat} (h : Sm c) : PV.ok (.str [c]) = true := by
  show ([c].all (· < 1114112)) = true
  simp only [List.all_cons, List.all_nil, Bool.and_true, decide_eq_true_eq]
  exact h
theorem ok_s {x : List Nat} (h : x.all (· < 1114112) = true) : PV.ok (.str x) = true := h
theorem ok_two {x : List Nat} {a b : Nat} (h : x.all (· < 1114112) = true) (ha : Sm a) (hb : Sm b) : (PV.ok (.str x) && PV.ok (.lst [.str [a], .str [b]])) = true := by
  rw [ok_s h]
  show (true && (PV.ok (.str [a]) && (PV.ok (.str [b]) && true))) = true
  rw [ok_one ha, ok_one hb]
  rfl
theorem sm_one {c : Nat} (h : Sm c) : [c].all (· < 1114112) = true := ok_one h
theorem any_two (c a b : Nat) : ([PV.str [a], .str [b]].any fun z => PV.eqv z (.str [c])) = decide (c = a ∨ c = b) := by
  show (decide ([a] = [c]) || (decide ([b] = [c]) || false)) = _
  rw [Bool.or_false, ← Bool.decide_or]
  exact decide_eq_decide.mpr ⟨fun z => z.imp (fun y => by cases y; rfl) (fun y => by cases y; rfl), fun z => z.imp (fun y => by rw [y]) (fun y => by rw [y])⟩
def sortL (c : Nat) : Nat := if c = 60 ∨ c = 62 then 34 else if c = 123 ∨ c = 125 then 39 else c
/-- at most one sign, a small one -/
def OneS (x : List Nat) : Prop := x = [] ∨ ∃ c, x = [c] ∧ Sm c
theorem OneS.one {x : List Nat} (h : OneS x) : One x := h.imp id fun ⟨c, e, _⟩ => ⟨c, e⟩
theorem OneS.all {x : List Nat} (h : OneS x) : x.all (· < 1114112) = true := by
  rcases h with rfl | ⟨c, rfl, hc⟩
  · rfl
  · exact sm_one hc
theorem any_ab {x : List Nat} (h : One x) : ([PV.str [97], .str [98]].any fun z => PV.eqv z (.str x)) = isIn x [97, 98] := by
  rcases h with rfl | ⟨c, rfl⟩
  · rfl
  · rw [any_two]
    unfold isIn
    exact decide_eq_decide.mpr (by simp)
end Qm
namespace Qm
open Qt
variable {G : Nat → Option PF}
local macro_rules | `(tactic| tm_at "v") => `(tactic| ((conv => whnf); repeat (refine And.intro (by first | with_reducible rfl | with_reducible assumption | exact LLle (by omega) | exact LLle (by simp; omega) | omega | decide | exact Nat.le_of_ble_eq_true rfl) ?_; (conv => whnf))))
local macro_rules | `(tactic| tm_at "w") => `(tactic| ((conv => whnf); repeat (refine And.intro (by first | decide | assumption | omega | rfl | exact Nat.le_of_ble_eq_true rfl) ?_; (conv => whnf))))
def twT (kd : List Nat) (op : List (List Nat)) (w f : Bool) (t : List Nat) : List Nat := tw kd op w f true [] [] t
def twK (kd : List Nat) (op : List (List Nat)) (w f : Bool) (t : List Nat) : List Nat := tw kd op w f false [] [] t
theorem tw_len {kd : List Nat} {op : List (List Nat)} {w f looks : Bool} : ∀ (t found st : List Nat), (tw kd op w f looks found st t).length = found.length + t.length
  | [], _, _ => rfl
  | c :: r, found, st => by
    unfold tw
    rw [tw_len r]
    simp
    omega
theorem qd_sg {c : Nat} (h : Qd c) : c ∈ sSig := by
  rcases h with rfl | rfl | rfl | rfl <;> decide
theorem tw_sg {kd : List Nat} {op : List (List Nat)} {w f looks : Bool} : ∀ (t found st : List Nat), (∀ c ∈ t, c ∈ sSig) → (∀ c ∈ found, c ∈ sSig) → ∀ c ∈ tw kd op w f looks found st t, c ∈ sSig
  | [], _, _, _, h => h
  | c :: r, found, st, ht, hf => by
    unfold tw
    refine tw_sg r _ _ (fun x hx => ht x (List.mem_cons_of_mem _ hx)) fun x hx => ?_
    rcases List.mem_append.mp hx with z | z
    · exact hf x z
    · rw [List.mem_singleton] at z
      rw [z]
      split
      · exact qd_sg outc_in'
      · exact ht c (List.mem_cons_self ..)
where
  outc_in' {kd : List Nat} {op : List (List Nat)} {w f : Bool} {st ah : List Nat} {sg : Nat} {bh : List Nat} : Qd (outc kd op w f st ah sg bh) := by
    have qut_in' : ∀ (sg : Nat) (o : Bool), Qd (qut sg o) := fun sg o => by
      unfold qut Qd
      split <;> cases o <;> simp
    unfold outc
    split
    · exact .inr (.inr (.inr rfl))
    · exact qut_in' _ _
theorem outc_qd {kd : List Nat} {op : List (List Nat)} {w f : Bool} {st ah : List Nat} {sg : Nat} {bh : List Nat} : Qd (outc kd op w f st ah sg bh) := tw_sg.outc_in'
/-- the straight sign of a quote that was turned -/
theorem outc_sort {kd : List Nat} {op : List (List Nat)} {w f : Bool} {st ah : List Nat} {sg : Nat} {bh : List Nat} (h : sg = 34 ∨ sg = 39) : sortL (outc kd op w f st ah sg bh) = sg := by
  unfold outc
  split
  · rename_i z
    rw [z.1]
    rfl
  · unfold qut
    rcases h with rfl | rfl
    · cases opn kd op st ah 34 <;> rfl
    · cases opn kd op st ah 39 <;> rfl
theorem tw_sort {kd : List Nat} {op : List (List Nat)} {w f looks : Bool} : ∀ (t found st : List Nat), (tw kd op w f looks found st t).map sortL = found.map sortL ++ t.map sortL
  | [], found, _ => by rw [List.map_nil, List.append_nil]; rfl
  | c :: r, found, st => by
    unfold tw
    rw [tw_sort r, List.map_append, List.append_assoc]
    congr 1
    rw [List.map_cons, List.map_cons, List.map_nil]
    show _ :: r.map sortL = _ :: r.map sortL
    congr 1
    split
    · rename_i h
      rw [outc_sort h]
      rcases h with rfl | rfl <;> rfl
    · rfl
/-- what is no straight quote stays -/
theorem tw_id {kd : List Nat} {op : List (List Nat)} {w f looks : Bool} : ∀ (t found st : List Nat), (∀ c ∈ t, ¬ (c = 34 ∨ c = 39)) → tw kd op w f looks found st t = found ++ t
  | [], found, _, _ => by rw [List.append_nil]; rfl
  | c :: r, found, st, h => by
    unfold tw
    rw [if_neg (h c (List.mem_cons_self ..)), tw_id r _ _ fun x hx => h x (List.mem_cons_of_mem _ hx), List.append_assoc]
    rfl
theorem tw_noq {kd : List Nat} {op : List (List Nat)} {w f looks : Bool} : ∀ (t found st : List Nat), (∀ c ∈ found, ¬ (c = 34 ∨ c = 39)) → ∀ c ∈ tw kd op w f looks found st t, ¬ (c = 34 ∨ c = 39)
  | [], _, _, h => h
  | c :: r, found, st, h => by
    unfold tw
    refine tw_noq r _ _ fun x hx => ?_
    rcases List.mem_append.mp hx with z | z
    · exact h x z
    · rw [List.mem_singleton] at z
      rw [z]
      split
      · rcases outc_qd (kd := kd) (op := op) (w := w) (f := f) (st := st) (ah := last1 found) (sg := c) (bh := if looks then r.take 1 else []) with e | e | e | e <;> rw [e] <;> decide
      · rename_i h
        exact h
end Qm
namespace Qm
open Qt
variable {G : Nat → Option PF}
local macro_rules | `(tactic| tm_at "v") => `(tactic| ((conv => whnf); repeat (refine And.intro (by first | with_reducible rfl | with_reducible assumption | exact LLle (by omega) | exact LLle (by simp; omega) | omega | decide | exact Nat.le_of_ble_eq_true rfl) ?_; (conv => whnf))))
local macro_rules | `(tactic| tm_at "w") => `(tactic| ((conv => whnf); repeat (refine And.intro (by first | decide | assumption | omega | rfl | exact Nat.le_of_ble_eq_true rfl) ?_; (conv => whnf))))
def subsL {α : Type} : List α → List (List α)
  | [] => [[]]
  | x :: r => subsL r ++ (subsL r).map (x :: ·)
def cCl : List (List Nat) := [cBlank, cBrack, cDash, cQuote, cStart]
def VM (kd : List Nat) (op : List (List Nat)) : Prop := (kd = kBes ∧ op ∈ subsL cCl) ∨ ((kd = kNes ∨ kd = kTur) ∧ op = [])
theorem zipL_map {α β : Type} (f : α → PV) (g : β → PV) : ∀ (xs : List α) (ys : List β), zipL (xs.map f) (ys.map g) = (xs.zip ys).map fun p => .tup [f p.1, g p.2]
  | [], _ => rfl
  | _ :: _, [] => rfl
  | x :: xs, y :: ys => congrArg (_ :: ·) (zipL_map f g xs ys)
theorem cut_one {α : Type} (xs : List α) : cutL xs (some 1) none = xs.drop 1 := by
  unfold cutL
  have e : cutE xs.length 0 (some 1) = min 1 xs.length := rfl
  have e2 : cutE xs.length xs.length none = xs.length := rfl
  rw [e, e2]
  cases xs with
  | nil => rfl
  | cons x r =>
    have : min 1 (x :: r).length = 1 := by simp
    rw [this]
    exact List.take_of_length_le (by simp)
theorem bools_map' {α : Type} (p : α → Bool) : ∀ l : List α, bools (l.map fun c => PV.bl (p c)) = some (l.map p)
  | [] => rfl
  | c :: r => by
    show (match bools (r.map fun c => PV.bl (p c)) with
      | some bs => some (p c :: bs)
      | none => none) = _
    rw [bools_map' p r]
    rfl
theorem all_map' {α : Type} (p : α → Bool) : ∀ l : List α, (l.map p).all id = l.all p
  | [] => rfl
  | c :: r => by rw [List.map_cons, List.all_cons, List.all_cons, all_map' p r]; rfl
def isMan (kd : List Nat) (op : List (List Nat)) : Bool := decide (kd ∈ [kBes, kNes, kTur]) && ((op.all fun x => decide (x ∈ cCl)) && (((op.zip (op.drop 1)).all fun p => ltN p.1 p.2) && (decide (kd = kBes) || decide (op = []))))
theorem ok_cls : ∀ op : List (List Nat), (op.all fun x => decide (x ∈ cCl)) = true → PV.ok (.tup (op.map PV.str)) = true
  | [], _ => rfl
  | x :: r, h => by
    rw [List.all_cons, Bool.and_eq_true, decide_eq_true_eq] at h
    have ih := ok_cls r h.2
    show (PV.okd 19 (.str x) && oks 19 (r.map PV.str)) = true
    have e1 : oks 19 (r.map PV.str) = true := ih
    have e2 : PV.okd 19 (.str x) = true := by
      have hx := h.1
      simp only [cCl, List.mem_cons, List.not_mem_nil, or_false] at hx
      rcases hx with rfl | rfl | rfl | rfl | rfl <;> rfl
    rw [e1, e2]
    rfl
theorem sp_is_manner0 (hI : Is G) {d : Nat} {kd : List Nat} {op : List (List Nat)} {w f : Bool} {M : Mem} {Q : Kt} {Z : Xt} (hl : op.length ≤ 1000) (q : Q (.bl (isMan kd op)) M) : callW G (d + 1) 142 [manV kd op w f] M Q Z := by
  refine call_in (hI _ _ rfl) rfl ?_
  have hLL : op.length ≤ LL := Nat.le_trans hl (by decide)
  unfold isMan at q
  tm_at "w"
  rw [show ([PV.str [98, 101, 115, 105, 100, 101], .str [110, 101, 115, 116, 101, 100], .str [116, 117, 114, 110, 115]].any fun z => PV.eqv z (.str kd)) = decide (kd ∈ [kBes, kNes, kTur]) from any_strs kd [kBes, kNes, kTur]]
  by_cases hk : kd ∈ [kBes, kNes, kTur]
  · rw [decide_eq_true hk] at q ⊢
    conv => whnf
    refine ⟨rfl, ?_⟩
    conv => whnf
    refine ⟨rfl, ?_⟩
    conv => whnf
    refine ⟨rfl, ?_⟩
    conv => whnf
    refine ⟨by rw [List.length_map]; exact hLL, ?_⟩
    refine wLc_map (f := PV.str) (fun _ => true) (fun x => .bl (decide (x ∈ cCl))) op (fun x _ => ⟨_, rfl, fun K hK => hK, fun _ K hK => ⟨rfl, ⟨rfl, by
      show (fun z => K (PV.bl z) M) ((cCl.map PV.str).any fun z => PV.eqv z (.str x))
      rw [any_strs]
      exact hK⟩⟩⟩) [] _ ?_
    rw [List.filter_eq_self.mpr fun _ _ => rfl, List.nil_append]
    conv => whnf
    rw [bools_map']
    conv => whnf
    rw [all_map']
    cases ho : (op.all fun x => decide (x ∈ cCl)) with
    | false =>
      rw [ho] at q
      exact q
    | true =>
      rw [ho] at q
      conv => whnf
      rw [show cutL (op.map PV.str) (some 1) none = (op.drop 1).map PV.str by rw [cut_one, List.map_drop], zipL_map]
      refine ⟨by rw [List.length_map, List.length_zip]; exact Nat.le_trans (Nat.min_le_left ..) hLL, ?_⟩
      refine wLc_map (f := fun p : List Nat × List Nat => .tup [.str p.1, .str p.2]) (fun _ => true) (fun p => .bl (ltN p.1 p.2)) (op.zip (op.drop 1)) (fun x _ => ⟨_, rfl, fun K hK => hK, fun _ K hK => hK⟩) [] _ ?_
      rw [List.filter_eq_self.mpr fun _ _ => rfl, List.nil_append]
      conv => whnf
      rw [bools_map']
      conv => whnf
      rw [all_map']
      cases ha : ((op.zip (op.drop 1)).all fun p => ltN p.1 p.2) with
      | false =>
        rw [ha] at q
        exact q
      | true =>
        rw [ha] at q
        conv => whnf
        by_cases hb : kd = kBes
        · rw [decide_eq_true hb] at q
          rw [decide_eq_true (show kd = [98, 101, 115, 105, 100, 101] from hb)]
          exact q
        · rw [decide_eq_false hb] at q
          rw [decide_eq_false (show ¬ kd = [98, 101, 115, 105, 100, 101] from hb)]
          conv => whnf
          refine ⟨by decide, ?_⟩
          conv => whnf
          refine ⟨by rw [ok_cls op ho]; rfl, ?_⟩
          cases op with
          | nil => exact q
          | cons x r => exact q
  · rw [decide_eq_false hk] at q ⊢
    exact q
theorem vm_is : ∀ op ∈ subsL cCl, isMan kBes op = true := by decide +kernel
theorem vm_len {kd : List Nat} {op : List (List Nat)} (h : VM kd op) : op.length ≤ 5 := by
  rcases h with ⟨_, h⟩ | ⟨_, rfl⟩
  · have : ∀ op ∈ subsL cCl, op.length ≤ 5 := by decide +kernel
    exact this op h
  · decide
theorem vm_man {kd : List Nat} {op : List (List Nat)} (h : VM kd op) : isMan kd op = true := by
  rcases h with ⟨rfl, h⟩ | ⟨rfl | rfl, rfl⟩
  · exact vm_is op h
  · decide
  · decide
theorem sp_is_manner (hI : Is G) {d : Nat} {kd : List Nat} {op : List (List Nat)} {w f : Bool} {M : Mem} {Q : Kt} {Z : Xt} (h : VM kd op) (q : Q (.bl true) M) : callW G (d + 1) 142 [manV kd op w f] M Q Z :=
  sp_is_manner0 hI (by have := vm_len h; omega) (by rw [vm_man h]; exact q)
end Qm
namespace Qm
open Qt
variable {G : Nat → Option PF}
local macro_rules | `(tactic| tm_at "v") => `(tactic| ((conv => whnf); repeat (refine And.intro (by first | with_reducible rfl | with_reducible assumption | exact LLle (by omega) | exact LLle (by simp; omega) | omega | decide | exact Nat.le_of_ble_eq_true rfl) ?_; (conv => whnf))))
local macro_rules | `(tactic| tm_at "w") => `(tactic| ((conv => whnf); repeat (refine And.intro (by first | decide | assumption | omega | rfl | exact Nat.le_of_ble_eq_true rfl) ?_; (conv => whnf))))
theorem vm_kd {kd : List Nat} {op : List (List Nat)} (h : VM kd op) : kd = kBes ∨ kd = kNes ∨ kd = kTur := h.elim (fun z => .inl z.1) fun z => .inr z.1
end Qm
namespace Qm
open Qt
variable {G : Nat → Option PF}
local macro_rules | `(tactic| tm_at "v") => `(tactic| ((conv => whnf); repeat (refine And.intro (by first | with_reducible rfl | with_reducible assumption | exact LLle (by omega) | exact LLle (by simp; omega) | omega | decide | exact Nat.le_of_ble_eq_true rfl) ?_; (conv => whnf))))
local macro_rules | `(tactic| tm_at "w") => `(tactic| ((conv => whnf); repeat (refine And.intro (by first | decide | assumption | omega | rfl | exact Nat.le_of_ble_eq_true rfl) ?_; (conv => whnf))))
/-- a manner -/
structure Mn where
  kd : List Nat
  op : List (List Nat)
  w : Bool
  f : Bool
deriving DecidableEq
def Mn.v (m : Mn) : PV := manV m.kd m.op m.w m.f
def Mn.ok (m : Mn) : Prop := VM m.kd m.op
theorem enumL_map {α : Type} (f : α → PV) : ∀ (xs : List α) (n : Nat), enumL n (xs.map f) = (xs.zipIdx n).map fun p => .tup [.int p.2, f p.1]
  | [], _ => rfl
  | x :: xs, n => by
    rw [List.map_cons, List.zipIdx_cons, List.map_cons, ← enumL_map f xs (n + 1)]
    rfl
end Qm
namespace Qm
open Qt
variable {G : Nat → Option PF}
local macro_rules | `(tactic| tm_at "v") => `(tactic| ((conv => whnf); repeat (refine And.intro (by first | with_reducible rfl | with_reducible assumption | exact LLle (by omega) | exact LLle (by simp; omega) | omega | decide | exact Nat.le_of_ble_eq_true rfl) ?_; (conv => whnf))))
local macro_rules | `(tactic| tm_at "w") => `(tactic| ((conv => whnf); repeat (refine And.intro (by first | decide | assumption | omega | rfl | exact Nat.le_of_ble_eq_true rfl) ?_; (conv => whnf))))
/-- the sign made of c -/
def mk1 (m : Mn) (lk : Bool) (st ah : List Nat) (c : Nat) (bh : List Nat) : Nat := if c = 34 ∨ c = 39 then outc m.kd m.op m.w m.f st ah c (if lk then bh else []) else c
/-- what comes out, sign by sign -/
def twA (m : Mn) (lk : Bool) : List Nat → List Nat → List Nat → List Nat
  | _, _, [] => []
  | st, ah, c :: r => mk1 m lk st ah c (r.take 1) :: twA m lk (stB m.kd m.w m.f st ah (mk1 m lk st ah c (r.take 1)) (r.take 1)) [mk1 m lk st ah c (r.take 1)] r
theorem tw_twA (m : Mn) (lk : Bool) : ∀ (t found st : List Nat), tw m.kd m.op m.w m.f lk found st t = found ++ twA m lk st (last1 found) t
  | [], found, st => by rw [show twA m lk st (last1 found) [] = [] from rfl, List.append_nil]; rfl
  | c :: r, found, st => by
    unfold tw
    have e := tw_twA m lk r (found ++ [mk1 m lk st (last1 found) c (r.take 1)]) (stB m.kd m.w m.f st (last1 found) (mk1 m lk st (last1 found) c (r.take 1)) (r.take 1))
    have l : last1 (found ++ [mk1 m lk st (last1 found) c (r.take 1)]) = [mk1 m lk st (last1 found) c (r.take 1)] := by
      unfold last1
      simp
    rw [l, List.append_assoc] at e
    exact e
def Mn.tw (m : Mn) (t : List Nat) : List Nat := twT m.kd m.op m.w m.f t
def Mn.twk (m : Mn) (t : List Nat) : List Nat := twK m.kd m.op m.w m.f t
theorem Mn.tw_A (m : Mn) (t : List Nat) : m.tw t = twA m true [] [] t := tw_twA m true t [] []
theorem Mn.twk_A (m : Mn) (t : List Nat) : m.twk t = twA m false [] [] t := tw_twA m false t [] []
end Qm
namespace Qm
open Qt
variable {G : Nat → Option PF}
local macro_rules | `(tactic| tm_at "v") => `(tactic| ((conv => whnf); repeat (refine And.intro (by first | with_reducible rfl | with_reducible assumption | exact LLle (by omega) | exact LLle (by simp; omega) | omega | decide | exact Nat.le_of_ble_eq_true rfl) ?_; (conv => whnf))))
local macro_rules | `(tactic| tm_at "w") => `(tactic| ((conv => whnf); repeat (refine And.intro (by first | decide | assumption | omega | rfl | exact Nat.le_of_ble_eq_true rfl) ?_; (conv => whnf))))
/-! texts keyed sign by sign -/
/-- what is open behind a head ahead of a sign -/
def nxH (fin : List Nat) (r : List Nat) : List Nat := if r = [] then fin else r.take 1
def stH (m : Mn) (fin : List Nat) : List Nat → List Nat → List Nat → List Nat
  | st, _, [] => st
  | st, ah, c :: r => stH m fin (stB m.kd m.w m.f st ah c (nxH fin r)) [c] r
def lstH (ah x : List Nat) : List Nat := if x = [] then ah else last1 x
theorem lstH_cons (ah : List Nat) (e : Nat) (X : List Nat) : lstH ah (e :: X) = lstH [e] X := by
  unfold lstH
  rw [if_neg (by simp)]
  cases X with
  | nil => rfl
  | cons y r =>
    rw [if_neg (by simp)]
    unfold last1
    simp
theorem outcQ {kd : List Nat} {op : List (List Nat)} {w f : Bool} {st ah : List Nat} {sg : Nat} {bh : List Nat} : Qd (outc kd op w f st ah sg bh) := by
  unfold outc qut
  split
  · decide
  · split <;> split <;> decide
theorem mk1_nolook {m : Mn} {st ah : List Nat} {c : Nat} {x y : List Nat} : mk1 m false st ah c x = mk1 m false st ah c y := rfl
theorem mk1_printed {m : Mn} {lk : Bool} {st ah : List Nat} {c : Nat} {bh : List Nat} (S : List Nat) (h : ∀ q ∈ [34, 39, 60, 62, 123, 125], q ∉ S) : isIn [mk1 m lk st ah c bh] S = isIn [c] S := by
  unfold mk1
  by_cases hc : c = 34 ∨ c = 39
  · rw [if_pos hc]
    have h1 : c ∉ S := by rcases hc with rfl | rfl <;> exact h _ (by simp)
    generalize (if lk = true then bh else []) = y
    have h2 : outc m.kd m.op m.w m.f st ah c y ∉ S := by
      have q : Qd (outc m.kd m.op m.w m.f st ah c y) := outcQ
      rcases q with q | q | q | q <;> (rw [q]; exact h _ (by simp))
    show decide (_ ∈ S) = decide (c ∈ S)
    rw [decide_eq_false h1, decide_eq_false h2]
  · rw [if_neg hc]
theorem stB_bh {kd : List Nat} {w f : Bool} {st ah : List Nat} {c : Nat} {x y : List Nat} (h1 : isIn x [97, 98] = isIn y [97, 98]) (h2 : isIn x [49] = isIn y [49]) : stB kd w f st ah c x = stB kd w f st ah c y := by
  unfold stB apos
  rw [h1, h2]
theorem twA_snoc (m : Mn) (c : Nat) : ∀ (u st ah : List Nat), twA m false st ah (u ++ [c]) = twA m false st ah u ++ [mk1 m false (stH m [c] st ah (twA m false st ah u)) (lstH ah (twA m false st ah u)) c []]
  | [], st, ah => rfl
  | d :: u, st, ah => by
    obtain ⟨e, he⟩ : ∃ e, mk1 m false st ah d [] = e := ⟨_, rfl⟩
    have eA : twA m false st ah (d :: u) = e :: twA m false (stB m.kd m.w m.f st ah e (u.take 1)) [e] u := by rw [← he]; rfl
    have eL : twA m false st ah (d :: u ++ [c]) = e :: twA m false (stB m.kd m.w m.f st ah e ((u ++ [c]).take 1)) [e] (u ++ [c]) := by rw [← he]; rfl
    rw [eL, eA, twA_snoc m c u]
    cases u with
    | nil => rfl
    | cons b u =>
      rw [show (b :: u ++ [c]).take 1 = [b] from rfl, show (b :: u).take 1 = [b] from rfl]
      generalize hX : twA m false (stB m.kd m.w m.f st ah e [b]) [e] (b :: u) = X
      rw [lstH_cons, List.cons_append]
      have hX0 : ∃ b' X', X = b' :: X' ∧ isIn [b'] [97, 98] = isIn [b] [97, 98] ∧ isIn [b'] [49] = isIn [b] [49] := by
        refine ⟨mk1 m false (stB m.kd m.w m.f st ah e [b]) [e] b (u.take 1), _, hX.symm, ?_, ?_⟩
        · exact mk1_printed _ (by decide)
        · exact mk1_printed _ (by decide)
      obtain ⟨b', X', rfl, h1, h2⟩ := hX0
      have es : stH m [c] st ah (e :: b' :: X') = stH m [c] (stB m.kd m.w m.f st ah e [b]) [e] (b' :: X') := by
        show stH m [c] (stB m.kd m.w m.f st ah e (nxH [c] (b' :: X'))) [e] (b' :: X') = _
        rw [show nxH [c] (b' :: X') = [b'] from rfl, stB_bh h1 h2]
      rw [es]
theorem twA_pre (m : Mn) (u st ah : List Nat) : ∀ v : List Nat, ∃ s, twA m false st ah (u ++ v) = twA m false st ah u ++ s := by
  have key : ∀ r : List Nat, ∃ s, twA m false st ah (u ++ r.reverse) = twA m false st ah u ++ s := by
    intro r
    induction r with
    | nil => exact ⟨[], by simp⟩
    | cons c r ih =>
      obtain ⟨s, e⟩ := ih
      rw [List.reverse_cons, ← List.append_assoc, twA_snoc, e]
      exact ⟨_, List.append_assoc ..⟩
  intro v
  have := key v.reverse
  rwa [List.reverse_reverse] at this
theorem twA_lenK (m : Mn) (lk : Bool) : ∀ (t st ah : List Nat), (twA m lk st ah t).length = t.length
  | [], _, _ => rfl
  | c :: r, st, ah => congrArg (· + 1) (twA_lenK m lk r _ _)
/-- a text's head keyed -/
theorem twk_take (m : Mn) (t : List Nat) (k : Nat) : m.twk (t.take k) = (m.twk t).take k := by
  rw [Mn.twk_A, Mn.twk_A]
  obtain ⟨s, e⟩ := twA_pre m (t.take k) [] [] (t.drop k)
  rw [List.take_append_drop] at e
  rw [e]
  have hl : (twA m false [] [] (t.take k)).length = (t.take k).length := twA_lenK ..
  rcases Nat.le_total k t.length with h | h
  · rw [List.take_append_of_le_length (by rw [hl, List.length_take]; omega)]
    exact (List.take_of_length_le (by rw [hl, List.length_take]; omega)).symm
  · have hd : s = [] := by
      have h2 := congrArg List.length e
      rw [List.length_append, twA_lenK, hl, List.length_take, Nat.min_eq_right h] at h2
      exact List.eq_nil_of_length_eq_zero (by omega)
    rw [hd, List.append_nil]
    exact (List.take_of_length_le (by rw [hl, List.length_take]; omega)).symm
/-- a keyed text keyed again -/
theorem twA_idem (m : Mn) (lk : Bool) : ∀ (u st ah : List Nat), (∀ c ∈ u, ¬ (c = 34 ∨ c = 39)) → twA m lk st ah u = u
  | [], _, _, _ => rfl
  | c :: r, st, ah, h => by
    have e : mk1 m lk st ah c (r.take 1) = c := by
      unfold mk1
      rw [if_neg (h c (List.mem_cons_self ..))]
    show mk1 m lk st ah c (r.take 1) :: _ = _
    rw [e, twA_idem m lk r _ _ fun x hx => h x (List.mem_cons_of_mem _ hx)]
theorem twA_noq (m : Mn) (lk : Bool) : ∀ (u st ah : List Nat), ∀ c ∈ twA m lk st ah u, ¬ (c = 34 ∨ c = 39)
  | [], _, _, c, h => by cases h
  | d :: r, st, ah, c, h => by
    rcases List.mem_cons.mp (show c ∈ mk1 m lk st ah d (r.take 1) :: twA m lk _ _ r from h) with e | e
    · rw [e]
      unfold mk1
      by_cases hd : d = 34 ∨ d = 39
      · rw [if_pos hd]
        have q : Qd (outc m.kd m.op m.w m.f st ah d (if lk = true then r.take 1 else [])) := outcQ
        rcases q with q | q | q | q <;> (rw [q]; decide)
      · rw [if_neg hd]
        exact hd
    · exact twA_noq m lk r _ _ c e
theorem twk_parts (m : Mn) (u v : List Nat) : m.twk (m.twk u ++ v) = m.twk (u ++ v) := by
  have key : ∀ r : List Nat, m.twk (m.twk u ++ r.reverse) = m.twk (u ++ r.reverse) := by
    intro r
    induction r with
    | nil =>
      rw [List.reverse_nil, List.append_nil, List.append_nil, Mn.twk_A m (m.twk u)]
      refine twA_idem m false _ _ _ ?_
      rw [Mn.twk_A]
      exact twA_noq m false u [] []
    | cons c r ih =>
      simp only [Mn.twk_A] at ih ⊢
      rw [List.reverse_cons, ← List.append_assoc, ← List.append_assoc, twA_snoc, twA_snoc, ih]
  have := key v.reverse
  rwa [List.reverse_reverse] at this
/-- one sign more, as an editor makes it -/
def madeE (m : Mn) (head : List Nat) (c : Nat) : Nat := if c = 34 ∨ c = 39 then outc m.kd m.op m.w m.f (stH m [c] [] [] head) (last1 head) c [] else c
theorem twk_snoc (m : Mn) (u : List Nat) (c : Nat) : m.twk (u ++ [c]) = m.twk u ++ [madeE m (m.twk u) c] := by
  rw [Mn.twk_A, Mn.twk_A, twA_snoc]
  have e : lstH [] (twA m false [] [] u) = last1 (twA m false [] [] u) := by
    unfold lstH
    split
    · rename_i h; rw [h]; rfl
    · rfl
  rw [e]
  rfl
end Qm
namespace Qm
open Qt
variable {G : Nat → Option PF}
local macro_rules | `(tactic| tm_at "v") => `(tactic| ((conv => whnf); repeat (refine And.intro (by first | with_reducible rfl | with_reducible assumption | exact LLle (by omega) | exact LLle (by simp; omega) | omega | decide | exact Nat.le_of_ble_eq_true rfl) ?_; (conv => whnf))))
local macro_rules | `(tactic| tm_at "w") => `(tactic| ((conv => whnf); repeat (refine And.intro (by first | decide | assumption | omega | rfl | exact Nat.le_of_ble_eq_true rfl) ?_; (conv => whnf))))
theorem sp_need_manner (hI : Is G) {d : Nat} {kd : List Nat} {op : List (List Nat)} {w f : Bool} {M : Mem} {Q : Kt} {Z : Xt} (h : VM kd op) (q : Q .non M) : callW G (d + 2) 163 [manV kd op w f] M Q Z := by
  refine call_in (hI _ _ rfl) rfl ?_
  conv => whnf
  refine sp_is_manner hI h ?_
  conv => whnf
  exact q
end Qm
namespace Qm
open Qt
variable {G : Nat → Option PF}
local macro_rules | `(tactic| tm_at "v") => `(tactic| ((conv => whnf); repeat (refine And.intro (by first | with_reducible rfl | with_reducible assumption | exact LLle (by omega) | exact LLle (by simp; omega) | omega | decide | exact Nat.le_of_ble_eq_true rfl) ?_; (conv => whnf))))
local macro_rules | `(tactic| tm_at "w") => `(tactic| ((conv => whnf); repeat (refine And.intro (by first | decide | assumption | omega | rfl | exact Nat.le_of_ble_eq_true rfl) ?_; (conv => whnf))))
def isText (t : List Nat) : Bool := decide (t.length ≤ 60) && t.all fun c => decide (c ∈ sSig)
theorem sp_is_text0 (hI : Is G) {d : Nat} {t : List Nat} {M : Mem} {Q : Kt} {Z : Xt} (hl : t.length ≤ 1000) (q : Q (.bl (isText t)) M) : callW G (d + 1) 149 [.str t] M Q Z := by
  refine call_in (hI _ _ rfl) rfl ?_
  have hLL : t.length ≤ LL := Nat.le_trans hl (by decide)
  unfold isText at q
  tm_at "w"
  by_cases h : t.length ≤ 60
  · rw [decide_eq_true h] at q
    rw [decide_eq_true (show (t.length : Int) ≤ 60 by omega)]
    conv => whnf
    refine ⟨by show (strVs t).length ≤ LL; unfold strVs; rw [List.length_map]; exact hLL, ?_⟩
    refine wLc_map (f := fun c => PV.str [c]) (fun _ => true) (fun c => .bl (decide (c ∈ sSig))) t (fun c _ => ⟨_, rfl, fun K hK => hK, fun _ K hK => hK⟩) [] _ ?_
    rw [List.filter_eq_self.mpr fun _ _ => rfl, List.nil_append]
    conv => whnf
    rw [bools_map]
    conv => whnf
    rw [all_map]
    exact q
  · rw [decide_eq_false h] at q
    rw [decide_eq_false (show ¬ (t.length : Int) ≤ 60 by omega)]
    exact q
theorem isText_of {t : List Nat} (hl : t.length ≤ 60) (hs : ∀ c ∈ t, c ∈ sSig) : isText t = true := by
  unfold isText
  rw [decide_eq_true hl, List.all_eq_true.mpr fun c hc => decide_eq_true (hs c hc)]
  rfl
theorem sp_is_text (hI : Is G) {d : Nat} {t : List Nat} {M : Mem} {Q : Kt} {Z : Xt} (hl : t.length ≤ 60) (hs : ∀ c ∈ t, c ∈ sSig) (q : Q (.bl true) M) : callW G (d + 1) 149 [.str t] M Q Z :=
  sp_is_text0 hI (by omega) (by rw [isText_of hl hs]; exact q)
end Qm
namespace Qm
open Qt
variable {G : Nat → Option PF}
local macro_rules | `(tactic| tm_at "v") => `(tactic| ((conv => whnf); repeat (refine And.intro (by first | with_reducible rfl | with_reducible assumption | exact LLle (by omega) | exact LLle (by simp; omega) | omega | decide | exact Nat.le_of_ble_eq_true rfl) ?_; (conv => whnf))))
local macro_rules | `(tactic| tm_at "w") => `(tactic| ((conv => whnf); repeat (refine And.intro (by first | decide | assumption | omega | rfl | exact Nat.le_of_ble_eq_true rfl) ?_; (conv => whnf))))
theorem cutE_nn {n d : Nat} {v : Int} (h : 0 ≤ v) : cutE n d (some v) = min v.toNat n := by
  show (if v < 0 then (v + n).toNat else min v.toNat n) = _
  rw [if_neg (by omega)]
theorem cut_prev {pre : List Nat} {x : Nat} {r : List Nat} : cutL (pre ++ x :: r) (some (if (pre.length : Int) - 1 > 0 then (pre.length : Int) - 1 else 0)) (some pre.length) = last1 pre := by
  unfold cutL
  rw [cutE_nn (by first | omega | (split <;> omega)), cutE_nn (by first | omega | (split <;> omega))]
  have hl : (pre ++ x :: r).length = pre.length + (r.length + 1) := by simp
  have e1 : min (if (pre.length : Int) - 1 > 0 then (pre.length : Int) - 1 else 0).toNat (pre ++ x :: r).length = pre.length - 1 := by
    rw [hl]
    split <;> omega
  have e2 : min (pre.length : Int).toNat (pre ++ x :: r).length = pre.length := by
    rw [hl]
    omega
  rw [e1, e2]
  unfold last1
  rw [List.drop_append_of_le_length (by omega)]
  rw [List.take_append_of_le_length (by rw [List.length_drop]; omega)]
  refine List.take_of_length_le ?_
  rw [List.length_drop]
  exact Nat.le_refl _
end Qm
namespace Qm
open Qt
variable {G : Nat → Option PF}
local macro_rules | `(tactic| tm_at "v") => `(tactic| ((conv => whnf); repeat (refine And.intro (by first | with_reducible rfl | with_reducible assumption | exact LLle (by omega) | exact LLle (by simp; omega) | omega | decide | exact Nat.le_of_ble_eq_true rfl) ?_; (conv => whnf))))
local macro_rules | `(tactic| tm_at "w") => `(tactic| ((conv => whnf); repeat (refine And.intro (by first | decide | assumption | omega | rfl | exact Nat.le_of_ble_eq_true rfl) ?_; (conv => whnf))))
/-! an editor, keyed at its end -/
def edOb (m : Mn) (l : Nat) : MO := .ins 1 [(19, m.v), (37, .ref l)]
def turnV (t : List Nat) (n : Nat) : PV := .tup [.str t, .int n]
theorem sp_einit (hI : Is G) {d : Nat} {m : Mn} {M : Mem} {Q : Kt} {Z : Xt} (hv : VM m.kd m.op) (q : ∀ M', Ex M M' → M'[M.length]? = some (edOb m (M.length + 1)) → M'[M.length + 1]? = some (.lst [turnV [] 0]) → Q .non M') : callW G (d + 3) 5 [.ref M.length, m.v] (M ++ [.ins 1 []]) Q Z := by
  refine call_in (hI _ _ rfl) rfl ?_
  have e0 : (M ++ [MO.ins 1 []])[M.length]? = some (.ins 1 []) := app_at
  conv => whnf
  refine sp_need_manner hI hv ?_
  conv => whnf
  rw [e0]
  tm_at "w"
  have e1 : ((M ++ [MO.ins 1 []]).set M.length (.ins 1 [(19, m.v)]))[M.length]? = some (.ins 1 [(19, m.v)]) := set_at e0
  have hl1 : ((M ++ [MO.ins 1 []]).set M.length (.ins 1 [(19, m.v)])).length = M.length + 1 := by simp
  have k1 : ∀ k, k < M.length → ((M ++ [MO.ins 1 []]).set M.length (.ins 1 [(19, m.v)]))[k]? = M[k]? := fun k hk => by
    rw [List.getElem?_set_ne (Nat.ne_of_gt hk), List.getElem?_append_left hk]
  obtain ⟨M1, hM1⟩ : ∃ M1, (M ++ [MO.ins 1 []]).set M.length (.ins 1 [(19, m.v)]) = M1 := ⟨_, rfl⟩
  erw [hM1]
  rw [hM1] at e1 hl1 k1
  tm_at "w"
  have e2 : (M1 ++ [MO.lst [turnV [] 0]])[M.length]? = some (.ins 1 [(19, m.v)]) := app_lt e1
  erw [e2]
  tm_at "w"
  refine q _ ⟨by simp [hl1]; omega, fun k hk => ?_⟩ ?_ ?_
  · have hne : M.length ≠ k := Nat.ne_of_gt hk
    show ((M1 ++ [MO.lst [turnV [] 0]]).set M.length _)[k]? = _
    rw [List.getElem?_set_ne hne, List.getElem?_append_left (by omega)]
    exact k1 k hk
  · have := set_at (o' := MO.ins 1 [(19, m.v), (37, .ref M1.length)]) e2
    refine this.trans ?_
    unfold edOb
    rw [hl1]
  · show ((M1 ++ [MO.lst [turnV [] 0]]).set M.length _)[M.length + 1]? = _
    rw [List.getElem?_set_ne (by omega), ← hl1]
    exact app_at
theorem sp_made (hI : Is G) {d e l : Nat} {m : Mn} {head : List Nat} {c : Nat} {M : Mem} {Q : Kt} {Z : Xt} (hl : head.length ≤ 100) (he : M[e]? = some (edOb m l)) (q : Q (.str [madeE m head c]) M) : callW G (d + 4) 10 [.ref e, .str head, .str [c], .str []] M Q Z := by
  refine call_in (hI _ _ rfl) rfl ?_
  conv => whnf
  unfold madeE at q
  by_cases hq : c = 34 ∨ c = 39
  case neg =>
    rw [decide_eq_false (by simpa using hq)]
    rw [if_neg hq] at q
    conv => whnf
    exact q
  case pos =>
    rw [decide_eq_true (by simpa using hq)]
    rw [if_pos hq] at q
    conv => whnf
    have hLL : head.length ≤ LL := LLle (by omega)
    have hs0 : ∀ x : List Nat, (strVs x).length = x.length := fun x => List.length_map ..
    refine wFor_enum (f := fun c => PV.str [c]) (fun i rest ρ M2 => M2 = M ∧ ∃ (pre st : List Nat) (x5 x6 x7 : Option PV), i = pre.length ∧ head = pre ++ rest ∧ st.length ≤ i ∧ stH m [c] st (last1 pre) rest = stH m [c] [] [] head ∧ ρ = [some (.ref e), some (.str head), some (.str [c]), some (.str []), some (.str st), x5, x6, x7]) ?_ ?_ head 0 _ _ ⟨rfl, [], [], _, _, _, rfl, rfl, Nat.zero_le _, rfl, rfl⟩
    · rintro i ρ M2 ⟨rfl, pre, st, x5, x6, x7, hi, eh, hst, es, rfl⟩
      rw [List.append_nil] at eh
      subst eh
      have es' : st = stH m [c] [] [] head := es
      rw [← es'] at q
      conv => whnf
      rw [he]
      conv => whnf
      refine ⟨hLL, ?_⟩
      rw [show cutL head (some (-1)) none = last1 head from cut_last head]
      conv => whnf
      exact sp_outcome hI (last1_one head) (.inl rfl) hq q
    · rintro i o rest ρ M2 ⟨rfl, pre, st, x5, x6, x7, hi, eh, hst, es, rfl⟩
      refine ⟨_, rfl, fun N hN => ?_⟩
      have hlen : head.length = pre.length + (rest.length + 1) := by rw [eh]; simp
      have hA := last1_one pre
      have hB : One (nxH [c] rest) := by
        unfold nxH
        split
        · exact .inr ⟨c, rfl⟩
        · exact take1_one rest
      have c1 : cutL head (some (if (i : Int) - 1 > 0 then (i : Int) - 1 else 0)) (some (i : Int)) = last1 pre := by rw [eh, hi]; exact cut_prev
      have c2 : cutL head (some ((i : Int) + 1)) (some ((i : Int) + 2)) = rest.take 1 := by rw [eh, hi]; exact cut_next
      have el : last1 (pre ++ [o]) = [o] := by unfold last1; simp
      have hsl := stB_len m.kd m.w m.f st (last1 pre) o (nxH [c] rest)
      have fin : ∀ x7', wS (callW G (d + 3)) (.asg 4 (.call 182 (.cons (.fld (.v 0) 19) (.cons (.v 4) (.cons (.sl (.v 1) (.itv (.bi .max2 (.cons (.k (.int 0)) (.cons (.bin .sub (.v 5) (.k (.int 1))) .nil)))) (.itv (.v 5))) (.cons (.v 6) (.cons (.v 7) .nil))))))) [some (.ref e), some (.str head), some (.str [c]), some (.str []), some (.str st), some (.int i), some (.str [o]), some (.str (nxH [c] rest))] M2 ⟨N, x7', N, Z⟩ := fun x7' => by
        conv => whnf
        rw [he]
        conv => whnf
        refine ⟨hLL, ?_⟩
        rw [c1]
        conv => whnf
        refine sp_state hI hA hB (by omega) ?_
        conv => whnf
        exact hN _ _ ⟨rfl, pre ++ [o], _, _, _, _, by rw [hi]; simp, by rw [eh]; simp, by omega, by rw [el, ← es]; rfl, rfl⟩
      conv => whnf
      refine ⟨hLL, ?_⟩
      conv => whnf
      cases rest with
      | nil =>
        rw [decide_eq_false (show ¬ (i : Int) + 1 < (head.length : Int) by simp at hlen; omega)]
        exact fin _
      | cons x r =>
        rw [decide_eq_true (show (i : Int) + 1 < (head.length : Int) by simp at hlen; omega)]
        conv => whnf
        refine ⟨hLL, ?_⟩
        rw [c2]
        exact fin _
theorem last_at {α : Type} {xs : List α} {x : α} (h : xs.getLast? = some x) : ixAt xs.length (-1) = some (xs.length - 1) ∧ xs[xs.length - 1]? = some x := by
  have hn : xs ≠ [] := by intro z; subst z; cases h
  have hl : 0 < xs.length := List.length_pos_iff.mpr hn
  refine ⟨?_, by rw [List.getLast?_eq_getElem?] at h; exact h⟩
  unfold ixAt
  rw [if_neg (by omega), if_pos (by omega)]
  congr 1
  omega
/-- an editor that stands at the end of its text -/
structure EdAt (M : Mem) (e l : Nat) (m : Mn) (t : List Nat) (k : Nat) : Prop where
  ob : M[e]? = some (edOb m l)
  tu : ∃ xs : List PV, M[l]? = some (.lst xs) ∧ xs.getLast? = some (turnV t t.length) ∧ xs.length ≤ k
theorem sp_is_sign (hI : Is G) {d c : Nat} {M : Mem} {Q : Kt} {Z : Xt} (hc : c ∈ sSig) (q : Q (.bl true) M) : callW G (d + 1) 147 [.str [c]] M Q Z := by
  refine call_in (hI _ _ rfl) rfl ?_
  tm_at "w"
  rw [decide_eq_true (show c ∈ ([32, 40, 41, 46, 45, 49, 97, 98, 34, 39, 60, 123, 62, 125] : List Nat) by revert hc; revert c; decide)]
  exact q
theorem sp_key (hI : Is G) {d e l k : Nat} {m : Mn} {t : List Nat} {c : Nat} {M : Mem} {Q : Kt} {Z : Xt} (hl : t.length < 60) (hk : k ≤ 100) (hc : c ∈ sSig) (h : EdAt M e l m t k) (hel : e ≠ l)
    (q : ∀ M', EdAt M' e l m (t ++ [madeE m t c]) (k + 1) → M'.length = M.length → (∀ j, j ≠ l → M'[j]? = M[j]?) → Q (.str (t ++ [madeE m t c])) M') : callW G (d + 6) 8 [.ref e, .tup [.str [c]]] M Q Z := by
  obtain ⟨ob, xs, hx, hlast, hxk⟩ := h
  obtain ⟨la1, la2⟩ := last_at hlast
  have hLL : t.length ≤ LL := LLle (by omega)
  refine call_in (hI _ _ rfl) rfl ?_
  conv => whnf
  refine ⟨Nat.le_of_ble_eq_true rfl, ?_⟩
  refine wLc_map (f := fun c => PV.str [c]) (fun _ => true) (fun _ => .bl true) [c] (fun c' hc' => ⟨_, rfl, fun K hK => hK, fun _ K hK => ?_⟩) [] _ ?_
  · rw [List.mem_singleton] at hc'
    subst hc'
    conv => whnf
    exact sp_is_sign hI hc hK
  rw [List.filter_eq_self.mpr fun _ _ => rfl, List.nil_append]
  conv => whnf
  rw [ob]
  conv => whnf
  rw [asL_ref hx]
  conv => whnf
  rw [la1]
  conv => whnf
  rw [la2]
  conv => whnf
  refine ⟨hLL, ?_⟩
  conv => whnf
  rw [decide_eq_false (show ¬ (60 : Int) < (t.length : Int) + (([PV.str [c]] : List PV).length : Int) by simp; omega)]
  conv => whnf
  refine ⟨hLL, ?_⟩
  rw [show cutL t none (some (t.length : Int)) = t by
    unfold cutL
    have e1 : cutE t.length 0 none = 0 := rfl
    have e2 : cutE t.length t.length (some (t.length : Int)) = t.length := by rw [cutE_nn (by omega)]; simp
    rw [e1, e2, List.drop_zero, Nat.sub_zero, List.take_length]]
  conv => whnf
  refine ⟨hLL, ?_⟩
  rw [show cutL t (some (t.length : Int)) none = [] by
    unfold cutL
    have e1 : cutE t.length t.length none = t.length := rfl
    have e2 : cutE t.length 0 (some (t.length : Int)) = t.length := by rw [cutE_nn (by omega)]; simp
    rw [e1, e2, List.drop_length, List.take_nil]]
  tm_at "w"
  have xl : (t ++ [madeE m t c]).length ≤ LL := LLle (by simp; omega)
  refine wFor_rem (f := fun c => PV.str [c]) (fun rest ρ M' => M' = M ∧ ((rest = [c] ∧ ρ = [some (.ref e), some (.tup [.str [c]]), none, some (.str t), some (.int t.length), some (.str t), some (.str [])]) ∨ (rest = [] ∧ ρ = [some (.ref e), some (.tup [.str [c]]), some (.str [c]), some (.str t), some (.int t.length), some (.str (t ++ [madeE m t c])), some (.str [])]))) ?_ ?_ [c] _ _ ⟨rfl, .inl ⟨rfl, rfl⟩⟩
  · rintro ρ M' ⟨rfl, ⟨h, _⟩ | ⟨_, rfl⟩⟩
    · cases h
    conv => whnf
    rw [ob]
    conv => whnf
    rw [bmK_app hx]
    conv => whnf
    refine ⟨by simp; exact Nat.le_trans (show t.length + 1 ≤ 61 by omega) (by decide), ?_⟩
    conv => whnf
    refine ⟨xl, ?_⟩
    conv => whnf
    refine ⟨Nat.le_of_ble_eq_true rfl, ?_⟩
    conv => whnf
    rw [hx]
    conv => whnf
    refine ⟨Nat.lt_of_le_of_lt (show xs.length ≤ 100 by omega) (by decide), ?_⟩
    conv => whnf
    refine ⟨by simp; exact Nat.le_trans (show t.length + 1 ≤ 61 by omega) (by decide), ?_⟩
    have ea : t ++ [madeE m t c] ++ [] = t ++ [madeE m t c] := List.append_nil _
    rw [ea]
    refine q _ ⟨by rw [List.getElem?_set_ne (Ne.symm hel)]; exact ob, xs ++ [turnV (t ++ [madeE m t c]) (t ++ [madeE m t c]).length], set_at hx, by simp, by simp; omega⟩ (by simp) fun j hj => List.getElem?_set_ne (Ne.symm hj)
  · rintro o rest ρ M' ⟨rfl, ⟨h, rfl⟩ | ⟨h, _⟩⟩
    · cases h
      refine ⟨_, rfl, fun N hN => ?_⟩
      conv => whnf
      rw [ob]
      conv => whnf
      refine ⟨Nat.zero_le _, ?_⟩
      conv => whnf
      refine sp_made hI (by omega) ob ?_
      conv => whnf
      refine ⟨by simp; exact Nat.le_trans (show t.length + 1 ≤ 61 by omega) (by decide), ?_⟩
      conv => whnf
      exact hN _ _ ⟨rfl, .inr ⟨rfl, rfl⟩⟩
    · cases h
/-- the text, the cursor -/
theorem sp_etext (hI : Is G) {d e l k : Nat} {m : Mn} {t : List Nat} {M : Mem} {Q : Kt} {Z : Xt} (h : EdAt M e l m t k) (q : Q (.str t) M) : callW G (d + 1) 13 [.ref e] M Q Z := by
  obtain ⟨ob, xs, hx, hlast, hxk⟩ := h
  obtain ⟨la1, la2⟩ := last_at hlast
  refine call_in (hI _ _ rfl) rfl ?_
  conv => whnf
  rw [ob]
  conv => whnf
  rw [asL_ref hx]
  conv => whnf
  rw [la1]
  conv => whnf
  rw [la2]
  conv => whnf
  exact q
theorem sp_eplace (hI : Is G) {d e l k : Nat} {m : Mn} {t : List Nat} {M : Mem} {Q : Kt} {Z : Xt} (h : EdAt M e l m t k) (q : Q (.int t.length) M) : callW G (d + 1) 12 [.ref e] M Q Z := by
  obtain ⟨ob, xs, hx, hlast, hxk⟩ := h
  obtain ⟨la1, la2⟩ := last_at hlast
  refine call_in (hI _ _ rfl) rfl ?_
  conv => whnf
  rw [ob]
  conv => whnf
  rw [asL_ref hx]
  conv => whnf
  rw [la1]
  conv => whnf
  rw [la2]
  conv => whnf
  exact q
end Qm
namespace Qm
open Qt
variable {G : Nat → Option PF}
local macro_rules | `(tactic| tm_at "v") => `(tactic| ((conv => whnf); repeat (refine And.intro (by first | with_reducible rfl | with_reducible assumption | exact LLle (by omega) | exact LLle (by simp; omega) | omega | decide | exact Nat.le_of_ble_eq_true rfl) ?_; (conv => whnf))))
local macro_rules | `(tactic| tm_at "w") => `(tactic| ((conv => whnf); repeat (refine And.intro (by first | decide | assumption | omega | rfl | exact Nat.le_of_ble_eq_true rfl) ?_; (conv => whnf))))
theorem sp_turn (hI : Is G) {d : Nat} {kd : List Nat} {op : List (List Nat)} {w f looks : Bool} {text : List Nat} {M : Mem} {Q : Kt} {Z : Xt} (hl : text.length ≤ 900)
    (q : Q (.str (tw kd op w f looks [] [] text)) M) : callW G (d + 4) 188 [manV kd op w f, .str text, .bl looks] M Q Z := by
  refine call_in (hI _ _ rfl) rfl ?_
  conv => whnf
  refine ⟨by decide, ?_⟩
  conv => whnf
  have loop : ∀ (rest pre found st : List Nat) (i : Nat) (x5 x6 x7 : Option PV), i = pre.length → text = pre ++ rest → found.length = i → st.length ≤ i → Q (.str (tw kd op w f looks found st rest)) M →
      wForR [5, 6] false (fun ρ' M' D' => wS (callW G (d + 3)) q_turn_with_for0 ρ' M' D') (enumL i (strVs rest)) [some (manV kd op w f), some (.str text), some (.bl looks), some (.str found), some (.str st), x5, x6, x7] M
        { nx := fun ρ1 M1 => wS (callW G (d + 3)) (.ret (.v 3)) ρ1 M1 { nx := fun _ M1 => Q .non M1, rt := Q, ct := fun _ _ => False, ex := Z }, rt := Q, ct := fun _ _ => False, ex := Z } := by
    intro rest
    induction rest with
    | nil =>
      intro pre found st i x5 x6 x7 hi ht hf hs hq
      conv => whnf
      exact hq
    | cons c r ih =>
      intro pre found st i x5 x6 x7 hi ht hf hs hq
      have htl : text.length = i + (r.length + 1) := by rw [ht, hi]; simp
      have hLL : text.length ≤ LL := Nat.le_trans hl (by decide)
      have hfL : found.length ≤ LL := by omega
      have ecut : cutL text (some ((i : Int) + 1)) (some ((i : Int) + 2)) = r.take 1 := by rw [ht, hi]; exact cut_next
      unfold tw at hq
      have tail : ∀ c' : Nat, Q (.str (tw kd op w f looks (found ++ [c']) (stB kd w f st (last1 found) c' (r.take 1)) r)) M →
          wS (callW G (d + 3)) (.seq (.asg 4 (.call 182 (.cons (.v 0) (.cons (.v 4) (.cons (.sl (.v 3) (.itv (.neg (.k (.int 1)))) .no) (.cons (.v 6) (.cons (.v 7) .nil))))))) (.asg 3 (.bin .add (.v 3) (.v 6)))) [some (manV kd op w f), some (.str text), some (.bl looks), some (.str found), some (.str st), some (.int i), some (.str [c']), some (.str (r.take 1))] M
            { nx := fun ρ2 M2 => wForR [5, 6] false (fun ρ' M' D' => wS (callW G (d + 3)) q_turn_with_for0 ρ' M' D') (enumL (i + 1) (strVs r)) ρ2 M2 { nx := fun ρ1 M1 => wS (callW G (d + 3)) (.ret (.v 3)) ρ1 M1 { nx := fun _ M1 => Q .non M1, rt := Q, ct := fun _ _ => False, ex := Z }, rt := Q, ct := fun _ _ => False, ex := Z }, rt := Q,
              ct := fun ρ2 M2 => wForR [5, 6] false (fun ρ' M' D' => wS (callW G (d + 3)) q_turn_with_for0 ρ' M' D') (enumL (i + 1) (strVs r)) ρ2 M2 { nx := fun ρ1 M1 => wS (callW G (d + 3)) (.ret (.v 3)) ρ1 M1 { nx := fun _ M1 => Q .non M1, rt := Q, ct := fun _ _ => False, ex := Z }, rt := Q, ct := fun _ _ => False, ex := Z }, ex := Z } := fun c' hc => by
        conv => whnf
        refine ⟨hfL, ?_⟩
        rw [show cutL found (some (-1)) none = last1 found from cut_last found]
        refine sp_state hI (last1_one found) (take1_one r) (by omega) ?_
        conv => whnf
        refine ⟨Nat.le_trans (show found.length + 1 ≤ 901 by omega) (by decide), ?_⟩
        exact ih (pre ++ [c]) _ _ (i + 1) _ _ _ (by simp [hi]) (by rw [ht]; simp) (by simp [hf]) (Nat.le_trans (stB_len ..) (by omega)) hc
      conv => whnf
      refine ⟨hLL, ?_⟩
      conv => whnf
      by_cases hc : c = 34 ∨ c = 39
      · rw [decide_eq_true (show c ∈ [34, 39] by rcases hc with z | z <;> simp [z])]
        simp only [if_pos hc] at hq
        have goal : ∀ bh : List Nat, bh = (if looks = true then r.take 1 else []) → wE (callW G (d + 3)) (.call 170 (.cons (.v 0) (.cons (.v 4) (.cons (.sl (.v 3) (.itv (.neg (.k (.int 1)))) .no) (.cons (.v 6) (.cons (.ite (.v 2) (.v 7) (.k (.str []))) .nil)))))) [some (manV kd op w f), some (.str text), some (.bl looks), some (.str found), some (.str st), some (.int i), some (.str [c]), some (.str (r.take 1))] M (fun v M1 => wS (callW G (d + 3)) (.seq (.asg 4 (.call 182 (.cons (.v 0) (.cons (.v 4) (.cons (.sl (.v 3) (.itv (.neg (.k (.int 1)))) .no) (.cons (.v 6) (.cons (.v 7) .nil))))))) (.asg 3 (.bin .add (.v 3) (.v 6)))) [some (manV kd op w f), some (.str text), some (.bl looks), some (.str found), some (.str st), some (.int i), some v, some (.str (r.take 1))] M1
            { nx := fun ρ2 M2 => wForR [5, 6] false (fun ρ' M' D' => wS (callW G (d + 3)) q_turn_with_for0 ρ' M' D') (enumL (i + 1) (strVs r)) ρ2 M2 { nx := fun ρ1 M1 => wS (callW G (d + 3)) (.ret (.v 3)) ρ1 M1 { nx := fun _ M1 => Q .non M1, rt := Q, ct := fun _ _ => False, ex := Z }, rt := Q, ct := fun _ _ => False, ex := Z }, rt := Q,
              ct := fun ρ2 M2 => wForR [5, 6] false (fun ρ' M' D' => wS (callW G (d + 3)) q_turn_with_for0 ρ' M' D') (enumL (i + 1) (strVs r)) ρ2 M2 { nx := fun ρ1 M1 => wS (callW G (d + 3)) (.ret (.v 3)) ρ1 M1 { nx := fun _ M1 => Q .non M1, rt := Q, ct := fun _ _ => False, ex := Z }, rt := Q, ct := fun _ _ => False, ex := Z }, ex := Z }) X0 := fun bh hb => by
          conv => whnf
          refine ⟨hfL, ?_⟩
          rw [show cutL found (some (-1)) none = last1 found from cut_last found]
          cases looks with
          | true =>
            conv => whnf
            exact sp_outcome hI (last1_one found) (take1_one r) hc (tail _ hq)
          | false =>
            conv => whnf
            exact sp_outcome hI (last1_one found) (.inl rfl) hc (tail _ hq)
        have g := goal _ rfl
        rw [← ecut] at g
        exact g
      · rw [decide_eq_false (show ¬ c ∈ [34, 39] by simpa using hc)]
        simp only [if_neg hc] at hq
        have g := tail c hq
        rw [← ecut] at g
        exact g
  rw [wFor_R]
  exact loop text [] [] [] 0 none none none rfl rfl rfl (Nat.le_refl _) q
end Qm
namespace Qm
open Qt
variable {G : Nat → Option PF}
local macro_rules | `(tactic| tm_at "v") => `(tactic| ((conv => whnf); repeat (refine And.intro (by first | with_reducible rfl | with_reducible assumption | exact LLle (by omega) | exact LLle (by simp; omega) | omega | decide | exact Nat.le_of_ble_eq_true rfl) ?_; (conv => whnf))))
local macro_rules | `(tactic| tm_at "w") => `(tactic| ((conv => whnf); repeat (refine And.intro (by first | decide | assumption | omega | rfl | exact Nat.le_of_ble_eq_true rfl) ?_; (conv => whnf))))
theorem sp_need_text (hI : Is G) {d : Nat} {t : List Nat} {M : Mem} {Q : Kt} {Z : Xt} (hl : t.length ≤ 60) (hs : ∀ c ∈ t, c ∈ sSig) (q : Q .non M) : callW G (d + 2) 167 [.str t] M Q Z := by
  refine call_in (hI _ _ rfl) rfl ?_
  conv => whnf
  refine sp_is_text hI hl hs ?_
  conv => whnf
  exact q
end Qm
namespace Qm
open Qt
variable {G : Nat → Option PF}
local macro_rules | `(tactic| tm_at "v") => `(tactic| ((conv => whnf); repeat (refine And.intro (by first | with_reducible rfl | with_reducible assumption | exact LLle (by omega) | exact LLle (by simp; omega) | omega | decide | exact Nat.le_of_ble_eq_true rfl) ?_; (conv => whnf))))
local macro_rules | `(tactic| tm_at "w") => `(tactic| ((conv => whnf); repeat (refine And.intro (by first | decide | assumption | omega | rfl | exact Nat.le_of_ble_eq_true rfl) ?_; (conv => whnf))))
theorem sp_keyed0 (hI : Is G) {d : Nat} {kd : List Nat} {op : List (List Nat)} {w f : Bool} {t : List Nat} {M : Mem} {Q : Kt} {Z : Xt} (hl : t.length ≤ 900) (q : Q (.str (twK kd op w f t)) M) : callW G (d + 5) 186 [manV kd op w f, .str t] M Q Z := by
  refine call_in (hI _ _ rfl) rfl ?_
  conv => whnf
  exact sp_turn hI hl q
theorem sp_keyed (hI : Is G) {d : Nat} {kd : List Nat} {op : List (List Nat)} {w f : Bool} {t : List Nat} {M : Mem} {Q : Kt} {Z : Xt} (hv : VM kd op) (hl : t.length ≤ 60) (hs : ∀ c ∈ t, c ∈ sSig) (q : Q (.str (twK kd op w f t)) M) : callW G (d + 6) 151 [manV kd op w f, .str t] M Q Z := by
  refine call_in (hI _ _ rfl) rfl ?_
  conv => whnf
  refine sp_need_manner hI hv ?_
  conv => whnf
  refine sp_need_text hI hl hs ?_
  conv => whnf
  exact sp_keyed0 hI (by omega) q
/-- where no apostrophe can be, the next sign does not matter -/
theorem tw_looks {kd : List Nat} {op : List (List Nat)} {w f : Bool} : ∀ (t found st : List Nat), ((w = false ∧ f = false) ∨ ∀ c ∈ t, c ≠ 39) → tw kd op w f false found st t = tw kd op w f true found st t
  | [], _, _, _ => rfl
  | c :: r, found, st, h => by
    unfold tw
    have e : outc kd op w f st (last1 found) c (if false = true then r.take 1 else []) = outc kd op w f st (last1 found) c (if true = true then r.take 1 else []) := by
      unfold outc
      rcases h with ⟨rfl, rfl⟩ | h
      · simp [apos]
      · have := h c (List.mem_cons_self ..)
        simp [this]
    rw [e]
    exact tw_looks r _ _ (h.imp id fun z x hx => z x (List.mem_cons_of_mem _ hx))
theorem tw_app {kd : List Nat} {op : List (List Nat)} {w f looks : Bool} : ∀ (t found st : List Nat), ∃ s, tw kd op w f looks found st t = found ++ s
  | [], found, _ => ⟨[], by rw [List.append_nil]; rfl⟩
  | c :: r, found, st => by
    unfold tw
    obtain ⟨s, e⟩ := tw_app (kd := kd) (op := op) (w := w) (f := f) (looks := looks) r (found ++ [if c = 34 ∨ c = 39 then outc kd op w f st (last1 found) c (if looks then r.take 1 else []) else c]) (stB kd w f st (last1 found) (if c = 34 ∨ c = 39 then outc kd op w f st (last1 found) c (if looks then r.take 1 else []) else c) (r.take 1))
    exact ⟨_ :: s, by rw [e, List.append_assoc]; rfl⟩
end Qm
namespace Qm
open Qt
variable {G : Nat → Option PF}
local macro_rules | `(tactic| tm_at "v") => `(tactic| ((conv => whnf); repeat (refine And.intro (by first | with_reducible rfl | with_reducible assumption | exact LLle (by omega) | exact LLle (by simp; omega) | omega | decide | exact Nat.le_of_ble_eq_true rfl) ?_; (conv => whnf))))
local macro_rules | `(tactic| tm_at "w") => `(tactic| ((conv => whnf); repeat (refine And.intro (by first | decide | assumption | omega | rfl | exact Nat.le_of_ble_eq_true rfl) ?_; (conv => whnf))))
theorem sp_sort (hI : Is G) {d : Nat} {c : Nat} {M : Mem} {Q : Kt} {Z : Xt} (hc : Sm c) (q : Q (.str [sortL c]) M) : callW G (d + 1) 98 [.str [c]] M Q Z := by
  refine call_in (hI _ _ rfl) rfl ?_
  conv => whnf
  refine ⟨by decide, ?_⟩
  conv => whnf
  refine ⟨ok_two (sm_one hc) (by decide) (by decide), ?_⟩
  rw [any_two]
  unfold sortL at q
  by_cases h1 : c = 60 ∨ c = 62
  · rw [decide_eq_true h1]
    rw [if_pos h1] at q
    conv => whnf
    exact q
  · rw [decide_eq_false h1]
    rw [if_neg h1] at q
    conv => whnf
    refine ⟨by decide, ?_⟩
    conv => whnf
    refine ⟨ok_two (sm_one hc) (by decide) (by decide), ?_⟩
    rw [any_two]
    by_cases h2 : c = 123 ∨ c = 125
    · rw [decide_eq_true h2]
      rw [if_pos h2] at q
      conv => whnf
      exact q
    · rw [decide_eq_false h2]
      rw [if_neg h2] at q
      conv => whnf
      exact q
end Qm
namespace Qm
open Qt
variable {G : Nat → Option PF}
local macro_rules | `(tactic| tm_at "v") => `(tactic| ((conv => whnf); repeat (refine And.intro (by first | with_reducible rfl | with_reducible assumption | exact LLle (by omega) | exact LLle (by simp; omega) | omega | decide | exact Nat.le_of_ble_eq_true rfl) ?_; (conv => whnf))))
local macro_rules | `(tactic| tm_at "w") => `(tactic| ((conv => whnf); repeat (refine And.intro (by first | decide | assumption | omega | rfl | exact Nat.le_of_ble_eq_true rfl) ?_; (conv => whnf))))
theorem sp_mark (hI : Is G) {d : Nat} {kd : List Nat} {op : List (List Nat)} {w f : Bool} {ah bh : List Nat} {M : Mem} {Q : Kt} {Z : Xt} (h1 : OneS ah) (h2 : OneS bh) (q : Q (.bl (apos w f ah bh)) M) :
    callW G (d + 1) 82 [manV kd op w f, .str ah, .str bh] M Q Z := by
  refine call_in (hI _ _ rfl) rfl ?_
  unfold apos at q
  have e49 : isIn bh [49] = decide (bh = [49]) := by
    rcases h2 with rfl | ⟨c, rfl, _⟩
    · rfl
    · unfold isIn
      exact decide_eq_decide.mpr ⟨fun z => by simp at z; rw [z], fun z => by cases z; simp⟩
  have tail : Q (.bl (f && isIn bh [49])) M → wS (callW G d) (.ret (.and (.ix (.v 0) (.k (.int 3))) (.cmp .eq (.v 2) (.k (.str [49]))))) [some (manV kd op w f), some (.str ah), some (.str bh)] M { nx := fun _ M1 => Q .non M1, rt := Q, ct := fun _ _ => False, ex := Z } := fun hD => by
    cases f with
    | false =>
      conv => whnf
      exact hD
    | true =>
      rw [e49] at hD
      conv => whnf
      exact hD
  cases w with
  | false =>
    conv => whnf
    exact tail q
  | true =>
    conv => whnf
    refine ⟨by decide, ?_⟩
    conv => whnf
    refine ⟨ok_two h1.all (by decide) (by decide), ?_⟩
    rw [any_ab h1.one]
    cases e1 : isIn ah [97, 98] with
    | false =>
      rw [e1] at q
      conv => whnf
      exact tail q
    | true =>
      rw [e1] at q
      conv => whnf
      refine ⟨by decide, ?_⟩
      conv => whnf
      refine ⟨ok_two h2.all (by decide) (by decide), ?_⟩
      rw [any_ab h2.one]
      cases e2 : isIn bh [97, 98] with
      | false =>
        rw [e2] at q
        conv => whnf
        exact tail q
      | true =>
        rw [e2] at q
        conv => whnf
        exact q
end Qm
namespace Qm
open Qt
variable {G : Nat → Option PF}
local macro_rules | `(tactic| tm_at "v") => `(tactic| ((conv => whnf); repeat (refine And.intro (by first | with_reducible rfl | with_reducible assumption | exact LLle (by omega) | exact LLle (by simp; omega) | omega | decide | exact Nat.le_of_ble_eq_true rfl) ?_; (conv => whnf))))
local macro_rules | `(tactic| tm_at "w") => `(tactic| ((conv => whnf); repeat (refine And.intro (by first | decide | assumption | omega | rfl | exact Nat.le_of_ble_eq_true rfl) ?_; (conv => whnf))))
abbrev sL (found : List Nat) : PV := .lst (found.map fun c => PV.str [c])
theorem all_sL : ∀ {l : List Nat}, (∀ c ∈ l, Sm c) → PV.okd 20 (.lst (l.map fun c => PV.str [c])) = true
  | l, h => by
    show oks 19 (l.map fun c => PV.str [c]) = true
    induction l with
    | nil => rfl
    | cons c r ih =>
      show (PV.okd 19 (.str [c]) && oks 19 (r.map fun c => PV.str [c])) = true
      rw [ih fun x hx => h x (List.mem_cons_of_mem _ hx)]
      have e : PV.okd 19 (.str [c]) = true := sm_one (h c (List.mem_cons_self ..))
      rw [e]
      rfl
theorem any_sL (c : Nat) : ∀ l : List Nat, ((l.map fun c => PV.str [c]).any fun z => PV.eqv z (.str [c])) = decide (c ∈ l)
  | [] => by simp
  | y :: r => by
    rw [List.map_cons, List.any_cons, any_sL c r]
    show (decide ([y] = [c]) || decide (c ∈ r)) = _
    by_cases h : y = c
    · subst h; simp
    · have h' : ¬ c = y := fun z => h z.symm
      simp [h, h']
theorem scal_sL : ∀ l : List Nat, (l.map fun c => PV.str [c]).all isScal = true
  | [] => rfl
  | x :: r => by rw [List.map_cons, List.all_cons, scal_sL r]; rfl
theorem first_sL (c : Nat) : ∀ l : List Nat, firstV (.str [c]) (l.map fun c => PV.str [c]) = firstS c l
  | [] => rfl
  | y :: r => by
    show (match decide ([y] = [c]) with
      | true => some 0
      | false => (match firstV (.str [c]) (r.map fun c => PV.str [c]) with
        | some k => some (k + 1)
        | none => none)) = (if (y == c) = true then some 0 else match firstS c r with
        | some k => some (k + 1)
        | none => none)
    rw [first_sL c r]
    by_cases h : y = c
    · subst h; simp
    · have e : decide ([y] = [c]) = false := decide_eq_false fun z => h (by cases z; rfl)
      rw [e, if_neg (by simpa using h)]
theorem sortL_sm {c : Nat} (h : Sm c) : Sm (sortL c) := by
  unfold sortL
  split
  · decide
  · split
    · decide
    · exact h
theorem in_ok {c : Nat} {l : List Nat} (h1 : Sm c) (h2 : ∀ x ∈ l, Sm x) : (PV.ok (.str [c]) && PV.ok (sL l)) = true := by
  rw [ok_one h1]
  show (true && PV.okd 20 (sL l)) = true
  rw [all_sL h2]
  rfl
theorem cut_pre {α : Type} (xs : List α) {j : Nat} (h : j < xs.length) : cutL xs none (some (j : Int)) = xs.take j := by
  unfold cutL
  have e2 : cutE xs.length xs.length (some (j : Int)) = j := by
    show (if (j : Int) < 0 then ((j : Int) + xs.length).toNat else min (j : Int).toNat xs.length) = j
    rw [if_neg (by omega)]
    simp
    omega
  rw [e2]
  rfl
theorem cut_suf {α : Type} (xs : List α) {j : Nat} (h : j < xs.length) : cutL xs (some ((j : Int) + 1)) none = xs.drop (j + 1) := by
  unfold cutL
  have e2 : cutE xs.length 0 (some ((j : Int) + 1)) = j + 1 := by
    show (if (j : Int) + 1 < 0 then ((j : Int) + 1 + xs.length).toNat else min ((j : Int) + 1).toNat xs.length) = j + 1
    rw [if_neg (by omega)]
    omega
  rw [e2]
  refine List.take_of_length_le ?_
  rw [List.length_drop]
  exact Nat.le_refl _
end Qm
namespace Qm
open Qt
variable {G : Nat → Option PF}
local macro_rules | `(tactic| tm_at "v") => `(tactic| ((conv => whnf); repeat (refine And.intro (by first | with_reducible rfl | with_reducible assumption | exact LLle (by omega) | exact LLle (by simp; omega) | omega | decide | exact Nat.le_of_ble_eq_true rfl) ?_; (conv => whnf))))
local macro_rules | `(tactic| tm_at "w") => `(tactic| ((conv => whnf); repeat (refine And.intro (by first | decide | assumption | omega | rfl | exact Nat.le_of_ble_eq_true rfl) ?_; (conv => whnf))))
def lo (kd : List Nat) (w f : Bool) (found ah : List Nat) (sg : Nat) (fo : List Nat) : List Nat :=
  if (sg = 60 ∨ sg = 123) ∧ sortL sg ∉ found then found ++ [sortL sg]
  else if (sg = 62 ∨ sg = 125) ∧ sortL sg ∈ found then (if sg = 62 ∨ apos w f ah fo = false then (match firstS (sortL sg) found with
    | some j => found.take j ++ (if kd = kNes then [] else found.drop (j + 1))
    | none => found) else found)
  else found
/-- the sign that follows -/
def nxt (behind : List Nat) : List Nat → List Nat
  | [] => behind
  | x :: _ => [x]
def lop (kd : List Nat) (w f : Bool) (behind : List Nat) : List Nat → List Nat → List Nat → List Nat
  | found, _, [] => found
  | found, ah, c :: r => lop kd w f behind (lo kd w f found ah c (nxt behind r)) [c] r
abbrev ifB : PY := (.if_ (.and (.cmp .in_ (.v 5) (.ls (.cons (.k (.str [60])) (.cons (.k (.str [123])) .nil)))) (.cmp .notin (.v 8) (.v 3))) (.asg 3 (.bin .add (.v 3) (.ls (.cons (.v 8) .nil)))) (.if_ (.and (.cmp .in_ (.v 5) (.ls (.cons (.k (.str [62])) (.cons (.k (.str [125])) .nil)))) (.cmp .in_ (.v 8) (.v 3))) (.if_ (.or (.cmp .eq (.v 5) (.k (.str [62]))) (.not (.call 82 (.cons (.v 0) (.cons (.v 6) (.cons (.v 7) .nil)))))) (.seq (.asg 9 (.bm .lindex (.v 3) (.cons (.v 8) .nil))) (.seq (.asg 10 (.ite (.cmp .eq (.ix (.v 0) (.k (.int 0))) (.k (.str [110, 101, 115, 116, 101, 100]))) (.ls .nil) (.sl (.v 3) (.itv (.bin .add (.v 9) (.k (.int 1)))) .no))) (.asg 3 (.bin .add (.sl (.v 3) .no (.itv (.v 9))) (.v 10))))) .skip) .skip))
theorem firstS_lt {q : Nat} : ∀ {st : List Nat} {j : Nat}, firstS q st = some j → j < st.length
  | [], _, h => by cases h
  | x :: r, j, h => by
    unfold firstS at h
    split at h
    · cases h; exact Nat.succ_pos _
    · cases e : firstS q r with
      | none => rw [e] at h; cases h
      | some k => rw [e] at h; cases h; exact Nat.succ_lt_succ (firstS_lt e)
theorem firstS_mem {q : Nat} : ∀ {st : List Nat}, q ∈ st → ∃ j, firstS q st = some j
  | [], h => by cases h
  | x :: r, h => by
    unfold firstS
    by_cases hx : (x == q) = true
    · rw [if_pos hx]; exact ⟨0, rfl⟩
    · rw [if_neg hx]
      have hne : ¬ x = q := by simpa using hx
      obtain ⟨j, e⟩ := firstS_mem ((List.mem_cons.mp h).resolve_left fun z => hne z.symm)
      rw [e]
      exact ⟨j + 1, rfl⟩
theorem lo_ok {kd : List Nat} {w f : Bool} {found ah : List Nat} {sg : Nat} {fo : List Nat} (h : ∀ c ∈ found, Sm c) (hc : Sm sg) : (∀ c ∈ lo kd w f found ah sg fo, Sm c) ∧ (lo kd w f found ah sg fo).length ≤ found.length + 1 := by
  unfold lo
  split
  · refine ⟨fun c hx => ?_, by simp⟩
    rcases List.mem_append.mp hx with z | z
    · exact h c z
    · rw [List.mem_singleton] at z
      rw [z]
      exact sortL_sm hc
  · split
    · split
      · cases e : firstS (sortL sg) found with
        | none => exact ⟨h, Nat.le_succ _⟩
        | some j =>
          have hj := firstS_lt e
          refine ⟨fun c hx => ?_, ?_⟩
          · rcases List.mem_append.mp hx with z | z
            · exact h c (List.mem_of_mem_take z)
            · split at z
              · cases z
              · exact h c (List.mem_of_mem_drop z)
          · rw [List.length_append, List.length_take]
            split
            · simp; omega
            · rw [List.length_drop]; omega
      · exact ⟨h, Nat.le_succ _⟩
    · exact ⟨h, Nat.le_succ _⟩
/-- what a sign does to what is open -/
theorem ifB_ok (hI : Is G) {d : Nat} {kd : List Nat} {op : List (List Nat)} {w f : Bool} {found ah fo : List Nat} {c : Nat} {v1 v2 v4 : Option PV} {x9 x10 : Option PV} {M : Mem} {D : En} (h1 : OneS ah) (h2 : OneS fo) (hc : Sm c) (hf : ∀ c ∈ found, Sm c) (hl : found.length ≤ 900)
    (q : ∀ y9 y10, D.nx [some (manV kd op w f), v1, v2, some (sL (lo kd w f found ah c fo)), v4, some (.str [c]), some (.str ah), some (.str fo), some (.str [sortL c]), y9, y10] M) :
    wS (callW G (d + 1)) ifB [some (manV kd op w f), v1, v2, some (sL found), v4, some (.str [c]), some (.str ah), some (.str fo), some (.str [sortL c]), x9, x10] M D := by
  unfold lo at q
  have hs := sortL_sm hc
  have cl : (found.map fun c => PV.str [c]).length = found.length := List.length_map ..
  have fst : ∀ {x9 x10}, ¬ ((c = 60 ∨ c = 123) ∧ sortL c ∉ found) → wS (callW G (d + 1)) (.if_ (.and (.cmp .in_ (.v 5) (.ls (.cons (.k (.str [62])) (.cons (.k (.str [125])) .nil)))) (.cmp .in_ (.v 8) (.v 3))) (.if_ (.or (.cmp .eq (.v 5) (.k (.str [62]))) (.not (.call 82 (.cons (.v 0) (.cons (.v 6) (.cons (.v 7) .nil)))))) (.seq (.asg 9 (.bm .lindex (.v 3) (.cons (.v 8) .nil))) (.seq (.asg 10 (.ite (.cmp .eq (.ix (.v 0) (.k (.int 0))) (.k (.str [110, 101, 115, 116, 101, 100]))) (.ls .nil) (.sl (.v 3) (.itv (.bin .add (.v 9) (.k (.int 1)))) .no))) (.asg 3 (.bin .add (.sl (.v 3) .no (.itv (.v 9))) (.v 10))))) .skip) .skip) [some (manV kd op w f), v1, v2, some (sL found), v4, some (.str [c]), some (.str ah), some (.str fo), some (.str [sortL c]), x9, x10] M D := fun {x9 x10} hn => by
    simp only [if_neg hn] at q
    conv => whnf
    refine ⟨by decide, ?_⟩
    conv => whnf
    refine ⟨ok_two (sm_one hc) (by decide) (by decide), ?_⟩
    rw [any_two]
    by_cases hc2 : c = 62 ∨ c = 125
    · rw [decide_eq_true hc2]
      conv => whnf
      refine ⟨in_ok hs hf, ?_⟩
      rw [any_sL]
      by_cases hm : sortL c ∈ found
      · rw [decide_eq_true hm]
        simp only [if_pos (And.intro hc2 hm)] at q
        have cutting : (∀ y9 y10, D.nx [some (manV kd op w f), v1, v2, some (sL (match firstS (sortL c) found with
            | some j => found.take j ++ (if kd = kNes then [] else found.drop (j + 1))
            | none => found)), v4, some (.str [c]), some (.str ah), some (.str fo), some (.str [sortL c]), y9, y10] M) → wS (callW G (d + 1)) (.seq (.asg 9 (.bm .lindex (.v 3) (.cons (.v 8) .nil))) (.seq (.asg 10 (.ite (.cmp .eq (.ix (.v 0) (.k (.int 0))) (.k (.str [110, 101, 115, 116, 101, 100]))) (.ls .nil) (.sl (.v 3) (.itv (.bin .add (.v 9) (.k (.int 1)))) .no))) (.asg 3 (.bin .add (.sl (.v 3) .no (.itv (.v 9))) (.v 10))))) [some (manV kd op w f), v1, v2, some (sL found), v4, some (.str [c]), some (.str ah), some (.str fo), some (.str [sortL c]), x9, x10] M D := fun q2 => by
          obtain ⟨j, ej⟩ := firstS_mem hm
          have hj := firstS_lt ej
          rw [ej] at q2
          conv => whnf
          refine ⟨by rw [scal_sL]; rfl, ?_⟩
          rw [first_sL, ej]
          conv => whnf
          by_cases hk : kd = kNes
          · rw [decide_eq_true (show kd = [110, 101, 115, 116, 101, 100] from hk)]
            simp only [if_pos hk] at q2
            conv => whnf
            refine ⟨by decide, ?_⟩
            conv => whnf
            rw [cut_pre _ (by rw [cl]; exact hj)]
            refine ⟨Nat.le_trans (show _ ≤ 900 by simp; omega) (by decide), ?_⟩
            have q3 := q2 (some (.int j)) (some (.lst []))
            unfold sL at q3
            have e3 : List.map (fun c => PV.str [c]) (found.take j ++ ([] : List Nat)) = (found.map fun c => PV.str [c]).take j ++ ([] : List PV) := by simp
            rw [e3] at q3
            exact q3
          · rw [decide_eq_false (show ¬ kd = [110, 101, 115, 116, 101, 100] from hk)]
            simp only [if_neg hk] at q2
            conv => whnf
            rw [cut_pre _ (by rw [cl]; exact hj), cut_suf _ (by rw [cl]; exact hj)]
            refine ⟨Nat.le_trans (show _ ≤ 900 by simp; omega) (by decide), ?_⟩
            have q3 := q2 (some (.int j)) (some (.lst ((found.map fun c => PV.str [c]).drop (j + 1))))
            unfold sL at q3
            rw [show (found.take j ++ found.drop (j + 1)).map (fun c => PV.str [c]) = (found.map fun c => PV.str [c]).take j ++ (found.map fun c => PV.str [c]).drop (j + 1) by simp] at q3
            rw [← cut_suf (found.map fun c => PV.str [c]) (by rw [cl]; exact hj)] at q3 ⊢
            exact q3
        conv => whnf
        by_cases h62 : c = 62
        · subst h62
          simp only [true_or, if_true] at q
          conv => whnf
          exact cutting q
        · have e62 : decide ([c] = [62]) = false := decide_eq_false fun z => h62 (by cases z; rfl)
          rw [e62]
          conv => whnf
          refine sp_mark hI h1 h2 ?_
          cases ha : apos w f ah fo with
          | true =>
            simp only [ha, h62, false_or, Bool.true_eq_false, if_false] at q
            conv => whnf
            exact q _ _
          | false =>
            simp only [ha, or_true, if_true] at q
            conv => whnf
            exact cutting q
      · rw [decide_eq_false hm]
        simp only [if_neg (fun z : _ ∧ _ => hm z.2)] at q
        conv => whnf
        exact q _ _
    · rw [decide_eq_false hc2]
      simp only [if_neg (fun z : _ ∧ _ => hc2 z.1)] at q
      conv => whnf
      exact q _ _
  conv => whnf
  refine ⟨by decide, ?_⟩
  conv => whnf
  refine ⟨ok_two (sm_one hc) (by decide) (by decide), ?_⟩
  rw [any_two]
  by_cases hc1 : c = 60 ∨ c = 123
  · rw [decide_eq_true hc1]
    conv => whnf
    refine ⟨in_ok hs hf, ?_⟩
    rw [any_sL]
    by_cases hm : sortL c ∈ found
    · rw [decide_eq_true hm]
      conv => whnf
      exact fst fun z => z.2 hm
    · rw [decide_eq_false hm]
      simp only [if_pos (And.intro hc1 hm)] at q
      conv => whnf
      refine ⟨by show 1 ≤ LL; decide, ?_⟩
      conv => whnf
      refine ⟨by rw [cl]; exact Nat.le_trans (show found.length + 1 ≤ 901 by omega) (by decide), ?_⟩
      have e : (found ++ [sortL c]).map (fun c => PV.str [c]) = found.map (fun c => PV.str [c]) ++ [PV.str [sortL c]] := by simp
      have q1 := q x9 x10
      unfold sL at q1
      rw [e] at q1
      exact q1
  · rw [decide_eq_false hc1]
    conv => whnf
    exact fst fun z => hc1 z.1
theorem sp_open (hI : Is G) {d : Nat} {kd : List Nat} {op : List (List Nat)} {w f : Bool} {head behind : List Nat} {M : Mem} {Q : Kt} {Z : Xt} (hb : OneS behind) (hs : ∀ c ∈ head, Sm c) (hl : head.length ≤ 900)
    (q : Q (sL (lop kd w f behind [] [] head)) M) : callW G (d + 2) 86 [manV kd op w f, .str head, .str behind] M Q Z := by
  refine call_in (hI _ _ rfl) rfl ?_
  conv => whnf
  refine ⟨by decide, ?_⟩
  have loop : ∀ (rest pre found ah : List Nat) (i : Nat) (x4 x5 x6 x7 x8 x9 x10 : Option PV), i = pre.length → head = pre ++ rest → (∀ c ∈ found, Sm c) → found.length ≤ i → ah = last1 pre → Q (sL (lop kd w f behind found ah rest)) M →
      wForR [4, 5] false (fun ρ' M' D' => wS (callW G (d + 1)) q__law_open_for0 ρ' M' D') (enumL i (strVs rest)) [some (manV kd op w f), some (.str head), some (.str behind), some (sL found), x4, x5, x6, x7, x8, x9, x10] M
        { nx := fun ρ1 M1 => wS (callW G (d + 1)) (.ret (.v 3)) ρ1 M1 { nx := fun _ M1 => Q .non M1, rt := Q, ct := fun _ _ => False, ex := Z }, rt := Q, ct := fun _ _ => False, ex := Z } := by
    intro rest
    induction rest with
    | nil =>
      intro pre found ah i x4 x5 x6 x7 x8 x9 x10 hi ht hf hfl ha hq
      conv => whnf
      exact hq
    | cons c r ih =>
      intro pre found ah i x4 x5 x6 x7 x8 x9 x10 hi ht hf hfl ha hq
      have htl : head.length = i + (r.length + 1) := by rw [ht, hi]; simp
      have hLL : head.length ≤ LL := Nat.le_trans hl (by decide)
      have hc : Sm c := hs c (by rw [ht]; simp)
      have step : ∀ (ah2 fo : List Nat), OneS ah2 → OneS fo → ah2 = ah → fo = nxt behind r → wS (callW G (d + 1)) (.seq (.asg 8 (.call 98 (.cons (.v 5) .nil))) ifB) [some (manV kd op w f), some (.str head), some (.str behind), some (sL found), some (.int i), some (.str [c]), some (.str ah2), some (.str fo), x8, x9, x10] M
          { nx := fun ρ2 M2 => wForR [4, 5] false (fun ρ' M' D' => wS (callW G (d + 1)) q__law_open_for0 ρ' M' D') (enumL (i + 1) (strVs r)) ρ2 M2 { nx := fun ρ1 M1 => wS (callW G (d + 1)) (.ret (.v 3)) ρ1 M1 { nx := fun _ M1 => Q .non M1, rt := Q, ct := fun _ _ => False, ex := Z }, rt := Q, ct := fun _ _ => False, ex := Z }, rt := Q,
            ct := fun ρ2 M2 => wForR [4, 5] false (fun ρ' M' D' => wS (callW G (d + 1)) q__law_open_for0 ρ' M' D') (enumL (i + 1) (strVs r)) ρ2 M2 { nx := fun ρ1 M1 => wS (callW G (d + 1)) (.ret (.v 3)) ρ1 M1 { nx := fun _ M1 => Q .non M1, rt := Q, ct := fun _ _ => False, ex := Z }, rt := Q, ct := fun _ _ => False, ex := Z }, ex := Z } := fun ah2 fo g1 g2 e1 e2 => by
        subst e1
        conv => whnf
        refine sp_sort hI hc ?_
        refine ifB_ok hI g1 g2 hc hf (by omega) fun y9 y10 => ?_
        have hlo := lo_ok (kd := kd) (w := w) (f := f) (found := found) (ah := ah2) (sg := c) (fo := fo) hf hc
        refine ih (pre ++ [c]) _ [c] (i + 1) _ _ _ _ _ _ _ (by simp [hi]) (by rw [ht]; simp) hlo.1 (Nat.le_trans hlo.2 (by omega)) (by simp [last1]) ?_
        unfold lop at hq
        rw [← e2] at hq
        exact hq
      have nx1 : OneS (nxt behind r) := by
        cases r with
        | nil => exact hb
        | cons x r => exact .inr ⟨x, rfl, hs x (by rw [ht]; simp)⟩
      have ah1 : OneS ah := by
        rw [ha]
        rcases last1_one pre with z | ⟨y, z⟩
        · exact .inl z
        · refine .inr ⟨y, z, hs y ?_⟩
          rw [ht]
          exact List.mem_append_left _ (List.mem_of_mem_drop (by unfold last1 at z; rw [z]; simp))
      have next : ∀ (ah2 : List Nat), ah2 = ah → wS (callW G (d + 1)) (.seq (.asg 7 (.ite (.cmp .lt (.bin .add (.v 4) (.k (.int 1))) (.bi .len (.cons (.v 1) .nil))) (.ix (.v 1) (.bin .add (.v 4) (.k (.int 1)))) (.v 2))) (.seq (.asg 8 (.call 98 (.cons (.v 5) .nil))) ifB)) [some (manV kd op w f), some (.str head), some (.str behind), some (sL found), some (.int i), some (.str [c]), some (.str ah2), x7, x8, x9, x10] M
          { nx := fun ρ2 M2 => wForR [4, 5] false (fun ρ' M' D' => wS (callW G (d + 1)) q__law_open_for0 ρ' M' D') (enumL (i + 1) (strVs r)) ρ2 M2 { nx := fun ρ1 M1 => wS (callW G (d + 1)) (.ret (.v 3)) ρ1 M1 { nx := fun _ M1 => Q .non M1, rt := Q, ct := fun _ _ => False, ex := Z }, rt := Q, ct := fun _ _ => False, ex := Z }, rt := Q,
            ct := fun ρ2 M2 => wForR [4, 5] false (fun ρ' M' D' => wS (callW G (d + 1)) q__law_open_for0 ρ' M' D') (enumL (i + 1) (strVs r)) ρ2 M2 { nx := fun ρ1 M1 => wS (callW G (d + 1)) (.ret (.v 3)) ρ1 M1 { nx := fun _ M1 => Q .non M1, rt := Q, ct := fun _ _ => False, ex := Z }, rt := Q, ct := fun _ _ => False, ex := Z }, ex := Z } := fun ah2 e1 => by
        conv => whnf
        refine ⟨hLL, ?_⟩
        conv => whnf
        cases r with
        | nil =>
          rw [decide_eq_false (show ¬ (i : Int) + 1 < (head.length : Int) by rw [htl]; simp)]
          conv => whnf
          exact step ah2 behind (e1 ▸ ah1) hb e1 rfl
        | cons x r =>
          rw [decide_eq_true (show (i : Int) + 1 < (head.length : Int) by rw [htl]; simp; omega)]
          conv => whnf
          refine ⟨hLL, ?_⟩
          have hix : ixAt head.length ((i : Int) + 1) = some (i + 1) := by
            unfold ixAt
            rw [if_pos (by omega), if_pos (by rw [htl]; simp; omega)]
            congr 1
          have hat : head[i + 1]? = some x := by
            rw [ht, hi]
            simp
          rw [hix]
          conv => whnf
          rw [hat]
          conv => whnf
          exact step ah2 [x] (e1 ▸ ah1) nx1 e1 rfl
      conv => whnf
      by_cases h0 : 0 < i
      · rw [decide_eq_true (show (0 : Int) < (i : Int) by omega)]
        conv => whnf
        refine ⟨hLL, ?_⟩
        have hix : ixAt head.length ((i : Int) - 1) = some (i - 1) := by
          unfold ixAt
          rw [if_pos (by omega), if_pos (by rw [htl]; omega)]
          congr 1
          omega
        rw [hix]
        have hpl : i - 1 < pre.length := by omega
        have hat : head[i - 1]? = some pre[i - 1] := by
          rw [ht, List.getElem?_append_left hpl]
          exact List.getElem?_eq_getElem hpl
        conv => whnf
        rw [hat]
        conv => whnf
        refine next [pre[i - 1]] ?_
        rw [ha]
        unfold last1
        have e1 : pre.length - 1 = i - 1 := by omega
        rw [e1, List.drop_eq_getElem_cons hpl]
        congr 1
        rw [List.drop_of_length_le (by omega)]
      · rw [decide_eq_false (show ¬ (0 : Int) < (i : Int) by omega)]
        conv => whnf
        refine next [] ?_
        have e0 : pre = [] := List.length_eq_zero_iff.mp (by omega)
        rw [ha, e0]
        rfl
  conv => whnf
  rw [wFor_R]
  exact loop head [] [] [] 0 none none none none none none none rfl rfl (fun _ z => by cases z) (Nat.le_refl _) rfl q
end Qm
namespace Qm
open Qt
variable {G : Nat → Option PF}
local macro_rules | `(tactic| tm_at "v") => `(tactic| ((conv => whnf); repeat (refine And.intro (by first | with_reducible rfl | with_reducible assumption | exact LLle (by omega) | exact LLle (by simp; omega) | omega | decide | exact Nat.le_of_ble_eq_true rfl) ?_; (conv => whnf))))
local macro_rules | `(tactic| tm_at "w") => `(tactic| ((conv => whnf); repeat (refine And.intro (by first | decide | assumption | omega | rfl | exact Nat.le_of_ble_eq_true rfl) ?_; (conv => whnf))))
/-! ### law's fold and the program's state -/
theorem apos_fo {w f : Bool} {ah x y : List Nat} (h1 : isIn x [97, 98] = isIn y [97, 98]) (h2 : isIn x [49] = isIn y [49]) : apos w f ah x = apos w f ah y := by
  unfold apos
  rw [h1, h2]
theorem lo_fo {kd : List Nat} {w f : Bool} {found ah : List Nat} {c : Nat} {x y : List Nat} (h1 : isIn x [97, 98] = isIn y [97, 98]) (h2 : isIn x [49] = isIn y [49]) : lo kd w f found ah c x = lo kd w f found ah c y := by
  unfold lo
  rw [apos_fo h1 h2]
theorem lop_fo {kd : List Nat} {w f : Bool} {x y : List Nat} (h1 : isIn x [97, 98] = isIn y [97, 98]) (h2 : isIn x [49] = isIn y [49]) : ∀ (l found ah : List Nat), lop kd w f x found ah l = lop kd w f y found ah l
  | [], _, _ => rfl
  | [c], found, ah => by
    unfold lop
    show lop kd w f x (lo kd w f found ah c x) [c] [] = lop kd w f y (lo kd w f found ah c y) [c] []
    rw [lo_fo h1 h2]
    rfl
  | c :: b :: r, found, ah => by
    unfold lop
    exact lop_fo h1 h2 (b :: r) _ _
theorem lop_snoc {kd : List Nat} {w f : Bool} {b : List Nat} {c : Nat} : ∀ (l found ah : List Nat), lop kd w f b found ah (l ++ [c]) = lo kd w f (lop kd w f [c] found ah l) (if l = [] then ah else last1 l) c b
  | [], found, ah => rfl
  | [x], found, ah => rfl
  | x :: y :: r, found, ah => by
    have e := lop_snoc (kd := kd) (w := w) (f := f) (b := b) (c := c) (y :: r) (lo kd w f found ah x [y]) [x]
    show lop kd w f b (lo kd w f found ah x [y]) [x] (y :: r ++ [c]) = _
    rw [e]
    show lo kd w f (lop kd w f [c] (lo kd w f found ah x [y]) [x] (y :: r)) (last1 (y :: r)) c b = lo kd w f (lop kd w f [c] found ah (x :: y :: r)) (last1 (x :: y :: r)) c b
    have e2 : last1 (x :: y :: r) = last1 (y :: r) := by
      unfold last1
      simp
    rw [e2]
    rfl
/-- the sorts that can be open -/
def Srts (l : List Nat) : Prop := l.Nodup ∧ ∀ c ∈ l, c = 34 ∨ c = 39
theorem take_while_first {q : Nat} : ∀ {l : List Nat} {j : Nat}, firstS q l = some j → l.take j = l.takeWhile (· != q) ∧ (l.Nodup → l.take j ++ l.drop (j + 1) = l.filter (· != q))
  | [], _, h => by cases h
  | x :: r, j, h => by
    unfold firstS at h
    by_cases hx : (x == q) = true
    · rw [if_pos hx] at h
      cases h
      have e : x = q := by simpa using hx
      subst e
      refine ⟨by simp, fun hn => ?_⟩
      rw [List.nodup_cons] at hn
      simp only [List.take_zero, List.nil_append, Nat.zero_add, List.drop_succ_cons, List.drop_zero, List.filter_cons, bne_self_eq_false]
      refine (List.filter_eq_self.mpr fun y hy => ?_).symm
      simp only [bne_iff_ne, ne_eq]
      exact fun z => hn.1 (z ▸ hy)
    · rw [if_neg hx] at h
      have hne : x ≠ q := by simpa using hx
      cases e : firstS q r with
      | none => rw [e] at h; cases h
      | some k =>
        rw [e] at h
        cases h
        obtain ⟨h1, h2⟩ := take_while_first e
        refine ⟨?_, fun hn => ?_⟩
        · rw [List.take_succ_cons, h1, List.takeWhile_cons]
          simp [hne]
        · rw [List.nodup_cons] at hn
          rw [List.take_succ_cons, List.drop_succ_cons, List.cons_append, h2 hn.2, List.filter_cons]
          simp [hne]
theorem lo_stB {kd : List Nat} {w f : Bool} {st ah bh : List Nat} {c : Nat} (hk : kd = kNes ∨ kd = kTur) (hst : Srts st) : lo kd w f st ah c bh = stB kd w f st ah c bh := by
  have hb : kd ≠ kBes := by rcases hk with rfl | rfl <;> decide
  unfold lo stB stP
  by_cases hq : Qd c
  · rw [if_neg (fun z : kd = kBes ∨ ¬ Qd c => z.elim hb fun y => y hq)]
    have es : sortL c = srt c := by rcases hq with rfl | rfl | rfl | rfl <;> rfl
    rw [es]
    rcases hq with rfl | rfl | rfl | rfl
    · by_cases hm : srt 60 ∈ st <;> simp [hm]
    · by_cases hm : srt 62 ∈ st
      · obtain ⟨j, ej⟩ := firstS_mem hm
        obtain ⟨t1, t2⟩ := take_while_first ej
        rcases hk with rfl | rfl
        · simp [hm, ej, t1, kNes, kTur]
        · simp [hm, ej, t2 hst.1, kNes, kTur]
      · rcases hk with rfl | rfl
        · simp [hm, kNes, kTur]
        · have e := List.filter_eq_self.mpr fun y hy => (by simp only [bne_iff_ne, ne_eq]; exact fun z => hm (z ▸ hy) : (y != srt 62) = true)
          simp [hm, kTur, e]
    · by_cases hm : srt 123 ∈ st <;> simp [hm]
    · cases ha : apos w f ah bh with
      | true => simp [ha]
      | false =>
        by_cases hm : srt 125 ∈ st
        · obtain ⟨j, ej⟩ := firstS_mem hm
          obtain ⟨t1, t2⟩ := take_while_first ej
          rcases hk with rfl | rfl
          · simp [hm, ej, t1, kNes, kTur]
          · simp [hm, ej, t2 hst.1, kNes, kTur]
        · rcases hk with rfl | rfl
          · simp [hm, kNes, kTur]
          · have e := List.filter_eq_self.mpr fun y hy => (by simp only [bne_iff_ne, ne_eq]; exact fun z => hm (z ▸ hy) : (y != srt 125) = true)
            simp [hm, kTur, e]
  · have h1 : ¬ (c = 60 ∨ c = 123) := fun z => hq (z.elim .inl fun y => .inr (.inr (.inl y)))
    have h2 : ¬ (c = 62 ∨ c = 125) := fun z => hq (z.elim (fun y => .inr (.inl y)) fun y => .inr (.inr (.inr y)))
    have h3 : kd = kBes ∨ ¬ Qd c := .inr hq
    rw [if_neg (fun z => h1 z.1), if_neg (fun z => h2 z.1), if_pos h3]
end Qm
namespace Qm
open Qt
variable {G : Nat → Option PF}
local macro_rules | `(tactic| tm_at "v") => `(tactic| ((conv => whnf); repeat (refine And.intro (by first | with_reducible rfl | with_reducible assumption | exact LLle (by omega) | exact LLle (by simp; omega) | omega | decide | exact Nat.le_of_ble_eq_true rfl) ?_; (conv => whnf))))
local macro_rules | `(tactic| tm_at "w") => `(tactic| ((conv => whnf); repeat (refine And.intro (by first | decide | assumption | omega | rfl | exact Nat.le_of_ble_eq_true rfl) ?_; (conv => whnf))))
def clsN : List Nat → List Nat
  | [] => cStart
  | c :: _ => if c = 32 then cBlank else if c = 40 then cBrack else if c = 45 then cDash else if c = 60 then cQuote else if c = 123 then cQuote else cNone
theorem clsN_find {ah : List Nat} (h : One ah) : (dFind (.str ah) [.str [], .str [32], .str [40], .str [45], .str [60], .str [123]] [.str cStart, .str cBlank, .str cBrack, .str cDash, .str cQuote, .str cQuote]).getD (.str cNone) = .str (clsN ah) := by
  rcases h with rfl | ⟨c, rfl⟩
  · rfl
  · unfold clsN
    simp only [dFind, PV.eqv, List.cons.injEq, and_true]
    by_cases h1 : c = 32
    · simp [h1]
    · by_cases h2 : c = 40
      · simp [h2]
      · by_cases h3 : c = 45
        · simp [h3]
        · by_cases h4 : c = 60
          · simp [h4]
          · by_cases h5 : c = 123
            · simp [h5]
            · simp [h1, h2, h3, h4, h5, Ne.symm h1, Ne.symm h2, Ne.symm h3, Ne.symm h4, Ne.symm h5]
/-- places without the two words for others -/
def OpN (op : List (List Nat)) : Prop := cNone ∉ op ∧ cOther ∉ op
theorem clsN_in {ah : List Nat} {op : List (List Nat)} (h : OpN op) : decide (clsN ah ∈ op) = decide (clsOf ah ∈ op) := by
  cases ah with
  | nil => rfl
  | cons c r =>
    unfold clsN clsOf
    by_cases h1 : c = 32
    · simp [h1]
    · by_cases h2 : c = 40
      · simp [h2]
      · by_cases h3 : c = 45
        · simp [h3]
        · by_cases h4 : c = 60
          · simp [h4]
          · by_cases h5 : c = 123
            · simp [h5]
            · simp only [h1, h2, h3, h4, h5, if_false]
              rw [decide_eq_false h.1, decide_eq_false h.2]
def becL (kd : List Nat) (op : List (List Nat)) (w f : Bool) (head : List Nat) (sg : Nat) (bh : List Nat) : Nat :=
  if sg = 39 ∧ apos w f (last1 head) bh = true then 125 else qut sg (if kd = kBes then decide (clsOf (last1 head) ∈ op) else !decide (sg ∈ lop kd w f [sg] [] [] head))
theorem last1_s {x : List Nat} (h : ∀ c ∈ x, Sm c) : OneS (last1 x) := by
  rcases last1_one x with z | ⟨y, z⟩
  · exact .inl z
  · exact .inr ⟨y, z, h y (List.mem_of_mem_drop (by unfold last1 at z; rw [z]; simp))⟩
theorem lop_sm {kd : List Nat} {w f : Bool} {b : List Nat} : ∀ (l found ah : List Nat), (∀ c ∈ found, Sm c) → (∀ c ∈ l, Sm c) → ∀ c ∈ lop kd w f b found ah l, Sm c
  | [], found, ah, h1, _ => h1
  | x :: r, found, ah, h1, h2 => lop_sm r _ _ (lo_ok h1 (h2 x (List.mem_cons_self ..))).1 fun c hc => h2 c (List.mem_cons_of_mem _ hc)
theorem sp_becomes (hI : Is G) {d : Nat} {kd : List Nat} {op : List (List Nat)} {w f : Bool} {head bh : List Nat} {sg : Nat} {M : Mem} {Q : Kt} {Z : Xt} (ho : OpN op) (hb : OneS bh) (hs : ∀ c ∈ head, Sm c) (hl : head.length ≤ 900) (hq : sg = 34 ∨ sg = 39)
    (q : Q (.str [becL kd op w f head sg bh]) M) : callW G (d + 3) 57 [manV kd op w f, .str head, .str [sg], .str bh] M Q Z := by
  refine call_in (hI _ _ rfl) rfl ?_
  have hLL : head.length ≤ LL := Nat.le_trans hl (by decide)
  have fin : ∀ (o : Bool) (x5 : Option PV), Q (.str [qut sg o]) M → wS (callW G (d + 2)) (.seq (.if_ (.cmp .eq (.v 2) (.k (.str [39]))) (.ret (.ite (.v 6) (.k (.str [123])) (.k (.str [125])))) .skip) (.ret (.ite (.v 6) (.k (.str [60])) (.k (.str [62]))))) [some (manV kd op w f), some (.str head), some (.str [sg]), some (.str bh), some (.str (last1 head)), x5, some (.bl o)] M { nx := fun _ M1 => Q .non M1, rt := Q, ct := fun _ _ => False, ex := Z } := fun o x5 h => by
    rcases hq with rfl | rfl <;> cases o <;> (conv => whnf) <;> exact h
  have tail : Q (.str [qut sg (if kd = kBes then decide (clsOf (last1 head) ∈ op) else !decide (sg ∈ lop kd w f [sg] [] [] head))]) M → wS (callW G (d + 2)) (.seq (.if_ (.cmp .eq (.ix (.v 0) (.k (.int 0))) (.k (.str [98, 101, 115, 105, 100, 101]))) (.seq (.asg 5 (.ds (.cons (.k (.str [])) (.cons (.k (.str [32])) (.cons (.k (.str [40])) (.cons (.k (.str [45])) (.cons (.k (.str [60])) (.cons (.k (.str [123])) .nil)))))) (.cons (.k (.str [115, 116, 97, 114, 116])) (.cons (.k (.str [98, 108, 97, 110, 107])) (.cons (.k (.str [98, 114, 97, 99, 107, 101, 116])) (.cons (.k (.str [100, 97, 115, 104])) (.cons (.k (.str [113, 117, 111, 116, 101])) (.cons (.k (.str [113, 117, 111, 116, 101])) .nil)))))))) (.asg 6 (.cmp .in_ (.bm .get (.v 5) (.cons (.v 4) (.cons (.k (.str [110, 111, 110, 101])) .nil))) (.ix (.v 0) (.k (.int 1)))))) (.asg 6 (.cmp .notin (.v 2) (.call 86 (.cons (.v 0) (.cons (.v 1) (.cons (.v 2) .nil))))))) (.seq (.if_ (.cmp .eq (.v 2) (.k (.str [39]))) (.ret (.ite (.v 6) (.k (.str [123])) (.k (.str [125])))) .skip) (.ret (.ite (.v 6) (.k (.str [60])) (.k (.str [62])))))) [some (manV kd op w f), some (.str head), some (.str [sg]), some (.str bh), some (.str (last1 head)), none, none] M { nx := fun _ M1 => Q .non M1, rt := Q, ct := fun _ _ => False, ex := Z } := fun h => by
    conv => whnf
    by_cases hk : kd = kBes
    · rw [decide_eq_true (show kd = [98, 101, 115, 105, 100, 101] from hk)]
      rw [if_pos hk, ← clsN_in ho] at h
      conv => whnf
      refine ⟨rfl, ?_⟩
      erw [clsN_find (last1_one head)]
      conv => whnf
      refine ⟨by rw [scal_strs]; rfl, ?_⟩
      rw [any_strs]
      exact fin _ _ h
    · rw [decide_eq_false (show ¬ kd = [98, 101, 115, 105, 100, 101] from hk)]
      rw [if_neg hk] at h
      conv => whnf
      have hsg : Sm sg := by rcases hq with rfl | rfl <;> decide
      refine sp_open hI (.inr ⟨sg, rfl, hsg⟩) hs hl ?_
      conv => whnf
      refine ⟨in_ok hsg (lop_sm head [] [] (fun _ z => by cases z) hs), ?_⟩
      rw [any_sL]
      exact fin _ _ h
  unfold becL at q
  conv => whnf
  refine ⟨hLL, ?_⟩
  rw [show cutL head (some (-1)) none = last1 head from cut_last head]
  rcases hq with rfl | rfl
  · rw [if_neg (by simp)] at q
    conv => whnf
    exact tail q
  · conv => whnf
    refine sp_mark hI (last1_s hs) hb ?_
    cases ha : apos w f (last1 head) bh with
    | true =>
      rw [ha, if_pos ⟨rfl, rfl⟩] at q
      conv => whnf
      exact q
    | false =>
      rw [ha, if_neg (by simp)] at q
      conv => whnf
      exact tail q
end Qm
namespace Qm
open Qt
variable {G : Nat → Option PF}
local macro_rules | `(tactic| tm_at "v") => `(tactic| ((conv => whnf); repeat (refine And.intro (by first | with_reducible rfl | with_reducible assumption | exact LLle (by omega) | exact LLle (by simp; omega) | omega | decide | exact Nat.le_of_ble_eq_true rfl) ?_; (conv => whnf))))
local macro_rules | `(tactic| tm_at "w") => `(tactic| ((conv => whnf); repeat (refine And.intro (by first | decide | assumption | omega | rfl | exact Nat.le_of_ble_eq_true rfl) ?_; (conv => whnf))))
def tL (kd : List Nat) (op : List (List Nat)) (w f looks : Bool) : List Nat → List Nat → List Nat
  | found, [] => found
  | found, c :: r => tL kd op w f looks (found ++ [if c = 34 ∨ c = 39 then becL kd op w f found c (if looks then r.take 1 else []) else c]) r
theorem lo_srts {kd : List Nat} {w f : Bool} {st ah bh : List Nat} {c : Nat} (h : Srts st) : Srts (lo kd w f st ah c bh) := by
  unfold lo
  split
  · rename_i hc
    have e : sortL c = 34 ∨ sortL c = 39 := by rcases hc.1 with rfl | rfl <;> simp [sortL]
    refine ⟨?_, fun x hx => ?_⟩
    · rw [List.nodup_append]
      exact ⟨h.1, by simp, fun a ha b hb => by
        rw [List.mem_singleton] at hb
        rw [hb]
        exact fun z => hc.2 (z ▸ ha)⟩
    · rcases List.mem_append.mp hx with z | z
      · exact h.2 x z
      · rw [List.mem_singleton] at z
        rw [z]
        exact e
  · split
    · split
      · cases e : firstS (sortL c) st with
        | none => exact h
        | some j =>
          have t := (take_while_first e).2 h.1
          by_cases hk : kd = kNes
          · simp only [if_pos hk, List.append_nil]
            exact ⟨h.1.sublist (List.take_sublist ..), fun x hx => h.2 x (List.mem_of_mem_take hx)⟩
          · simp only [if_neg hk]
            rw [t]
            exact ⟨h.1.sublist List.filter_sublist, fun x hx => h.2 x (List.mem_filter.mp hx).1⟩
      · exact h
    · exact h
theorem qut_in (sg : Nat) (o : Bool) : Qd (qut sg o) := by
  unfold qut Qd
  split <;> cases o <;> simp
theorem outc_in {kd : List Nat} {op : List (List Nat)} {w f : Bool} {st ah : List Nat} {sg : Nat} {bh : List Nat} : Qd (outc kd op w f st ah sg bh) := by
  unfold outc
  split
  · exact .inr (.inr (.inr rfl))
  · exact qut_in _ _
theorem qd_in {c : Nat} (h : Qd c ∨ c = 34 ∨ c = 39) : isIn [c] [97, 98] = false ∧ isIn [c] [49] = false := by
  rcases h with (rfl | rfl | rfl | rfl) | rfl | rfl <;> decide
/-- the law's text is the program's -/
theorem tL_tw {kd : List Nat} {op : List (List Nat)} {w f : Bool} (hk : kd = kBes ∨ kd = kNes ∨ kd = kTur) : ∀ (rest found st : List Nat), (kd ≠ kBes → st = lop kd w f (rest.take 1) [] [] found ∧ Srts st) → tL kd op w f true found rest = tw kd op w f true found st rest
  | [], _, _, _ => rfl
  | c :: r, found, st, h => by
    unfold tL tw
    have ec : (if c = 34 ∨ c = 39 then becL kd op w f found c (if true = true then r.take 1 else []) else c) = (if c = 34 ∨ c = 39 then outc kd op w f st (last1 found) c (if true = true then r.take 1 else []) else c) := by
      by_cases hc : c = 34 ∨ c = 39
      · rw [if_pos hc, if_pos hc, if_pos rfl]
        unfold becL outc opn
        by_cases hb : kd = kBes
        · simp only [if_pos hb]
        · simp only [if_neg hb]
          rw [(h hb).1]
          rfl
      · rw [if_neg hc, if_neg hc]
    rw [ec]
    generalize hc' : (if c = 34 ∨ c = 39 then outc kd op w f st (last1 found) c (if true = true then r.take 1 else []) else c) = c'
    refine tL_tw hk r (found ++ [c']) _ fun hb => ?_
    obtain ⟨h1, h2⟩ := h hb
    have hk2 : kd = kNes ∨ kd = kTur := hk.resolve_left hb
    have same : isIn [c'] [97, 98] = isIn [c] [97, 98] ∧ isIn [c'] [49] = isIn [c] [49] := by
      by_cases hc : c = 34 ∨ c = 39
      · rw [if_pos hc] at hc'
        have q1 : Qd c' := by
          rw [← hc']
          exact outc_in
        obtain ⟨a1, a2⟩ := qd_in (.inl q1)
        obtain ⟨b1, b2⟩ := qd_in (c := c) (.inr hc)
        exact ⟨by rw [a1, b1], by rw [a2, b2]⟩
      · rw [if_neg hc] at hc'
        rw [hc']
        exact ⟨rfl, rfl⟩
    have e : lop kd w f (r.take 1) [] [] (found ++ [c']) = lo kd w f st (last1 found) c' (r.take 1) := by
      rw [lop_snoc, lop_fo same.1 same.2, h1]
      have : (if found = [] then [] else last1 found) = last1 found := by
        split
        · rename_i z; rw [z]; rfl
        · rfl
      rw [this]
      rfl
    rw [← lo_stB hk2 h2]
    exact ⟨e.symm, lo_srts h2⟩
theorem turned_eq {kd : List Nat} {op : List (List Nat)} {w f : Bool} (hk : kd = kBes ∨ kd = kNes ∨ kd = kTur) (text : List Nat) : tL kd op w f true [] text = tw kd op w f true [] [] text :=
  tL_tw hk text [] [] fun _ => ⟨rfl, List.nodup_nil, fun _ z => by cases z⟩
end Qm
namespace Qm
open Qt
variable {G : Nat → Option PF}
local macro_rules | `(tactic| tm_at "v") => `(tactic| ((conv => whnf); repeat (refine And.intro (by first | with_reducible rfl | with_reducible assumption | exact LLle (by omega) | exact LLle (by simp; omega) | omega | decide | exact Nat.le_of_ble_eq_true rfl) ?_; (conv => whnf))))
local macro_rules | `(tactic| tm_at "w") => `(tactic| ((conv => whnf); repeat (refine And.intro (by first | decide | assumption | omega | rfl | exact Nat.le_of_ble_eq_true rfl) ?_; (conv => whnf))))
theorem any_qq (c : Nat) : ([PV.str [39], .str [34]].any fun z => PV.eqv z (.str [c])) = decide (c = 34 ∨ c = 39) := by
  rw [any_two]
  exact decide_eq_decide.mpr ⟨fun z => z.symm, fun z => z.symm⟩
theorem becL_sm {kd : List Nat} {op : List (List Nat)} {w f : Bool} {head : List Nat} {sg : Nat} {bh : List Nat} : Sm (becL kd op w f head sg bh) := by
  have key : ∀ o : Bool, Sm (qut sg o) := fun o => by
    unfold qut
    split <;> cases o <;> decide
  unfold becL
  split
  · decide
  · exact key _
theorem sp_lturned (hI : Is G) {d : Nat} {kd : List Nat} {op : List (List Nat)} {w f looks : Bool} {text : List Nat} {M : Mem} {Q : Kt} {Z : Xt} (ho : OpN op) (hs : ∀ c ∈ text, Sm c) (hl : text.length ≤ 900)
    (q : Q (.str (tL kd op w f looks [] text)) M) : callW G (d + 4) 109 [manV kd op w f, .str text, .bl looks] M Q Z := by
  refine call_in (hI _ _ rfl) rfl ?_
  conv => whnf
  have loop : ∀ (rest pre found : List Nat) (i : Nat) (x4 x5 x6 x7 : Option PV), i = pre.length → text = pre ++ rest → found.length = i → (∀ c ∈ found, Sm c) → Q (.str (tL kd op w f looks found rest)) M →
      wForR [4, 5] false (fun ρ' M' D' => wS (callW G (d + 3)) q__law_turned_for0 ρ' M' D') (enumL i (strVs rest)) [some (manV kd op w f), some (.str text), some (.bl looks), some (.str found), x4, x5, x6, x7] M
        { nx := fun ρ1 M1 => wS (callW G (d + 3)) (.ret (.v 3)) ρ1 M1 { nx := fun _ M1 => Q .non M1, rt := Q, ct := fun _ _ => False, ex := Z }, rt := Q, ct := fun _ _ => False, ex := Z } := by
    intro rest
    induction rest with
    | nil =>
      intro pre found i x4 x5 x6 x7 hi ht hf hfs hq
      conv => whnf
      exact hq
    | cons c r ih =>
      intro pre found i x4 x5 x6 x7 hi ht hf hfs hq
      have htl : text.length = i + (r.length + 1) := by rw [ht, hi]; simp
      have hLL : text.length ≤ LL := Nat.le_trans hl (by decide)
      have hc : Sm c := hs c (by rw [ht]; simp)
      have ecut : cutL text (some ((i : Int) + 1)) (some ((i : Int) + 2)) = r.take 1 := by rw [ht, hi]; exact cut_next
      have bhs : OneS (if looks then r.take 1 else []) := by
        cases looks with
        | false => exact .inl rfl
        | true =>
          cases r with
          | nil => exact .inl rfl
          | cons x r => exact .inr ⟨x, rfl, hs x (by rw [ht]; simp)⟩
      unfold tL at hq
      have main : wS (callW G (d + 3)) (.seq (.asg 7 (.v 5)) (.seq (.if_ (.cmp .in_ (.v 5) (.ls (.cons (.k (.str [39])) (.cons (.k (.str [34])) .nil)))) (.asg 7 (.call 57 (.cons (.v 0) (.cons (.v 3) (.cons (.v 5) (.cons (.v 6) .nil)))))) .skip) (.asg 3 (.bin .add (.v 3) (.v 7))))) [some (manV kd op w f), some (.str text), some (.bl looks), some (.str found), some (.int i), some (.str [c]), some (.str (if looks then r.take 1 else [])), x7] M
          { nx := fun ρ2 M2 => wForR [4, 5] false (fun ρ' M' D' => wS (callW G (d + 3)) q__law_turned_for0 ρ' M' D') (enumL (i + 1) (strVs r)) ρ2 M2 { nx := fun ρ1 M1 => wS (callW G (d + 3)) (.ret (.v 3)) ρ1 M1 { nx := fun _ M1 => Q .non M1, rt := Q, ct := fun _ _ => False, ex := Z }, rt := Q, ct := fun _ _ => False, ex := Z }, rt := Q,
            ct := fun ρ2 M2 => wForR [4, 5] false (fun ρ' M' D' => wS (callW G (d + 3)) q__law_turned_for0 ρ' M' D') (enumL (i + 1) (strVs r)) ρ2 M2 { nx := fun ρ1 M1 => wS (callW G (d + 3)) (.ret (.v 3)) ρ1 M1 { nx := fun _ M1 => Q .non M1, rt := Q, ct := fun _ _ => False, ex := Z }, rt := Q, ct := fun _ _ => False, ex := Z }, ex := Z } := by
        have grow : ∀ y, Sm y → ∀ x ∈ found ++ [y], Sm x := fun y hy x hx => (List.mem_append.mp hx).elim (hfs x) fun z => by
          rw [List.mem_singleton] at z
          rw [z]
          exact hy
        conv => whnf
        refine ⟨by decide, ?_⟩
        conv => whnf
        refine ⟨ok_two (sm_one hc) (by decide) (by decide), ?_⟩
        rw [any_qq]
        by_cases h : c = 34 ∨ c = 39
        · rw [decide_eq_true h]
          simp only [if_pos h] at hq
          conv => whnf
          refine sp_becomes hI ho bhs hfs (by omega) h ?_
          conv => whnf
          refine ⟨Nat.le_trans (show found.length + 1 ≤ 901 by omega) (by decide), ?_⟩
          exact ih (pre ++ [c]) _ (i + 1) _ _ _ _ (by simp [hi]) (by rw [ht]; simp) (by simp [hf]) (grow _ becL_sm) hq
        · rw [decide_eq_false h]
          simp only [if_neg h] at hq
          conv => whnf
          refine ⟨Nat.le_trans (show found.length + 1 ≤ 901 by omega) (by decide), ?_⟩
          exact ih (pre ++ [c]) _ (i + 1) _ _ _ _ (by simp [hi]) (by rw [ht]; simp) (by simp [hf]) (grow _ hc) hq
      cases looks with
      | false =>
        conv => whnf
        exact main
      | true =>
        conv => whnf
        refine ⟨hLL, ?_⟩
        rw [← ecut] at main
        exact main
  rw [wFor_R]
  exact loop text [] [] 0 none none none none rfl rfl rfl (fun _ z => by cases z) q
end Qm
namespace Qm
open Qt
variable {G : Nat → Option PF}
local macro_rules | `(tactic| tm_at "v") => `(tactic| ((conv => whnf); repeat (refine And.intro (by first | with_reducible rfl | with_reducible assumption | exact LLle (by omega) | exact LLle (by simp; omega) | omega | decide | exact Nat.le_of_ble_eq_true rfl) ?_; (conv => whnf))))
local macro_rules | `(tactic| tm_at "w") => `(tactic| ((conv => whnf); repeat (refine And.intro (by first | decide | assumption | omega | rfl | exact Nat.le_of_ble_eq_true rfl) ?_; (conv => whnf))))
theorem vm_opn {kd : List Nat} {op : List (List Nat)} (h : VM kd op) : OpN op := by
  rcases h with ⟨_, h⟩ | ⟨_, rfl⟩
  · have : ∀ op ∈ subsL cCl, cNone ∉ op ∧ cOther ∉ op := by decide +kernel
    exact this op h
  · exact ⟨by simp, by simp⟩
end Qm
namespace Qm
open Qt
variable {G : Nat → Option PF}
local macro_rules | `(tactic| tm_at "v") => `(tactic| ((conv => whnf); repeat (refine And.intro (by first | with_reducible rfl | with_reducible assumption | exact LLle (by omega) | exact LLle (by simp; omega) | omega | decide | exact Nat.le_of_ble_eq_true rfl) ?_; (conv => whnf))))
local macro_rules | `(tactic| tm_at "w") => `(tactic| ((conv => whnf); repeat (refine And.intro (by first | decide | assumption | omega | rfl | exact Nat.le_of_ble_eq_true rfl) ?_; (conv => whnf))))
theorem strsOf_one (p : Nat → Nat) : ∀ l : List Nat, strsOf (l.map fun c => PV.str [p c]) = some (l.map fun c => [p c])
  | [] => rfl
  | c :: r => by
    show (match strsOf (r.map fun c => PV.str [p c]) with
      | some bs => some ([p c] :: bs)
      | none => none) = _
    rw [strsOf_one p r]
    rfl
theorem joinS_one (p : Nat → Nat) : ∀ l : List Nat, joinS [] (l.map fun c => [p c]) = l.map p
  | [] => rfl
  | [c] => rfl
  | c :: b :: r => by
    show [p c] ++ [] ++ joinS [] ((b :: r).map fun c => [p c]) = _
    rw [joinS_one p (b :: r)]
    rfl
theorem sum_one (p : Nat → Nat) : ∀ l : List Nat, ((l.map fun c => [p c]).map (·.length)).sum = l.length
  | [] => rfl
  | c :: r => by
    show 1 + ((r.map fun c => [p c]).map (·.length)).sum = r.length + 1
    rw [sum_one p r]
    omega
end Qm
namespace Qm
open Qt
variable {G : Nat → Option PF}
local macro_rules | `(tactic| tm_at "v") => `(tactic| ((conv => whnf); repeat (refine And.intro (by first | with_reducible rfl | with_reducible assumption | exact LLle (by omega) | exact LLle (by simp; omega) | omega | decide | exact Nat.le_of_ble_eq_true rfl) ?_; (conv => whnf))))
local macro_rules | `(tactic| tm_at "w") => `(tactic| ((conv => whnf); repeat (refine And.intro (by first | decide | assumption | omega | rfl | exact Nat.le_of_ble_eq_true rfl) ?_; (conv => whnf))))
theorem sp_lstraight (hI : Is G) {d : Nat} {t : List Nat} {M : Mem} {Q : Kt} {Z : Xt} (hl : t.length ≤ 900) (hs : ∀ c ∈ t, Sm c) (q : Q (.str (t.map sortL)) M) : callW G (d + 2) 103 [.str t] M Q Z := by
  refine call_in (hI _ _ rfl) rfl ?_
  have hLL : t.length ≤ LL := Nat.le_trans hl (by decide)
  conv => whnf
  refine ⟨by show (strVs t).length ≤ LL; unfold strVs; rw [List.length_map]; exact hLL, ?_⟩
  refine wLc_map (f := fun c => PV.str [c]) (fun _ => true) (fun c => .str [sortL c]) t (fun c hc => ⟨_, rfl, fun K hK => hK, fun _ K hK => sp_sort hI (hs c hc) hK⟩) [] _ ?_
  rw [List.filter_eq_self.mpr fun _ _ => rfl, List.nil_append]
  conv => whnf
  rw [strsOf_one]
  conv => whnf
  refine ⟨by rw [sum_one]; simp; exact hLL, ?_⟩
  rw [joinS_one]
  exact q
end Qm
namespace Qm
open Qt
variable {G : Nat → Option PF}
local macro_rules | `(tactic| tm_at "v") => `(tactic| ((conv => whnf); repeat (refine And.intro (by first | with_reducible rfl | with_reducible assumption | exact LLle (by omega) | exact LLle (by simp; omega) | omega | decide | exact Nat.le_of_ble_eq_true rfl) ?_; (conv => whnf))))
local macro_rules | `(tactic| tm_at "w") => `(tactic| ((conv => whnf); repeat (refine And.intro (by first | decide | assumption | omega | rfl | exact Nat.le_of_ble_eq_true rfl) ?_; (conv => whnf))))
theorem sp_draw (hI : Is G) {d n : Nat} {size : Int} {M : Mem} {Q : Kt} {Z : Xt} (hs : Src M n) (h1 : 0 < size) (h2 : size < 1073741824)
    (q : ∀ r M', 0 ≤ r → r < size → Fr n M M' → Q (.int r) M') : callW G (d + 1) 61 [.ref n, .int size] M Q Z := by
  have hs0 := hs
  obtain ⟨a, b, hM⟩ := hs
  refine call_in (hI _ _ rfl) rfl ?_
  have len : n < M.length := (List.getElem?_eq_some_iff.mp hM).1
  have at_ : ∀ mo : MO, (M.set n mo)[n]? = some mo := fun mo => List.getElem?_set_self len
  have hA : asL M (.ref n) = some [.int a, .int b] := by unfold asL; simp only [hM]
  conv => whnf
  rw [hA]
  conv => whnf
  by_cases h0 : 0 < a
  · rw [decide_eq_true h0]
    conv => whnf
    rw [hA]
    conv => whnf
    refine ⟨h1, ?_⟩
    conv => whnf
    rw [hA]
    conv => whnf
    refine ⟨⟨h1, h2⟩, ?_⟩
    conv => whnf
    rw [hM]
    conv => whnf
    exact q _ _ (Int.emod_nonneg _ (by omega)) (Int.emod_lt_of_pos _ h1) (.put hs0 _ _)
  · rw [decide_eq_false h0]
    conv => whnf
    rw [hA]
    conv => whnf
    refine ⟨.inr (by omega), ?_⟩
    conv => whnf
    refine ⟨by omega, ?_⟩
    conv => whnf
    rw [hM]
    have hM2 := at_ (.lst [.int a, .int (b * 48271 % 2147483647)])
    have hA2 : asL (M.set n (.lst [.int a, .int (b * 48271 % 2147483647)])) (.ref n) = some [.int a, .int (b * 48271 % 2147483647)] := by unfold asL; simp only [hM2]
    conv => whnf
    erw [hA2]
    conv => whnf
    erw [hA2]
    conv => whnf
    have hb : 0 ≤ b * 48271 % 2147483647 ∧ b * 48271 % 2147483647 < 2147483647 := ⟨Int.emod_nonneg _ (by omega), Int.emod_lt_of_pos _ (by omega)⟩
    refine ⟨.inl ⟨by omega, by omega⟩, ?_⟩
    conv => whnf
    refine ⟨by omega, ?_⟩
    conv => whnf
    refine ⟨⟨by omega, by omega⟩, ?_⟩
    conv => whnf
    refine ⟨h1, ?_⟩
    exact q _ _ (Int.emod_nonneg _ (by omega)) (Int.emod_lt_of_pos _ h1) (.put hs0 _ _)
/-- one of the items -/
theorem sp_choice (hI : Is G) {d n : Nat} {xs : List PV} {M : Mem} {Q : Kt} {Z : Xt} (hs : Src M n) (h1 : 0 < xs.length) (h2 : xs.length ≤ 1000)
    (q : ∀ x M', x ∈ xs → Fr n M M' → Q x M') : callW G (d + 2) 59 [.ref n, .lst xs] M Q Z := by
  refine call_in (hI _ _ rfl) rfl ?_
  conv => whnf
  refine sp_draw hI hs (by show (0 : Int) < (xs.length : Int); omega) (by show (xs.length : Int) < 1073741824; omega) fun r M' r0 r1 fr => ?_
  have r1' : r < (xs.length : Int) := r1
  conv => whnf
  have hix : ixAt xs.length r = some r.toNat := by
    unfold ixAt
    rw [if_pos r0, if_pos r1']
  rw [hix]
  have hlt : r.toNat < xs.length := by omega
  conv => whnf
  rw [List.getElem?_eq_getElem hlt]
  conv => whnf
  exact q _ _ (List.getElem_mem hlt) fr
end Qm
namespace Qm
open Qt
variable {G : Nat → Option PF}
local macro_rules | `(tactic| tm_at "v") => `(tactic| ((conv => whnf); repeat (refine And.intro (by first | with_reducible rfl | with_reducible assumption | exact LLle (by omega) | exact LLle (by simp; omega) | omega | decide | exact Nat.le_of_ble_eq_true rfl) ?_; (conv => whnf))))
local macro_rules | `(tactic| tm_at "w") => `(tactic| ((conv => whnf); repeat (refine And.intro (by first | decide | assumption | omega | rfl | exact Nat.le_of_ble_eq_true rfl) ?_; (conv => whnf))))
theorem subs_skip {α : Type} {x : α} {r s : List α} (h : s ∈ subsL r) : s ∈ subsL (x :: r) := List.mem_append_left _ h
theorem subs_take {α : Type} {x : α} {r s : List α} (h : s ∈ subsL r) : x :: s ∈ subsL (x :: r) := List.mem_append_right _ (List.mem_map_of_mem h)
theorem sp_lmanner (hI : Is G) {d n : Nat} {M : Mem} {Q : Kt} {Z : Xt} (hs : Src M n)
    (q : ∀ kd op w f M', VM kd op → Fr n M M' → Q (manV kd op w f) M') : callW G (d + 3) 80 [.ref n] M Q Z := by
  refine call_in (hI _ _ rfl) rfl ?_
  tm_at "w"
  refine sp_choice hI hs (by decide) (by decide) fun x M1 hx fr1 => ?_
  have last : ∀ (kd : List Nat) (op : List (List Nat)) (x3 x4 : Option PV) (M1 : Mem), VM kd op → Fr n M M1 → wS (callW G (d + 2)) (.ret (.tp (.cons (.v 1) (.cons (.v 2) (.cons (.cmp .eq (.call 61 (.cons (.v 0) (.cons (.k (.int 2)) .nil))) (.k (.int 0))) (.cons (.cmp .eq (.call 61 (.cons (.v 0) (.cons (.k (.int 2)) .nil))) (.k (.int 0))) .nil)))))) [some (.ref n), some (.str kd), some (.tup (op.map PV.str)), x3, x4] M1 { nx := fun _ M1 => Q .non M1, rt := Q, ct := fun _ _ => False, ex := Z } := fun kd op x3 x4 M1 hv h1 => by
    tm_at "w"
    refine sp_draw hI h1.src (by decide) (by decide) fun r M2 _ _ h2 => ?_
    tm_at "w"
    refine sp_draw hI h2.src (by decide) (by decide) fun r2 M3 _ _ h3 => ?_
    tm_at "w"
    exact q kd op _ _ M3 hv ((h1.trans h2).trans h3)
  have bes : wS (callW G (d + 2)) (.seq (.asg 3 (.call 61 (.cons (.v 0) (.cons (.k (.int 3)) .nil)))) (.for_ [4] true (.itv (.ls (.cons (.k (.str [98, 108, 97, 110, 107])) (.cons (.k (.str [98, 114, 97, 99, 107, 101, 116])) (.cons (.k (.str [100, 97, 115, 104])) (.cons (.k (.str [113, 117, 111, 116, 101])) (.cons (.k (.str [115, 116, 97, 114, 116])) .nil))))))) q__law_manner_for0)) [some (.ref n), some (.str kBes), some (.tup []), none, none] M1 { nx := fun ρ1 M1 => wS (callW G (d + 2)) (.ret (.tp (.cons (.v 1) (.cons (.v 2) (.cons (.cmp .eq (.call 61 (.cons (.v 0) (.cons (.k (.int 2)) .nil))) (.k (.int 0))) (.cons (.cmp .eq (.call 61 (.cons (.v 0) (.cons (.k (.int 2)) .nil))) (.k (.int 0))) .nil)))))) ρ1 M1 { nx := fun _ M1 => Q .non M1, rt := Q, ct := fun _ _ => False, ex := Z }, rt := Q, ct := fun _ _ => False, ex := Z } := by
    tm_at "w"
    refine sp_draw hI fr1.src (by decide) (by decide) fun r M2 _ _ h2 => ?_
    tm_at "w"
    refine wFor_rem (f := PV.str) (fun rest ρ M3 => ∃ o x4, ρ = [some (.ref n), some (.str kBes), some (.tup (o.map PV.str)), some (.int r), x4] ∧ Fr n M M3 ∧ o.length + rest.length ≤ 5 ∧ ∀ s ∈ subsL rest, o ++ s ∈ subsL cCl) ?_ ?_ cCl _ M2 ⟨[], none, rfl, fr1.trans h2, by decide, fun s hs => hs⟩
    · rintro ρ M3 ⟨o, x4, rfl, fr, _, ho⟩
      refine last kBes o _ _ M3 (.inl ⟨rfl, ?_⟩) fr
      have := ho [] (by simp [subsL])
      rwa [List.append_nil] at this
    · rintro c rest ρ M3 ⟨o, x4, rfl, fr, hl, ho⟩
      refine ⟨_, rfl, fun N hN => ?_⟩
      have hl' : o.length + (rest.length + 1) ≤ 5 := hl
      have skip : ∀ M4, Fr n M M4 → N [some (.ref n), some (.str kBes), some (.tup (o.map PV.str)), some (.int r), some (.str c)] M4 := fun M4 h4 => hN _ _ ⟨o, _, rfl, h4, by omega, fun s hs => ho s (subs_skip hs)⟩
      have take : ∀ M4, Fr n M M4 → N [some (.ref n), some (.str kBes), some (.tup (o.map PV.str ++ [.str c])), some (.int r), some (.str c)] M4 := fun M4 h4 => hN _ _ ⟨o ++ [c], _, by rw [List.map_append]; rfl, h4, by simp; omega, fun s hs => by
        rw [List.append_assoc]
        exact ho (c :: s) (subs_take hs)⟩
      have len : (o.map PV.str).length + [PV.str c].length ≤ LL := by
        rw [List.length_map]
        exact Nat.le_trans (show o.length + 1 ≤ 5 by omega) (by decide)
      tm_at "w"
      refine sp_draw hI fr.src (by decide) (by decide) fun r2 M4 _ _ h4 => ?_
      have f4 := fr.trans h4
      conv => whnf
      cases decide (0 < r2) with
      | true =>
        tm_at "w"
        exact take M4 f4
      | false =>
        conv => whnf
        cases decide (r = 0) with
        | true =>
          tm_at "w"
          exact take M4 f4
        | false => exact skip M4 f4
  have none_ : ∀ kd : List Nat, (kd = kNes ∨ kd = kTur) → wS (callW G (d + 2)) (.ret (.tp (.cons (.v 1) (.cons (.v 2) (.cons (.cmp .eq (.call 61 (.cons (.v 0) (.cons (.k (.int 2)) .nil))) (.k (.int 0))) (.cons (.cmp .eq (.call 61 (.cons (.v 0) (.cons (.k (.int 2)) .nil))) (.k (.int 0))) .nil)))))) [some (.ref n), some (.str kd), some (.tup []), none, none] M1 { nx := fun _ M1 => Q .non M1, rt := Q, ct := fun _ _ => False, ex := Z } := fun kd hk => last kd [] none none M1 (.inr ⟨hk, rfl⟩) fr1
  simp only [List.mem_cons, List.not_mem_nil, or_false] at hx
  rcases hx with rfl | rfl | rfl | rfl
  · tm_at "w"; exact bes
  · tm_at "w"; exact bes
  · tm_at "w"; exact none_ _ (.inl rfl)
  · tm_at "w"; exact none_ _ (.inr rfl)
end Qm
namespace Qm
open Qt
variable {G : Nat → Option PF}
local macro_rules | `(tactic| tm_at "v") => `(tactic| ((conv => whnf); repeat (refine And.intro (by first | with_reducible rfl | with_reducible assumption | exact LLle (by omega) | exact LLle (by simp; omega) | omega | decide | exact Nat.le_of_ble_eq_true rfl) ?_; (conv => whnf))))
local macro_rules | `(tactic| tm_at "w") => `(tactic| ((conv => whnf); repeat (refine And.intro (by first | decide | assumption | omega | rfl | exact Nat.le_of_ble_eq_true rfl) ?_; (conv => whnf))))
/-- a sign that the texts have -/
def Sg (c : Nat) : Prop := c ∈ sSig
theorem Sg.sm {c : Nat} (h : Sg c) : Sm c := by
  have : ∀ c ∈ sSig, Sm c := by decide
  exact this c h
/-- a random text -/
theorem draw_text {n : Nat} {ρ : Rho} {t : List Nat} {cond elt : Rho → Mem → Kt → Prop} {s : List Nat} {M : Mem} {Q : Kt} (hs : Src M n) (k : Nat) (lo : Int) (h0 : 0 < s.length) (h1 : s.length ≤ 20)
    (hstep : ∀ (i : Int) M, Src M n → ∃ ρ', setT t true (.int i) ρ = some ρ' ∧ (∀ K : Kt, K (.bl true) M → cond ρ' M K) ∧ ∀ K : Kt, (∀ x M2, x ∈ strVs s → Fr n M M2 → K x M2) → elt ρ' M K)
    (q : ∀ x : List Nat, x.length = k → (∀ c ∈ x, c ∈ s) → ∀ M', Fr n M M' → Q (.lst (strVs x)) M') : wLc t true ρ cond elt (rngL lo k) [] M Q := by
  refine wLc_inv (fun v => v ∈ strVs s) (fun M2 => Fr n M M2) (rngL lo k) (fun x hx M1 fr => ?_) [] M (.refl hs) (fun _ z => by cases z) fun vs M2 hl hv fr => ?_
  · obtain ⟨i, rfl, _, _⟩ := rngL_mem k lo x hx
    obtain ⟨ρ', e, h1, h2⟩ := hstep i M1 fr.src
    exact ⟨ρ', e, h1, fun K hK => h2 K fun x M2 hx h2 => hK x M2 hx (fr.trans h2)⟩
  · have un : ∀ vs : List PV, (∀ v ∈ vs, v ∈ strVs s) → ∃ x : List Nat, vs = strVs x ∧ ∀ c ∈ x, c ∈ s := by
      intro vs
      induction vs with
      | nil => exact fun _ => ⟨[], rfl, fun _ z => by cases z⟩
      | cons v r ih =>
        intro h
        obtain ⟨x, e, hx⟩ := ih fun w hw => h w (List.mem_cons_of_mem _ hw)
        obtain ⟨c, hc, ec⟩ := List.mem_map.mp (h v (List.mem_cons_self ..))
        refine ⟨c :: x, by rw [e, ← ec]; rfl, fun y hy => ?_⟩
        rcases List.mem_cons.mp hy with rfl | z
        · exact hc
        · exact hx y z
    obtain ⟨x, rfl, hx⟩ := un vs hv
    refine q x ?_ hx M2 fr
    have : (strVs x).length = x.length := by unfold strVs; rw [List.length_map]
    rw [rngL_len] at hl
    rw [← this, hl]
    simp
theorem strsOf_id (l : List Nat) : strsOf (strVs l) = some (l.map fun c => [c]) := strsOf_one' (fun c => c) l
where
  strsOf_one' (p : Nat → Nat) : ∀ l : List Nat, strsOf (l.map fun c => PV.str [p c]) = some (l.map fun c => [p c])
    | [] => rfl
    | c :: r => by
      show (match strsOf (r.map fun c => PV.str [p c]) with
        | some bs => some ([p c] :: bs)
        | none => none) = _
      rw [strsOf_one' p r]
      rfl
theorem joinS_id : ∀ l : List Nat, joinS [] (l.map fun c => [c]) = l
  | [] => rfl
  | [c] => rfl
  | c :: b :: r => by
    show [c] ++ [] ++ joinS [] ((b :: r).map fun c => [c]) = _
    rw [joinS_id (b :: r)]
    rfl
theorem sum_id : ∀ l : List Nat, ((l.map fun c => [c]).map (·.length)).sum = l.length
  | [] => rfl
  | c :: r => by
    show 1 + ((r.map fun c => [c]).map (·.length)).sum = r.length + 1
    rw [sum_id r]
    omega
end Qm
namespace Qm
open Qt
variable {G : Nat → Option PF}
local macro_rules | `(tactic| tm_at "v") => `(tactic| ((conv => whnf); repeat (refine And.intro (by first | with_reducible rfl | with_reducible assumption | exact LLle (by omega) | exact LLle (by simp; omega) | omega | decide | exact Nat.le_of_ble_eq_true rfl) ?_; (conv => whnf))))
local macro_rules | `(tactic| tm_at "w") => `(tactic| ((conv => whnf); repeat (refine And.intro (by first | decide | assumption | omega | rfl | exact Nat.le_of_ble_eq_true rfl) ?_; (conv => whnf))))
def lsets : List (List Nat) := [[97, 49, 32, 34, 39], [97, 98, 39, 34, 40, 32], [34, 39], [97, 98, 49, 32, 40, 41, 46, 45, 34, 39, 60, 62, 123, 125], [97, 39, 49, 32], [97, 98, 32, 34, 39, 60, 123, 125, 62]]
theorem lsets_ok : ∀ s ∈ lsets, 0 < s.length ∧ s.length ≤ 20 ∧ ∀ c ∈ s, c ∈ sSig := by decide
theorem sp_ltext (hI : Is G) {d n m : Nat} {M : Mem} {Q : Kt} {Z : Xt} (hs : Src M n) (hm : m ≤ 100)
    (q : ∀ x : List Nat, x.length ≤ m → (∀ c ∈ x, c ∈ sSig) → ∀ M', Fr n M M' → Q (.str x) M') : callW G (d + 3) 107 [.ref n, .int m] M Q Z := by
  refine call_in (hI _ _ rfl) rfl ?_
  tm_at "w"
  refine sp_choice hI hs (by decide) (by decide) fun x M1 hx fr1 => ?_
  obtain ⟨s, hs', rfl⟩ := List.mem_map.mp (show x ∈ lsets.map PV.str from hx)
  obtain ⟨h0, h1, h2⟩ := lsets_ok s hs'
  tm_at "w"
  refine sp_draw hI fr1.src (by omega) (by omega) fun r M2 hr0 hr1 fr2 => ?_
  conv => whnf
  refine ⟨by omega, ?_⟩
  conv => whnf
  refine ⟨by rw [rngL_len]; exact Nat.le_trans (show r.toNat ≤ 100 by omega) (by decide), ?_⟩
  have hLL : s.length ≤ LL := Nat.le_trans h1 (by decide)
  have fr := fr1.trans fr2
  refine draw_text (s := s) fr.src r.toNat 0 h0 h1 (fun i M3 h3 => ⟨_, rfl, fun K hK => hK, fun K hK => ?_⟩) fun x hl hx M4 fr4 => ?_
  · tm_at "w"
    refine sp_choice hI h3 (by unfold strVs; rw [List.length_map]; exact h0) (by unfold strVs; rw [List.length_map]; omega) fun x M5 hx fr5 => ?_
    exact hK x M5 hx fr5
  · conv => whnf
    rw [strsOf_id]
    conv => whnf
    refine ⟨by rw [sum_id]; simp; exact Nat.le_trans (show x.length ≤ 100 by omega) (by decide), ?_⟩
    rw [joinS_id]
    exact q x (by omega) (fun c hc => h2 c (hx c hc)) M4 (fr.trans fr4)
end Qm
namespace Qm
open Qt
variable {G : Nat → Option PF}
local macro_rules | `(tactic| tm_at "v") => `(tactic| ((conv => whnf); repeat (refine And.intro (by first | with_reducible rfl | with_reducible assumption | exact LLle (by omega) | exact LLle (by simp; omega) | omega | decide | exact Nat.le_of_ble_eq_true rfl) ?_; (conv => whnf))))
local macro_rules | `(tactic| tm_at "w") => `(tactic| ((conv => whnf); repeat (refine And.intro (by first | decide | assumption | omega | rfl | exact Nat.le_of_ble_eq_true rfl) ?_; (conv => whnf))))
theorem sp_source (hI : Is G) {d : Nat} {ns : List Int} {k : Nat} {M : Mem} {Q : Kt} {Z : Xt} (hk : k ≤ 63)
    (q : ∀ M', Ex M M' → Src M' M.length → Q (.ref M.length) M') : callW G (d + 1) 99 [.scr ns, .int k] M Q Z := by
  refine call_in (hI _ _ rfl) rfl ?_
  have fin : ∀ a b : Int, Q (.ref M.length) (M ++ [.lst [.int a, .int b]]) := fun a b => q _ (.app _) ⟨a, b, by simp⟩
  have key : ∀ c : Int, wS (callW G d) (.seq (.if_ (.cmp .lt (.v 2) (.bin .pow (.k (.int 10)) (.k (.int 18)))) (.ret (.lm (.cons (.k (.int 0)) (.cons (.bin .add (.k (.int 1)) (.bin .mod (.bi .int (.cons (.bin .add (.bin .mul (.v 2) (.k (.int 7919))) (.bin .mul (.k (.int 104729)) (.v 1))) .nil)) (.k (.int 2147483646)))) .nil)))) .skip) (.ret (.lm (.cons (.v 2) (.cons (.bin .add (.k (.int 1)) (.bin .mod (.bi .int (.cons (.bin .add (.v 2) (.v 1)) .nil)) (.k (.int 2147483646)))) .nil))))) [some (.scr ns), some (.int k), some (.int c)] M { nx := fun _ M1 => Q .non M1, rt := Q, ct := fun _ _ => False, ex := Z } := fun c => by
    conv => whnf
    refine ⟨by decide, ?_⟩
    conv => whnf
    cases decide (c < 10 ^ Int.toNat 18) with
    | true =>
      conv => whnf
      refine ⟨.inr (by omega), ?_⟩
      conv => whnf
      refine ⟨.inl (by omega), ?_⟩
      conv => whnf
      refine ⟨by omega, ?_⟩
      conv => whnf
      refine ⟨Nat.le_of_ble_eq_true rfl, ?_⟩
      exact fin _ _
    | false =>
      conv => whnf
      refine ⟨by omega, ?_⟩
      conv => whnf
      refine ⟨Nat.le_of_ble_eq_true rfl, ?_⟩
      exact fin _ _
  conv => whnf
  by_cases h : (k : Int) < ns.length
  · rw [decide_eq_true h]
    conv => whnf
    have hix : ixAt ns.length (k : Int) = some k := by
      unfold ixAt
      rw [if_pos (by omega), if_pos h]
      rfl
    rw [hix]
    conv => whnf
    rw [List.getElem?_eq_getElem (by omega : k < ns.length)]
    exact key _
  · rw [decide_eq_false h]
    exact key 0
end Qm
namespace Qm
open Qt
variable {G : Nat → Option PF}
local macro_rules | `(tactic| tm_at "v") => `(tactic| ((conv => whnf); repeat (refine And.intro (by first | with_reducible rfl | with_reducible assumption | exact LLle (by omega) | exact LLle (by simp; omega) | omega | decide | exact Nat.le_of_ble_eq_true rfl) ?_; (conv => whnf))))
local macro_rules | `(tactic| tm_at "w") => `(tactic| ((conv => whnf); repeat (refine And.intro (by first | decide | assumption | omega | rfl | exact Nat.le_of_ble_eq_true rfl) ?_; (conv => whnf))))
theorem cut_mem {α : Type} (xs : List α) (a b : Option Int) : ∀ c ∈ cutL xs a b, c ∈ xs := fun c hc => List.mem_of_mem_drop (List.mem_of_mem_take hc)
theorem cut_len {α : Type} (xs : List α) (a b : Option Int) : (cutL xs a b).length ≤ xs.length := by
  unfold cutL
  rw [List.length_take, List.length_drop]
  omega
theorem cut_len_pre {α : Type} (xs : List α) {v : Int} (h : 0 ≤ v) : (cutL xs none (some v)).length ≤ v.toNat := by
  unfold cutL
  have e : cutE xs.length xs.length (some v) = min v.toNat xs.length := by
    show (if v < 0 then (v + xs.length).toNat else min v.toNat xs.length) = _
    rw [if_neg (by omega)]
  rw [e, List.length_take]
  omega
theorem cut_len_suf {α : Type} (xs : List α) {v : Int} (h : 0 ≤ v) : (cutL xs (some v) none).length ≤ xs.length - v.toNat := by
  unfold cutL
  have e : cutE xs.length 0 (some v) = min v.toNat xs.length := by
    show (if v < 0 then (v + xs.length).toNat else min v.toNat xs.length) = _
    rw [if_neg (by omega)]
  rw [e, List.length_take, List.length_drop]
  omega
theorem cut_all {α : Type} (xs : List α) {n : Int} (h : (xs.length : Int) ≤ n) : cutL xs none (some n) = xs := by
  unfold cutL
  have e1 : cutE xs.length 0 none = 0 := rfl
  have e2 : cutE xs.length xs.length (some n) = xs.length := by
    show (if n < 0 then (n + xs.length).toNat else min n.toNat xs.length) = _
    rw [if_neg (by omega)]
    omega
  rw [e1, e2, List.drop_zero, Nat.sub_zero, List.take_length]
end Qm
namespace Qm
open Qt
variable {G : Nat → Option PF}
local macro_rules | `(tactic| tm_at "v") => `(tactic| ((conv => whnf); repeat (refine And.intro (by first | with_reducible rfl | with_reducible assumption | exact LLle (by omega) | exact LLle (by simp; omega) | omega | decide | exact Nat.le_of_ble_eq_true rfl) ?_; (conv => whnf))))
local macro_rules | `(tactic| tm_at "w") => `(tactic| ((conv => whnf); repeat (refine And.intro (by first | decide | assumption | omega | rfl | exact Nat.le_of_ble_eq_true rfl) ?_; (conv => whnf))))
-- depth 12 steps 12000
/-- the law's text is the program's -/
theorem tL_twF {kd : List Nat} {op : List (List Nat)} {w f : Bool} (hk : kd = kBes ∨ kd = kNes ∨ kd = kTur) : ∀ (rest found st : List Nat), (kd ≠ kBes → st = lop kd w f (rest.take 1) [] [] found ∧ Srts st) → tL kd op w f false found rest = tw kd op w f false found st rest
  | [], _, _, _ => rfl
  | c :: r, found, st, h => by
    unfold tL tw
    have ec : (if c = 34 ∨ c = 39 then becL kd op w f found c (if false = true then r.take 1 else []) else c) = (if c = 34 ∨ c = 39 then outc kd op w f st (last1 found) c (if false = true then r.take 1 else []) else c) := by
      by_cases hc : c = 34 ∨ c = 39
      · rw [if_pos hc, if_pos hc, if_neg Bool.false_ne_true]
        unfold becL outc opn
        by_cases hb : kd = kBes
        · simp only [if_pos hb]
        · simp only [if_neg hb]
          rw [(h hb).1]
          rfl
      · rw [if_neg hc, if_neg hc]
    rw [ec]
    generalize hc' : (if c = 34 ∨ c = 39 then outc kd op w f st (last1 found) c (if false = true then r.take 1 else []) else c) = c'
    refine tL_twF hk r (found ++ [c']) _ fun hb => ?_
    obtain ⟨h1, h2⟩ := h hb
    have hk2 : kd = kNes ∨ kd = kTur := hk.resolve_left hb
    have same : isIn [c'] [97, 98] = isIn [c] [97, 98] ∧ isIn [c'] [49] = isIn [c] [49] := by
      by_cases hc : c = 34 ∨ c = 39
      · rw [if_pos hc] at hc'
        have q1 : Qd c' := by
          rw [← hc']
          exact outc_in
        obtain ⟨a1, a2⟩ := qd_in (.inl q1)
        obtain ⟨b1, b2⟩ := qd_in (c := c) (.inr hc)
        exact ⟨by rw [a1, b1], by rw [a2, b2]⟩
      · rw [if_neg hc] at hc'
        rw [hc']
        exact ⟨rfl, rfl⟩
    have e : lop kd w f (r.take 1) [] [] (found ++ [c']) = lo kd w f st (last1 found) c' (r.take 1) := by
      rw [lop_snoc, lop_fo same.1 same.2, h1]
      have : (if found = [] then [] else last1 found) = last1 found := by
        split
        · rename_i z; rw [z]; rfl
        · rfl
      rw [this]
      rfl
    rw [← lo_stB hk2 h2]
    exact ⟨e.symm, lo_srts h2⟩
theorem keyed_eq {kd : List Nat} {op : List (List Nat)} {w f : Bool} (hk : kd = kBes ∨ kd = kNes ∨ kd = kTur) (text : List Nat) : tL kd op w f false [] text = tw kd op w f false [] [] text :=
  tL_twF hk text [] [] fun _ => ⟨rfl, List.nodup_nil, fun _ z => by cases z⟩
theorem cut03 {t : List Nat} {k : Nat} (h : k ≤ t.length) : cutL t none (some (k : Int)) = t.take k ∧ cutL t (some (k : Int)) none = t.drop k := by
  have e1 : cutE t.length 0 none = 0 := rfl
  have e2 : cutE t.length t.length (some (k : Int)) = k := by rw [cutE_nn (by omega)]; omega
  have e3 : cutE t.length 0 (some (k : Int)) = k := by rw [cutE_nn (by omega)]; omega
  have e4 : cutE t.length t.length none = t.length := rfl
  unfold cutL
  rw [e1, e2, e3, e4, List.drop_zero, Nat.sub_zero]
  exact ⟨rfl, List.take_of_length_le (by rw [List.length_drop]; omega)⟩
theorem twk_len (m : Mn) (t : List Nat) : (m.twk t).length = t.length := by rw [Mn.twk_A, twA_lenK]
theorem twk_sort (m : Mn) (t : List Nat) : (m.twk t).map sortL = t.map sortL := by
  unfold Mn.twk twK
  rw [tw_sort]
  rfl
theorem twk_sg (m : Mn) {t : List Nat} (h : ∀ c ∈ t, c ∈ sSig) : ∀ c ∈ m.twk t, c ∈ sSig := tw_sg t [] [] h fun _ z => by cases z
theorem src_same {M M' : Mem} {n : Nat} (h : Src M n) (e : M'[n]? = M[n]?) : Src M' n := by
  obtain ⟨a, b, hh⟩ := h
  exact ⟨a, b, e.trans hh⟩
theorem law_k03 (hI : Is G) (ns : List Int) (hn : ns.length ≤ 63) : callW G 12 154 [.scr ns] [] (fun v _ => v = .bl true) X0 := by
  refine call_in (hI _ _ rfl) rfl ?_
  conv => whnf
  refine ⟨by split <;> omega, ?_⟩
  refine wFor_inv (fun x => ∃ i : Nat, x = .int i ∧ i ≤ 63) (fun ρ _ => ∃ x1 x3 x4 x5 x6 x7 x8 x9 x10, ρ = [some (.scr ns), x1, none, x3, x4, x5, x6, x7, x8, x9, x10]) ?_ ?_ _ ?_ _ _ ⟨_, _, _, _, _, _, _, _, _, rfl⟩
  · rintro ρ M2 ⟨x1, x3, x4, x5, x6, x7, x8, x9, x10, rfl⟩
    have v1 : VM kTur [] := .inr ⟨.inr rfl, rfl⟩
    have v2 : VM kNes [] := .inr ⟨.inl rfl, rfl⟩
    have v3 : VM kBes [cStart] := .inl ⟨rfl, by decide⟩
    have a1 : twK kTur [] true false [34, 97, 39, 98, 32, 40, 39, 97, 39, 41, 46, 34] = [60, 97, 123, 98, 32, 40, 125, 97, 123, 41, 46, 62] := by decide +kernel
    have a2 : twK kTur [] true false [97, 39, 98, 39, 97] = [97, 123, 98, 125, 97] := by decide +kernel
    have a3 : twK kNes [] true true [39, 49, 32, 97, 39, 98, 32, 39, 97, 39] = [123, 49, 32, 97, 125, 98, 32, 125, 97, 123] := by decide +kernel
    have a4 : twK kBes [cStart] false true [39, 49, 39, 49] = [123, 49, 125, 49] := by decide +kernel
    have a5 : twK kTur [] true false [123, 97, 125, 98, 39] = [123, 97, 125, 98, 125] := by decide +kernel
    tm_at "w"
    refine sp_keyed hI (kd := kTur) (op := []) v1 (by decide) (by decide) ?_
    rw [a1]
    tm_at "w"
    refine sp_keyed hI (kd := kTur) (op := []) v1 (by decide) (by decide) ?_
    rw [a2]
    tm_at "w"
    refine sp_keyed hI (kd := kNes) (op := []) v2 (by decide) (by decide) ?_
    rw [a3]
    tm_at "w"
    refine sp_keyed hI (kd := kBes) (op := [cStart]) v3 (by decide) (by decide) ?_
    rw [a4]
    tm_at "w"
    refine sp_keyed hI (kd := kTur) (op := []) v1 (by decide) (by decide) ?_
    rw [a5]
    rfl
  · rintro x ρ M2 ⟨i, rfl, hi⟩ ⟨x1, x3, x4, x5, x6, x7, x8, x9, x10, rfl⟩
    refine ⟨_, rfl, fun N hN => ?_⟩
    conv => whnf
    refine sp_source hI hi fun M1 _ hs => ?_
    conv => whnf
    refine ⟨by decide, ?_⟩
    generalize hn0 : M2.length = n at *
    refine wFor_inv (fun x => ∃ i, x = PV.int i) (fun ρ M2 => Src M2 n ∧ ∃ x4 x5 x6 x7 x8 x9 x10, ρ = [some (.scr ns), some (.int i), none, some (.ref n), x4, x5, x6, x7, x8, x9, x10]) ?_ ?_ _ rng_int _ _ ⟨hs, _, _, _, _, _, _, _, rfl⟩
    · rintro ρ M2 ⟨hs2, x4, x5, x6, x7, x8, x9, x10, rfl⟩
      exact hN _ _ ⟨_, _, _, _, _, _, _, _, _, rfl⟩
    · rintro x ρ M2 ⟨j, rfl⟩ ⟨hs2, x4, x5, x6, x7, x8, x9, x10, rfl⟩
      refine ⟨_, rfl, fun N2 hN2 => ?_⟩
      clear hN
      conv => whnf
      refine sp_lmanner hI hs2 fun kd op w f M3 hv f3 => ?_
      conv => whnf
      refine sp_ltext hI f3.src (m := 30) (by decide) fun t hl ht M4 f4 => ?_
      obtain ⟨m, hm⟩ : ∃ m : Mn, m = ⟨kd, op, w, f⟩ := ⟨_, rfl⟩
      have hK : ∀ u, twK kd op w f u = m.twk u := fun u => by rw [hm]; rfl
      have hm1 : m.v = manV kd op w f := by rw [hm]; rfl
      have hl60 : t.length ≤ 60 := by omega
      tm_at "w"
      refine sp_keyed hI hv hl60 ht ?_
      conv => whnf
      refine sp_lturned hI (vm_opn hv) (fun c hc => Sg.sm (ht c hc)) (by omega) ?_
      rw [keyed_eq (vm_kd hv), show tw kd op w f false [] [] t = twK kd op w f t from rfl, hK]
      conv => whnf
      rw [decide_eq_true (rfl : m.twk t = m.twk t)]
      have fl := twk_len m t
      have fg := twk_sg m ht
      have fs := twk_sort m t
      conv => whnf
      refine sp_lstraight hI (by omega) (fun c hc => Sg.sm (fg c hc)) ?_
      conv => whnf
      refine sp_lstraight hI (by omega) (fun c hc => Sg.sm (ht c hc)) ?_
      rw [fs]
      conv => whnf
      rw [decide_eq_true (rfl : t.map sortL = t.map sortL)]
      conv => whnf
      refine ⟨LLle (by omega), ?_⟩
      conv => whnf
      refine sp_draw hI f4.src (by omega) (by omega) fun r M5 r0 r1 f5 => ?_
      obtain ⟨k, rfl⟩ : ∃ k : Nat, r = k := ⟨r.toNat, by omega⟩
      have hk : k ≤ t.length := by omega
      obtain ⟨c1, c2⟩ := cut03 hk
      have htk : ∀ c ∈ t.take k, c ∈ sSig := fun c hc => ht c (List.mem_of_mem_take hc)
      have htl : (t.take k).length ≤ 60 := by rw [List.length_take]; omega
      have e1 : m.twk ((m.twk t).take k ++ t.drop k) = m.twk t := by rw [← twk_take, twk_parts, List.take_append_drop]
      have fkl : ((m.twk t).take k).length = k := by rw [List.length_take, fl]; omega
      conv => whnf
      refine ⟨LLle (by omega), ?_⟩
      rw [c1]
      conv => whnf
      refine sp_keyed hI hv htl htk ?_
      rw [hK, twk_take]
      conv => whnf
      refine ⟨LLle (by omega), ?_⟩
      rw [c2]
      conv => whnf
      refine ⟨by rw [fkl, List.length_drop]; exact LLle (by omega), ?_⟩
      conv => whnf
      refine sp_keyed hI hv (by rw [List.length_append, fkl, List.length_drop]; omega) (fun c hc => (List.mem_append.mp hc).elim (fun z => fg c (List.mem_of_mem_take z)) fun z => ht c (List.mem_of_mem_drop z)) ?_
      rw [hK, e1]
      conv => whnf
      rw [decide_eq_true (rfl : m.twk t = m.twk t)]
      conv => whnf
      refine ⟨LLle (by omega), ?_⟩
      rw [c1]
      conv => whnf
      refine sp_keyed hI hv htl htk ?_
      rw [hK, twk_take]
      conv => whnf
      refine ⟨LLle (by omega), ?_⟩
      rw [(cut03 (t := m.twk t) (k := k) (by omega)).1]
      conv => whnf
      rw [decide_eq_true (rfl : (m.twk t).take k = (m.twk t).take k)]
      conv => whnf
      have hs5 := f5.src
      refine sp_einit hI (m := ⟨kd, op, w, f⟩) (M := M5) hv fun M6 x6 ob tu => ?_
      rw [← hm] at ob
      have hs6 := hs5.ex x6
      have hnl : n < M5.length := hs5.lt
      generalize M5.length = e at *
      have tw0 : m.twk [] = [] := by rw [Mn.twk_A]; rfl
      have e0 : EdAt M6 e (e + 1) m (m.twk []) 1 := by
        rw [tw0]
        exact ⟨ob, _, tu, rfl, Nat.le_refl _⟩
      tm_at "w"
      refine wFor_rem (f := fun c => PV.str [c]) (fun rest ρ M' => ∃ (pre : List Nat) (x8' : Option PV), t = pre ++ rest ∧ EdAt M' e (e + 1) m (m.twk pre) (pre.length + 1) ∧ Src M' n ∧ ρ = [some (.scr ns), some (.int i), none, some (.ref n), some (.int j), some (.str (m.twk t)), some (.int k), some (.ref e), x8', some (manV kd op w f), some (.str t)]) ?_ ?_ t _ _ ⟨[], _, rfl, e0, hs6, rfl⟩
      · rintro ρ M' ⟨pre, x8', et, ed, hs7, rfl⟩
        rw [List.append_nil] at et
        subst et
        conv => whnf
        rw [ed.ob]
        conv => whnf
        refine sp_etext hI ed ?_
        conv => whnf
        rw [decide_eq_true (rfl : m.twk t = m.twk t)]
        conv => whnf
        rw [ed.ob]
        conv => whnf
        refine sp_eplace hI ed ?_
        conv => whnf
        refine ⟨LLle (by omega), ?_⟩
        rw [fl]
        conv => whnf
        rw [decide_eq_true (rfl : (t.length : Int) = (t.length : Int))]
        conv => whnf
        exact hN2 _ _ ⟨hs7, _, _, _, _, _, _, _, rfl⟩
      · rintro c rest ρ M' ⟨pre, x8', et, ed, hs7, rfl⟩
        refine ⟨_, rfl, fun N3 hN3 => ?_⟩
        have hpl : pre.length < 31 := by
          have := congrArg List.length et
          rw [List.length_append, List.length_cons] at this
          omega
        conv => whnf
        rw [ed.ob]
        conv => whnf
        refine ⟨Nat.le_of_ble_eq_true rfl, ?_⟩
        refine sp_key hI (by rw [twk_len]; omega) (by omega) (ht c (by rw [et]; simp)) ed (by omega) fun M'' ed2 hlen hkeep => ?_
        rw [← twk_snoc] at ed2
        have e3 : pre.length + 1 + 1 = (pre ++ [c]).length + 1 := by simp
        rw [e3] at ed2
        exact hN3 _ _ ⟨pre ++ [c], _, by rw [et]; simp, ed2, src_same hs7 (hkeep n (by omega)), rfl⟩
  · intro x hx
    obtain ⟨i, rfl, h1, h2⟩ := rngL_mem _ _ x hx
    refine ⟨i.toNat, by rw [Int.toNat_of_nonneg h1], ?_⟩
    revert h2
    split <;> omega
end Qm
namespace Qt
open PySem PySem.Spec PyProof.Rows L2
def top (i : Nat) : Stmt := PySem.Challenge.pw_quoteturns_k03_whole_texts_keyed_in.main.body.getD i (.Pass ⟨0, 0, 0, 0⟩)
def d__wall : DefE := ⟨112, q__wall, ["k"], ⟨("_wall", none), "_wall", "_wall", defArgs (top 0), defBody (top 0), defScope (top 0), [], []⟩⟩
def d_is_sign : DefE := ⟨147, q_is_sign, ["value"], ⟨("is_sign", none), "is_sign", "is_sign", defArgs (top 18), defBody (top 18), defScope (top 18), [], []⟩⟩
def d_is_text : DefE := ⟨149, q_is_text, ["value", "sign"], ⟨("is_text", none), "is_text", "is_text", defArgs (top 19), defBody (top 19), defScope (top 19), [], []⟩⟩
def d_is_manner : DefE := ⟨142, q_is_manner, ["value", "kind", "opens", "within", "figures", "name", "one", "other"], ⟨("is_manner", none), "is_manner", "is_manner", defArgs (top 20), defBody (top 20), defScope (top 20), [], []⟩⟩
def d_need_manner : DefE := ⟨163, q_need_manner, ["manner"], ⟨("need_manner", none), "need_manner", "need_manner", defArgs (top 21), defBody (top 21), defScope (top 21), [], []⟩⟩
def d_need_text : DefE := ⟨167, q_need_text, ["text"], ⟨("need_text", none), "need_text", "need_text", defArgs (top 22), defBody (top 22), defScope (top 22), [], []⟩⟩
def d_straight_of : DefE := ⟨183, q_straight_of, ["sign"], ⟨("straight_of", none), "straight_of", "straight_of", defArgs (top 23), defBody (top 23), defScope (top 23), [], []⟩⟩
def d_class_of : DefE := ⟨122, q_class_of, ["sign"], ⟨("class_of", none), "class_of", "class_of", defArgs (top 24), defBody (top 24), defScope (top 24), [], []⟩⟩
def d_is_in : DefE := ⟨141, q_is_in, ["sign", "signs"], ⟨("is_in", none), "is_in", "is_in", defArgs (top 25), defBody (top 25), defScope (top 25), [], []⟩⟩
def d_is_apostrophe : DefE := ⟨138, q_is_apostrophe, ["manner", "ahead", "behind"], ⟨("is_apostrophe", none), "is_apostrophe", "is_apostrophe", defArgs (top 26), defBody (top 26), defScope (top 26), [], []⟩⟩
def d_state_behind : DefE := ⟨182, q_state_behind, ["manner", "state", "ahead", "sign", "behind", "sort"], ⟨("state_behind", none), "state_behind", "state_behind", defArgs (top 27), defBody (top 27), defScope (top 27), [], []⟩⟩
def d_outcome : DefE := ⟨170, q_outcome, ["manner", "state", "ahead", "sign", "behind", "opens"], ⟨("outcome", none), "outcome", "outcome", defArgs (top 28), defBody (top 28), defScope (top 28), [], []⟩⟩
def d_turn_with : DefE := ⟨188, q_turn_with, ["manner", "text", "looks", "found", "state", "place", "sign", "behind"], ⟨("turn_with", none), "turn_with", "turn_with", defArgs (top 29), defBody (top 29), defScope (top 29), [], []⟩⟩
def d_turn_keyed : DefE := ⟨186, q_turn_keyed, ["manner", "text"], ⟨("turn_keyed", none), "turn_keyed", "turn_keyed", defArgs (top 30), defBody (top 30), defScope (top 30), [], []⟩⟩
def d_keyed : DefE := ⟨151, q_keyed, ["manner", "text"], ⟨("keyed", none), "keyed", "keyed", defArgs (top 31), defBody (top 31), defScope (top 31), [], []⟩⟩
def d_normal : DefE := ⟨169, q_normal, ["manner", "kind", "opens", "within", "figures"], ⟨("normal", none), "normal", "normal", defArgs (top 33), defBody (top 33), defScope (top 33), [], []⟩⟩
def d_are_alike : DefE := ⟨118, q_are_alike, ["one", "other"], ⟨("are_alike", none), "are_alike", "are_alike", defArgs (top 34), defBody (top 34), defScope (top 34), [], []⟩⟩
def d_Editor___init__ : DefE := ⟨5, q_Editor___init__, ["self", "manner"], ⟨("Editor", some "__init__"), "__init__", "Editor.__init__", defArgs (inClass (top 36) 0), defBody (inClass (top 36) 0), defScope (inClass (top 36) 0), [], []⟩⟩
def d_Editor___len__ : DefE := ⟨6, q_Editor___len__, ["self"], ⟨("Editor", some "__len__"), "__len__", "Editor.__len__", defArgs (inClass (top 36) 1), defBody (inClass (top 36) 1), defScope (inClass (top 36) 1), [], []⟩⟩
def d_Editor___eq__ : DefE := ⟨4, q_Editor___eq__, ["self", "other"], ⟨("Editor", some "__eq__"), "__eq__", "Editor.__eq__", defArgs (inClass (top 36) 2), defBody (inClass (top 36) 2), defScope (inClass (top 36) 2), [], []⟩⟩
def d_Editor_made : DefE := ⟨10, q_Editor_made, ["self", "head", "sign", "behind", "state", "place", "one", "follows"], ⟨("Editor", some "made"), "made", "Editor.made", defArgs (inClass (top 36) 3), defBody (inClass (top 36) 3), defScope (inClass (top 36) 3), [], []⟩⟩
def d_Editor_back : DefE := ⟨7, q_Editor_back, ["self"], ⟨("Editor", some "back"), "back", "Editor.back", defArgs (inClass (top 36) 5), defBody (inClass (top 36) 5), defScope (inClass (top 36) 5), [], []⟩⟩
def d_Editor_move : DefE := ⟨11, q_Editor_move, ["self", "place"], ⟨("Editor", some "move"), "move", "Editor.move", defArgs (inClass (top 36) 6), defBody (inClass (top 36) 6), defScope (inClass (top 36) 6), [], []⟩⟩
def d_Editor_undo : DefE := ⟨14, q_Editor_undo, ["self"], ⟨("Editor", some "undo"), "undo", "Editor.undo", defArgs (inClass (top 36) 7), defBody (inClass (top 36) 7), defScope (inClass (top 36) 7), [], []⟩⟩
def d_Editor_text : DefE := ⟨13, q_Editor_text, ["self"], ⟨("Editor", some "text"), "text", "Editor.text", defArgs (inClass (top 36) 8), defBody (inClass (top 36) 8), defScope (inClass (top 36) 8), [], []⟩⟩
def d_Editor_place : DefE := ⟨12, q_Editor_place, ["self"], ⟨("Editor", some "place"), "place", "Editor.place", defArgs (inClass (top 36) 9), defBody (inClass (top 36) 9), defScope (inClass (top 36) 9), [], []⟩⟩
def d_Editor_wrong : DefE := ⟨15, q_Editor_wrong, ["self"], ⟨("Editor", some "wrong"), "wrong", "Editor.wrong", defArgs (inClass (top 36) 10), defBody (inClass (top 36) 10), defScope (inClass (top 36) 10), [], []⟩⟩
def d_Editor_lines : DefE := ⟨9, q_Editor_lines, ["self"], ⟨("Editor", some "lines"), "lines", "Editor.lines", defArgs (inClass (top 36) 11), defBody (inClass (top 36) 11), defScope (inClass (top 36) 11), [], []⟩⟩
def d__law_source : DefE := ⟨99, q__law_source, ["script", "index", "cell"], ⟨("_law_source", none), "_law_source", "_law_source", defArgs (top 38), defBody (top 38), defScope (top 38), [], []⟩⟩
def d__law_draw : DefE := ⟨61, q__law_draw, ["source", "size", "drawn"], ⟨("_law_draw", none), "_law_draw", "_law_draw", defArgs (top 39), defBody (top 39), defScope (top 39), [], []⟩⟩
def d__law_choice : DefE := ⟨59, q__law_choice, ["source", "items"], ⟨("_law_choice", none), "_law_choice", "_law_choice", defArgs (top 40), defBody (top 40), defScope (top 40), [], []⟩⟩
def d__law_manner : DefE := ⟨80, q__law_manner, ["source", "kind", "opens", "rare", "name"], ⟨("_law_manner", none), "_law_manner", "_law_manner", defArgs (top 41), defBody (top 41), defScope (top 41), [], []⟩⟩
def d__law_sort : DefE := ⟨98, q__law_sort, ["sign"], ⟨("_law_sort", none), "_law_sort", "_law_sort", defArgs (top 42), defBody (top 42), defScope (top 42), [], []⟩⟩
def d__law_straight : DefE := ⟨103, q__law_straight, ["text", "sign"], ⟨("_law_straight", none), "_law_straight", "_law_straight", defArgs (top 43), defBody (top 43), defScope (top 43), [], []⟩⟩
def d__law_mark : DefE := ⟨82, q__law_mark, ["manner", "ahead", "behind"], ⟨("_law_mark", none), "_law_mark", "_law_mark", defArgs (top 44), defBody (top 44), defScope (top 44), [], []⟩⟩
def d__law_open : DefE := ⟨86, q__law_open, ["manner", "head", "behind", "found", "place", "sign", "ahead", "follows", "sort", "cut", "rest_so"], ⟨("_law_open", none), "_law_open", "_law_open", defArgs (top 45), defBody (top 45), defScope (top 45), [], []⟩⟩
def d__law_becomes : DefE := ⟨57, q__law_becomes, ["manner", "head", "sign", "behind", "ahead", "names", "opens"], ⟨("_law_becomes", none), "_law_becomes", "_law_becomes", defArgs (top 46), defBody (top 46), defScope (top 46), [], []⟩⟩
def d__law_turned : DefE := ⟨109, q__law_turned, ["manner", "text", "looks", "found", "place", "sign", "behind", "new"], ⟨("_law_turned", none), "_law_turned", "_law_turned", defArgs (top 47), defBody (top 47), defScope (top 47), [], []⟩⟩
def d__law_text : DefE := ⟨107, q__law_text, ["source", "most", "signs", "sign_so"], ⟨("_law_text", none), "_law_text", "_law_text", defArgs (top 48), defBody (top 48), defScope (top 48), [], []⟩⟩
def d_law : DefE := ⟨154, q_law, ["script", "k", "turns", "source", "turn", "found", "cut", "editor", "sign", "manner", "text"], ⟨("law", none), "law", "law", defArgs (top 49), defBody (top 49), defScope (top 49), [], []⟩⟩
def d_Editor_key : DefE := ⟨8, q_Editor_key, ["self", "signs", "sign", "text", "place", "head", "tail"], ⟨("Editor", some "key"), "key", "Editor.key", defArgs (inClass (top 36) 4), defBody (inClass (top 36) 4), defScope (inClass (top 36) 4), [], []⟩⟩
def fls : List Str := (["__init__", "append", "back", "begun", "behind", "count", "fault", "get", "index", "is_end", "items", "join", "key", "led_on", "limit", "line", "lines", "looks", "made", "manner", "manners", "move", "other", "pair", "pairs", "parted", "parts", "place", "pop", "replace"] : List PySem.Str) ++ (["second", "signs", "some", "source", "split", "style", "text", "turns", "undo", "ways", "writer", "wrong"] : List PySem.Str)
def pd : PD := ⟨[d__wall, d_is_sign, d_is_text, d_is_manner, d_need_manner, d_need_text, d_straight_of, d_class_of, d_is_in, d_is_apostrophe, d_state_behind, d_outcome, d_turn_with, d_turn_keyed, d_keyed, d_normal, d_are_alike, d_Editor___init__, d_Editor___len__, d_Editor___eq__, d_Editor_made, d_Editor_back, d_Editor_move, d_Editor_undo, d_Editor_text, d_Editor_place, d_Editor_wrong, d_Editor_lines, d__law_source, d__law_draw, d__law_choice, d__law_manner, d__law_sort, d__law_straight, d__law_mark, d__law_open, d__law_becomes, d__law_turned, d__law_text, d_law], [⟨1, "Editor"⟩], [19, 37], fls, [(1, "CLASSES", g_CLASSES), (2, "CLOSING", g_CLOSING), (3, "DIGITS", g_DIGITS), (5, "KINDS", g_KINDS), (6, "LETTERS", g_LETTERS), (11, "MOST_TEXT", g_MOST_TEXT), (12, "OPENING", g_OPENING), (14, "PLAIN", g_PLAIN), (18, "SIGNS", g_SIGNS), (19, "STRAIGHT", g_STRAIGHT)], some 183, [], [], [d_Editor_key]⟩
theorem pd_ok : pd.ok = true := by decide +kernel
theorem find_tbl : ∀ (l : List DefE) (f : Nat), (l.find? fun D => D.id == f).map (·.f) = lookF f (l.map fun D => (D.id, D.f))
  | [], _ => rfl
  | D :: l, f => by
    rw [List.map_cons, List.find?_cons]
    unfold lookF
    cases e : D.id == f with
    | true => rw [if_pos rfl]; rfl
    | false => rw [if_neg (by simp)]; exact find_tbl l f
theorem is_G : Is pd.G := fun f F h => by
  rw [← h]
  exact find_tbl (pd.Ds ++ pd.Vs) f
theorem law_math : ∀ ns : List Int, ns.length ≤ 63 → callW pd.G 12 154 [.scr ns] [] (fun v _ => v = .bl true) X0 := fun ns h => Qm.law_k03 is_G ns h
end Qt
namespace Qt
open PySem PySem.Spec PyProof.Rows L2
abbrev hk : PySem.W.Hook := He.hookX 4 pd.fa pd.fn [] [] pd.ex
def ob (s : PySem.W.SharedT) : He.AlX := He.obsX 4 pd.fa pd.fn [] [] pd.ex (HandSHeadRun.getT s)
theorem ob_eq (s : PySem.W.SharedT) : ob s = hk.obs s.abs := He.obsX_eq (HandSHeadRun.getT_eq s)
def loose : List PySem.Str := (["_wall", "QuoteError", "InvalidManner", "InvalidText", "InvalidSign", "TooMany", "LETTERS", "DIGITS", "STRAIGHT", "OPENING", "CLOSING", "PLAIN", "SIGNS", "KINDS", "CLASSES", "MOST_TEXT", "is_sign", "is_text", "is_manner", "need_manner", "need_text", "straight_of", "class_of", "is_in", "is_apostrophe", "state_behind", "outcome", "turn_with", "turn_keyed", "keyed"] : List PySem.Str) ++ (["normal", "are_alike", "Editor", "_law_source", "_law_draw", "_law_choice", "_law_manner", "_law_sort", "_law_straight", "_law_mark", "_law_open", "_law_becomes", "_law_turned", "_law_text"] : List PySem.Str)
theorem run (w : World) : HandSHeadRun.RunEq (PySem.W.OpenLaw.row PySem.Challenge.rw_quoteturns_k03_whole_texts_keyed_in) (PySem.W.view (PySem.W.OpenLaw.row PySem.Challenge.rw_quoteturns_k03_whole_texts_keyed_in).prog [49]) hk ob 12000 loose w := by
  intro os
  kernel_rfl
end Qt
open PySem PySem.W PySem.Calls PyProof.Rows
theorem PySem.Challenge.cw_quoteturns_k03_whole_texts_keyed_in_holds : PySem.Challenge.rw_quoteturns_k03_whole_texts_keyed_in.Holds := by
  w_on; o_law
  refine HandSHeadRun.head_any (r := OpenLaw.row PySem.Challenge.rw_quoteturns_k03_whole_texts_keyed_in) (q := view (OpenLaw.row PySem.Challenge.rw_quoteturns_k03_whole_texts_keyed_in).prog [49]) (H := Qt.hk) (ob := Qt.ob) (M := 12000) (loose := Qt.loose) (d := HandSHeadRun.topDef (OpenLaw.row PySem.Challenge.rw_quoteturns_k03_whole_texts_keyed_in).prog 49) (kwd := []) Qt.ob_eq
    (by kernel_rfl) (fun s => by kernel_rfl) Qt.run (by kernel_rfl) (by kernel_rfl) (by kernel_rfl) (by rfl) (by first | assumption | decide +kernel) (by decide +kernel) ⟨rfl, rfl, rfl, rfl, rfl, by decide +kernel⟩ ?hw ?hc
  case hw => w_witness2
  case hc =>
    refine L2.walk_ofE (l := PySem.Challenge.rw_quoteturns_k03_whole_texts_keyed_in) (n := 63) (k := 2 * 12) (x := "script") (CX := L2.CX0) rfl (by decide) (by kernel_rfl) ⟨rfl, by decide, by decide⟩ ?F (fun _ _ _ _ z => z)
    intro w mg fa h Y G hmg0
    have hmg : mg ("law" : PySem.Str) = some (.ref fa) := by
      have e : (HandSHeadRun.topDef (OpenLaw.row PySem.Challenge.rw_quoteturns_k03_whole_texts_keyed_in).prog 49).name = ("law" : PySem.Str) := by kernel_rfl
      rw [← e]
      exact hmg0
    exact Qt.law_F (d := 12) (D := Qt.d_law) PySem.Challenge.rw_quoteturns_k03_whole_texts_keyed_in.prog Qt.pd_ok (by simp [Qt.pd]) rfl rfl Qt.law_math w mg fa h Y G hmg
