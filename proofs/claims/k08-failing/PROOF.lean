import PyProof.Rows.All
import KE.LtData
import PyProof.ReprReads
import PyProof.P3Statements
import HandS.List
import KE.KeyNested
import KE.KDictKeyed
import HandS.ForMost
import HandS.ForExc
import HandS.TupAny
import HandS.TupMul
import HandS.Deep
import KE.DataEq
import HandS.Flow
import HandS.Style
import HandS.Conv
import HandS.IsInst
import HandS.Text
import HandS.Replace
import KE.KRevSl
import PyProof.ListStr
import HandS.Iter
import HandS.Zip
import HandS.Comp
import HandS.Ends
import HandS.HeadEnd
import HandS.Defaults
import HandS.Codes
import KE.KDictDisplayH
import HandS.Star
import KE.SortData
import PyProof.TupleOfSeq
import HandS.SetFor
import HandS.TupSets
import HandS.Strs
import HandS.DictComp
import HandS.Exc
import HandS.HeadHook4
import HandS.Head3
import PyProof.StrLawsRepr
import PySem.Challenge.RW_seamlots_k08_failing_words
set_option linter.all false
set_option autoImplicit false
/-! SLSem: values as trees, a functional heap, a small tongue of its own, and what it means (by wishes). -/
namespace SL
open PySem

/-! ### values and heaps -/
abbrev Tx := List Nat
inductive D where
  | non | bl (b : Bool) | int (i : Int) | str (x : Tx) | tup (xs : List D) | ref (l : Nat)
  deriving Inhabited
inductive O where
  | lst (xs : List D)
  | fz (xs : List D)
  | dic (kvs : List (D × D))
  /-- a dict that is walked, with its own object: read, never written again -/
  | lck (o : PySem.Obj) (kvs : List (D × D))
  | ins (c : String) (fs : List (String × D))
  | exc (c : String) (fs : List (String × D))
  deriving Inhabited
abbrev Hp := List O
abbrev Sto := List (Option D)
/-- a value, or a list that was just made and stands nowhere yet -/
inductive TV where
  | d (x : D)
  | l (xs : List D)
def sz : Nat := 16777216
def tS (x : Tx) : Str := ⟨x.toArray⟩

/-! ### reading as data -/
def rdAll (f : D → Option PyData) : List D → Option (List PyData)
  | [] => some []
  | x :: xs => match f x, rdAll f xs with
    | some p, some ps => some (p :: ps)
    | _, _ => none
def rd (h : Hp) : Nat → D → Option PyData
  | 0, .non => some .none
  | 0, .bl b => some (.bool b)
  | 0, .int i => some (.int i)
  | 0, .str x => some (.str (tS x))
  | 0, _ => none
  | _ + 1, .non => some .none
  | _ + 1, .bl b => some (.bool b)
  | _ + 1, .int i => some (.int i)
  | _ + 1, .str x => some (.str (tS x))
  | n + 1, .tup xs => (rdAll (rd h n) xs).map .tuple
  | n + 1, .ref l => match h[l]? with
    | some (.lst xs) => (rdAll (rd h n) xs).map .list
    | some (.fz xs) => (rdAll (rd h n) xs).map .list
    | _ => none
def rdL (h : Hp) (xs : List D) : Option (List PyData) := rdAll (rd h 60) xs
def rdT (h : Hp) : TV → Option PyData
  | .d x => rd h 60 x
  | .l xs => (rdL h xs).map .list

/-- the items of a list or a tuple -/
def items (h : Hp) : TV → Option (List D)
  | .l xs => some xs
  | .d (.tup xs) => some xs
  | .d (.ref l) => match h[l]? with
    | some (.lst xs) => some xs
    | some (.fz xs) => some xs
    | _ => none
  | .d _ => none

/-! ### keys of dicts -/
mutual
def keq : D → D → Bool
  | .non, .non => true
  | .bl a, .bl b => a == b
  | .bl a, .int j => (if a then 1 else 0) == j
  | .int i, .bl b => i == (if b then 1 else 0)
  | .int i, .int j => i == j
  | .str x, .str y => x == y
  | .tup xs, .tup ys => keqs xs ys
  | _, _ => false
def keqs : List D → List D → Bool
  | [], [] => true
  | x :: xs, y :: ys => keq x y && keqs xs ys
  | _, _ => false
end
/-- what may be a key: nested at most eight deep, without lists -/
def isKey : Nat → D → Bool
  | _, .non => true
  | _, .bl _ => true
  | _, .int _ => true
  | _, .str _ => true
  | n + 1, .tup xs => xs.all (isKey n)
  | _, _ => false
def atomK : D → Bool
  | .int _ => true
  | .str _ => true
  | _ => false
def tupK : D → Bool
  | .tup xs => isKey 8 (.tup xs)
  | _ => false
/-- a key of the kind of the others: whole numbers and texts, or tuples -/
def fitK (kvs : List (D × D)) (k : D) : Bool := (atomK k && kvs.all fun p => atomK p.1) || (tupK k && kvs.all fun p => tupK p.1)
/-- the keys are of one kind -/
def keysOk (kvs : List (D × D)) : Bool := (kvs.all fun p => atomK p.1) || kvs.all fun p => tupK p.1
def kget (kvs : List (D × D)) (k : D) : Option D := (kvs.find? fun p => keq p.1 k).map (·.2)
def kput : List (D × D) → D → D → List (D × D)
  | [], k, v => [(k, v)]
  | (a, b) :: r, k, v => if keq a k then (a, v) :: r else (a, b) :: kput r k v
def kdel (kvs : List (D × D)) (k : D) : List (D × D) := kvs.filter fun p => !keq p.1 k
def kputs (kvs : List (D × D)) : List (D × D) → List (D × D)
  | [] => kvs
  | (k, v) :: r => kputs (kput kvs k v) r

/-! ### truth, kinds, lengths -/
def tru (h : Hp) : TV → Option Bool
  | .d .non => some false
  | .d (.bl b) => some b
  | .d (.int i) => some (i != 0)
  | .d (.str x) => if x.length ≤ sz then some (!x.isEmpty) else none
  | .d (.tup xs) => some (!xs.isEmpty)
  | .d (.ref l) => match h[l]? with
    | some (.lst xs) => some (!xs.isEmpty)
    | some (.fz xs) => some (!xs.isEmpty)
    | some (.dic kvs) => if (kvs.all fun p => atomK p.1) = true then some (!kvs.isEmpty) else none
    | _ => none
  | .l xs => some (!xs.isEmpty)
inductive Ty where
  | int | bool | str | tuple | list | own (c : String)
  deriving DecidableEq
/-- of which own classes an exception of an own class is -/
def isExc (c t : String) : Bool := c == t || t == "SeamError" || t == "ValueError"
def isi (h : Hp) (t : Ty) : TV → Option Bool
  | .d .non => some false
  | .d (.bl _) => some (decide (t = .bool ∨ t = .int))
  | .d (.int _) => some (decide (t = .int))
  | .d (.str _) => some (decide (t = .str))
  | .d (.tup _) => some (decide (t = .tuple))
  | .l _ => some (decide (t = .list))
  | .d (.ref l) => match h[l]? with
    | some (.lst _) => some (decide (t = .list))
    | some (.fz _) => some (decide (t = .list))
    | some (.dic kvs) => if (kvs.all fun p => atomK p.1) = true then some false else none
    | some (.exc c _) => (match t with
      | .own d => some (isExc c d)
      | _ => some false)
    | _ => none
def len (h : Hp) : TV → Option Nat
  | .d (.str x) => if x.length ≤ sz then some x.length else none
  | .d (.tup xs) => some xs.length
  | .d (.ref l) => match h[l]? with
    | some (.lst xs) => some xs.length
    | some (.fz xs) => some xs.length
    | some (.dic kvs) => if (kvs.all fun p => atomK p.1) = true then some kvs.length else none
    | _ => none
  | .l xs => some xs.length
  | .d _ => none

/-! ### operators -/
inductive Op2 where
  | add | sub | mul | fdiv | mod | pow
  deriving DecidableEq
inductive Cmp where
  | eq | ne | lt | le | gt | ge | inn | nin | isn | nis
  deriving DecidableEq
def rep {α : Type} (n : Int) (xs : List α) : List α := (List.replicate n.toNat xs).flatten
/-- a list that may be written -/
def lstOf (h : Hp) : TV → Option (List D)
  | .l xs => some xs
  | .d (.ref l) => match h[l]? with
    | some (.lst xs) => some xs
    | _ => none
  | .d _ => none
def addD (h : Hp) (x y : TV) (Q : TV → Prop) : Prop := match x, y with
  | .d (.int i), .d (.int j) => Q (.d (.int (i + j)))
  | .d (.str x), .d (.str y) => x.length + y.length ≤ sz ∧ Q (.d (.str (x ++ y)))
  | .d (.tup x), .d (.tup y) => x.length + y.length ≤ sz ∧ Q (.d (.tup (x ++ y)))
  | x, y => match lstOf h x, lstOf h y with
    | some xs, some ys => xs.length + ys.length ≤ sz ∧ Q (.l (xs ++ ys))
    | _, _ => False
def mulD (h : Hp) (x y : TV) (Q : TV → Prop) : Prop := match x, y with
  | .d (.int i), .d (.int j) => ((-(2 ^ 64) < i ∧ i < 2 ^ 64) ∨ (-(2 ^ 64) < j ∧ j < 2 ^ 64)) ∧ Q (.d (.int (i * j)))
  | .d (.str x), .d (.int j) => -(2 ^ 63) ≤ j ∧ j < 2 ^ 63 ∧ x.length * j.toNat ≤ sz ∧ Q (.d (.str (rep j x)))
  | .d (.tup x), .d (.int j) => -(2 ^ 63) ≤ j ∧ j < 2 ^ 63 ∧ x.length * j.toNat ≤ sz ∧ Q (.d (.tup (rep j x)))
  | x, .d (.int j) => match lstOf h x with
    | some xs => -(2 ^ 63) ≤ j ∧ j < 2 ^ 63 ∧ xs.length * j.toNat ≤ sz ∧ Q (.l (rep j xs))
    | none => False
  | _, _ => False
def intD (C : Int → Int → Prop) (f : Int → Int → Int) (x y : TV) (Q : TV → Prop) : Prop := match x, y with
  | .d (.int i), .d (.int j) => C i j ∧ Q (.d (.int (f i j)))
  | _, _ => False
def op2 (h : Hp) : Op2 → TV → TV → (TV → Prop) → Prop
  | .add => addD h
  | .mul => mulD h
  | .sub => intD (fun _ _ => True) fun i j => i - j
  | .fdiv => intD (fun _ j => 0 < j ∧ j < 1073741824) fun i j => i / j
  | .mod => intD (fun _ j => 0 < j) fun i j => i % j
  | .pow => intD (fun i j => 0 ≤ j ∧ j ≤ 1000000 ∧ i.natAbs < 2 ^ 64) fun i j => i ^ j.toNat
/-- x in y -/
def inn (h : Hp) (x y : TV) (Q : Bool → Prop) : Prop :=
  match y with
  | .d (.str z) => (match x with
    | .d (.str [c]) => Q (decide (c ∈ z))
    | _ => False)
  | .d (.ref l) => (match h[l]?, x with
    | some (.dic kvs), .d k => fitK kvs k = true ∧ Q (kget kvs k).isSome
    | some (.lck _ kvs), .d k => fitK kvs k = true ∧ Q (kget kvs k).isSome
    | some (.lst ys), _ => (match rdT h x, rdL h ys with
      | some p, some ps => Q (ps.any fun q => PyData.eqv q p)
      | _, _ => False)
    | some (.fz ys), _ => (match rdT h x, rdL h ys with
      | some p, some ps => Q (ps.any fun q => PyData.eqv q p)
      | _, _ => False)
    | _, _ => False)
  | .d (.tup ys) => (match rdT h x, rdL h ys with
    | some p, some ps => Q (ps.any fun q => PyData.eqv q p)
    | _, _ => False)
  | .l ys => (match rdT h x, rdL h ys with
    | some p, some ps => Q (ps.any fun q => PyData.eqv q p)
    | _, _ => False)
  | .d _ => False
/-- x is y, y one of None, True, False -/
def isD : TV → TV → Option Bool
  | .d .non, .d .non => some true
  | _, .d .non => some false
  | .d (.bl a), .d (.bl b) => some (a == b)
  | _, .d (.bl _) => some false
  | _, _ => none
def eqD (h : Hp) (x y : TV) (Q : Bool → Prop) : Prop :=
  match rdT h x, rdT h y with
  | some p, some q => Q (PyData.eqv p q)
  | _, _ => False
def ordD (f : Int → Int → Bool) (x y : TV) (Q : Bool → Prop) : Prop := match x, y with
  | .d (.int i), .d (.int j) => Q (f i j)
  | _, _ => False
def isO (x y : TV) (Q : Bool → Prop) : Prop := match isD x y with
  | some b => Q b
  | none => False
def cmp (h : Hp) : Cmp → TV → TV → (Bool → Prop) → Prop
  | .eq => eqD h
  | .ne => fun x y Q => eqD h x y fun b => Q (!b)
  | .lt => ordD fun i j => decide (i < j)
  | .le => ordD fun i j => decide (i ≤ j)
  | .gt => ordD fun i j => decide (j < i)
  | .ge => ordD fun i j => decide (j ≤ i)
  | .inn => inn h
  | .nin => fun x y Q => inn h x y fun b => Q (!b)
  | .isn => isO
  | .nis => fun x y Q => isO x y fun b => Q (!b)

/-! ### subscripts -/
abbrev ix := HT.sIx
def cut {α : Type} (xs : List α) (lo hi : Option Int) : List α := (xs.drop (ix xs.length 0 lo)).take (ix xs.length xs.length hi - ix xs.length 0 lo)
def idx (h : Hp) (x i : TV) (Q : TV → Prop) : Prop :=
  match x with
  | .d (.str z) => (match i with
    | .d (.int i) => (match L2.atI z i with
      | some c => z.length ≤ sz ∧ Q (.d (.str [c]))
      | none => False)
    | _ => False)
  | .d (.ref l) => (match h[l]?, i with
    | some (.lst xs), .d (.int i) => (match L2.atI xs i with
      | some v => Q (.d v)
      | none => False)
    | some (.fz xs), .d (.int i) => (match L2.atI xs i with
      | some v => Q (.d v)
      | none => False)
    | some (.dic kvs), .d k => fitK kvs k = true ∧ (match kget kvs k with
      | some v => Q (.d v)
      | none => False)
    | some (.lck _ kvs), .d k => fitK kvs k = true ∧ (match kget kvs k with
      | some v => Q (.d v)
      | none => False)
    | _, _ => False)
  | .d (.tup xs) => (match i with
    | .d (.int i) => (match L2.atI xs i with
      | some v => Q (.d v)
      | none => False)
    | _ => False)
  | .l xs => (match i with
    | .d (.int i) => (match L2.atI xs i with
      | some v => Q (.d v)
      | none => False)
    | _ => False)
  | .d _ => False
def slc (h : Hp) (x : TV) (lo hi : Option Int) (Q : TV → Prop) : Prop :=
  match x with
  | .d (.str z) => z.length ≤ sz ∧ Q (.d (.str (cut z lo hi)))
  | .d (.tup xs) => Q (.d (.tup (cut xs lo hi)))
  | .d (.ref l) => (match items h (.d (.ref l)) with
    | some xs => Q (.l (cut xs lo hi))
    | none => False)
  | .l xs => Q (.l (cut xs lo hi))
  | .d _ => False
def rev (h : Hp) (x : TV) (Q : TV → Prop) : Prop :=
  match x with
  | .d (.tup xs) => Q (.d (.tup xs.reverse))
  | .d (.ref l) => (match items h (.d (.ref l)) with
    | some xs => Q (.l xs.reverse)
    | none => False)
  | .l xs => Q (.l xs.reverse)
  | .d _ => False

/-! ### sorting -/
def sortBy (ps : List PyData) (xs : List D) : List D := ((ps.zip xs).mergeSort fun a b => !PySem.W.dataLt b.1 a.1).map (·.2)
def alikes (ps : List PyData) : Bool := ps.all fun p => ps.all fun q => PySem.W.alike p q
def isTupP : PyData → Bool
  | .tuple _ => true
  | _ => false
def isTup1 : PyData → Bool
  | .tuple (_ :: _) => true
  | _ => false
def isOth : PyData → Bool
  | .tuple _ => false
  | .none => false
  | .dict _ => false
  | _ => true
def head0 : List PyData → Bool
  | .tuple [] :: _ => true
  | _ => false
def sortable (ps : List PyData) : Bool := alikes ps && (ps.all isTup1 || ps.all isOth || (head0 ps && ps.all isTupP))
def sortD (h : Hp) (xs : List D) (Q : List D → Prop) : Prop :=
  match rdL h xs with
  | some ps => sortable ps = true ∧ Q (sortBy ps xs)
  | none => False
/-! ### sets of whole numbers, of tuples of them -/
def insI (i : Int) : List Int → List Int
  | [] => [i]
  | j :: r => if i < j then i :: j :: r else if i = j then j :: r else j :: insI i r
/-- the different ones, ascending -/
def srtI (xs : List Int) : List Int := xs.foldr insI []
def lexLt : List Int → List Int → Bool
  | [], [] => false
  | [], _ :: _ => true
  | _ :: _, [] => false
  | a :: x, b :: y => decide (a < b) || (decide (a = b) && lexLt x y)
def insT (t : List Int) : List (List Int) → List (List Int)
  | [] => [t]
  | u :: r => if lexLt t u = true then t :: u :: r else if t = u then u :: r else u :: insT t r
def srtT (xs : List (List Int)) : List (List Int) := xs.foldr insT []
def tI (t : List Int) : D := .tup (t.map .int)
/-! ### the tongue -/
inductive Bi where
  | len | int | all | any | min | repr | sum | sset | lset | dict | rsz
  deriving DecidableEq
inductive Lm where
  | append | extend | index | count | pop | get | setdefault | update | join | upper
  deriving DecidableEq
mutual
inductive E where
  | cst (d : D)
  | var (i : Nat)
  | tup (es : Es)
  | lst (es : Es)
  | dic (es : Es)
  | dicT (k v : E)
  | op (o : Op2) (a b : E)
  | neg (a : E)
  | nt (a : E)
  | and (a b : E)
  | or (a b : E)
  | cmp (o : Cmp) (a b : E)
  | chn (o u : Cmp) (a b c : E)
  | ite (c a b : E)
  | idx (a i : E)
  | slF (a lo : E)
  | slT (a hi : E)
  | slB (a lo hi : E)
  | rev (a : E)
  | fld (a : E) (f : String)
  | call (f : String) (es : Es)
  | mth (o : E) (m : String) (es : Es)
  | new (c : String) (es : Es)
  | isi (a : E) (t : Ty)
  | bi (b : Bi) (es : Es)
  | lm (m : Lm) (o : E) (es : Es)
  | lmT (m : Lm) (o e : E)
  | toL (i : I)
  | toT (i : I)
  | srt (i : I)
  | srtL (i : I)
  | sset (a : E)
  | lset (a : E)
  | comp (elt : E) (tg : T) (it : I) (ifs : Es) (own : List Nat)
  | com2 (elt : E) (tg : T) (it : I) (tg2 : T) (it2 : I) (ifs2 : Es) (own own2 : List Nat)
  | dcm (k v : E) (tg : T) (it : I) (own : List Nat)
inductive Es where
  | nil
  | cons (e : E) (es : Es)
  | star (e : E) (es : Es)
inductive I where
  | val (e : E)
  | seq (e : E)
  | rng (e : E)
  | rg2 (a b : E)
  | zip (a b : E)
  | enu (a : E)
  | vals (a : E)
  | keys (a : E)
inductive T where
  | nm (i : Nat)
  | tp (ts : Ts)
  | sb (o i : E)
  | fl (o : E) (f : String)
inductive Ts where
  | nil
  | cons (t : T) (ts : Ts)
end
mutual
inductive S where
  | asg (t : T) (e : E)
  | par (ts : Ts) (es : Es)
  | exp (e : E)
  | ret (e : E)
  | retN
  | ifs (c : E) (a b : Ss)
  | for (t : T) (i : I) (b : Ss)
  | whl (c : E) (b : Ss)
  | rai0 (c : String)
  | rai1 (c f : String) (e : E)
  | tri (b : Ss) (nm : Option Nat) (h : Ss)
  | del (o i : E)
  | brk
  | cnt
  | pas
inductive Ss where
  | nil
  | cons (s : S) (ss : Ss)
end

/-! ### what it means -/
abbrev XR := String → List (String × D) → Hp → Prop
structure Kx where
  fn : String → List D → Hp → (D → Hp → Prop) → XR → Prop
/-- a value that a name or a place is to hold -/
def lay (Q : D → Hp → Prop) : TV → Hp → Prop
  | .d x, h => Q x h
  | .l xs, h => Q (.ref h.length) (h ++ [.lst xs])
def pairs : List D → Option (List (D × D))
  | [] => some []
  | k :: v :: r => (pairs r).map fun t => (k, v) :: t
  | _ => none
def pairsOf (h : Hp) : List D → Option (List (D × D))
  | [] => some []
  | .tup [k, v] :: r => (pairsOf h r).map fun t => (k, v) :: t
  | _ => none
def boolsOf : List D → Option (List Bool)
  | [] => some []
  | .bl b :: r => (boolsOf r).map fun t => b :: t
  | _ => none
def intsOf : List D → Option (List Int)
  | [] => some []
  | .int i :: r => (intsOf r).map fun t => i :: t
  | _ => none
def itsOf : List D → Option (List (List Int))
  | [] => some []
  | .tup x :: r => match intsOf x, itsOf r with
    | some t, some ts => some (t :: ts)
    | _, _ => none
  | _ => none
def strsOf : List D → Option (List Tx)
  | [] => some []
  | .str x :: r => (strsOf r).map fun t => x :: t
  | _ => none
def tvL (h : Hp) (tv : TV) : Option (List D) := match tv with
  | .l xs => some xs
  | .d (.ref l) => items h (.d (.ref l))
  | _ => none
/-- what one walks over: its items, and what must stay -/
def walk (h : Hp) : TV → Option (List D × (Hp → Prop))
  | .l xs => some (xs, fun _ => True)
  | .d (.tup xs) => some (xs, fun _ => True)
  | .d (.str x) => some (x.map fun c => .str [c], fun _ => True)
  | .d (.ref l) => match h[l]? with
    | some (.lst xs) => some (xs, fun h' => h'[l]? = some (.lst xs))
    | some (.fz xs) => some (xs, fun h' => h'[l]? = some (.fz xs))
    | _ => none
  | .d _ => none
/-- of a list alone -/
def walkL (h : Hp) : TV → Option (List D × (Hp → Prop))
  | .l xs => some (xs, fun _ => True)
  | .d (.ref l) => match h[l]? with
    | some (.lst xs) => some (xs, fun h' => h'[l]? = some (.lst xs))
    | some (.fz xs) => some (xs, fun h' => h'[l]? = some (.fz xs))
    | _ => none
  | _ => none
/-- two lists, or two tuples -/
def walk2 (h : Hp) (x y : TV) : Option (List D × List D × (Hp → Prop)) := match x, y with
  | .d (.tup xs), .d (.tup ys) => some (xs, ys, fun _ => True)
  | x, y => match walkL h x, walkL h y with
    | some (xs, st), some (ys, st2) => some (xs, ys, fun h' => st h' ∧ st2 h')
    | _, _ => none
def biLen (h : Hp) : List TV → (TV → Hp → Prop) → Prop
  | [x], Q => (match len h x with
    | some n => Q (.d (.int n)) h
    | none => False)
  | _, _ => False
def biInt (h : Hp) : List TV → (TV → Hp → Prop) → Prop
  | [.d (.int i)], Q => Q (.d (.int i)) h
  | [.d (.bl b)], Q => Q (.d (.int (if b then 1 else 0))) h
  | _, _ => False
def biAll (h : Hp) : List TV → (TV → Hp → Prop) → Prop
  | [x], Q => (match (tvL h x).bind boolsOf with
    | some bs => Q (.d (.bl (bs.all id))) h
    | none => False)
  | _, _ => False
def biAny (h : Hp) : List TV → (TV → Hp → Prop) → Prop
  | [x], Q => (match (tvL h x).bind boolsOf with
    | some bs => Q (.d (.bl (bs.any id))) h
    | none => False)
  | _, _ => False
def biMin (h : Hp) : List TV → (TV → Hp → Prop) → Prop
  | [.d (.int i), .d (.int j)], Q => Q (.d (.int (if j < i then j else i))) h
  | _, _ => False
def biRepr (h : Hp) : List TV → (TV → Hp → Prop) → Prop
  | [x], Q => (match rdT h x with
    | some p => p.showable = true ∧ p.shown.length ≤ sz ∧ Q (.d (.str p.shown.cps.toList)) h
    | none => False)
  | _, _ => False
def biSum (h : Hp) : List TV → (TV → Hp → Prop) → Prop
  | [x], Q => (match (tvL h x).bind intsOf with
    | some is => Q (.d (.int is.sum)) h
    | none => False)
  | _, _ => False
def biSset (h : Hp) : List TV → (TV → Hp → Prop) → Prop
  | [x], Q => (match items h x with
    | some xs => (match intsOf xs with
      | some is => is.length < 4000 ∧ (∃ ks : List Int, ks.length < 64 ∧ ∀ i, i ∈ is → i ∈ ks) ∧ ∀ ns : List Int, ns.Pairwise (· < ·) → (∀ k, k ∈ ns ↔ k ∈ is) → Q (.l (ns.map .int)) h
      | none => (match tvL h x with
        | some xs => (match itsOf xs with
          | some ts => ts.length < 64 ∧ (∀ t, t ∈ ts → t ≠ []) ∧ ∀ us : List (List Int), us.Nodup → (∀ t, t ∈ us ↔ t ∈ ts) → us.Pairwise (· ≤ ·) → Q (.l (us.map tI)) h
          | none => False)
        | none => False))
    | none => False)
  | _, _ => False
def biLset (h : Hp) : List TV → (TV → Hp → Prop) → Prop
  | [x], Q => (match items h x with
    | some xs => (match intsOf xs with
      | some is => is.length < 4000 ∧ ∀ ns : List Int, ns.Pairwise (· < ·) → (∀ k, k ∈ ns ↔ k ∈ is) → Q (.d (.int ns.length)) h
      | none => False)
    | none => False)
  | _, _ => False
def biDict (h : Hp) : List TV → (TV → Hp → Prop) → Prop
  | [.l xs], Q => (match pairsOf h xs with
    | some kvs => keysOk kvs = true ∧ Q (.d (.ref h.length)) (h ++ [.dic (kputs [] kvs)])
    | none => False)
  | [.d (.ref l)], Q => (match h[l]? with
    | some (.dic kvs) => Q (.d (.ref h.length)) (h ++ [.dic kvs])
    | some (.lst xs) => (match pairsOf h xs with
      | some kvs => keysOk kvs = true ∧ Q (.d (.ref h.length)) (h ++ [.dic (kputs [] kvs)])
      | none => False)
    | _ => False)
  | _, _ => False
def bi (h : Hp) : Bi → List TV → (TV → Hp → Prop) → Prop
  | .len => biLen h
  | .int => biInt h
  | .all => biAll h
  | .any => biAny h
  | .min => biMin h
  | .repr => biRepr h
  | .sum => biSum h
  | .sset => biSset h
  | .lset => biLset h
  | .dict => biDict h
  | .rsz => fun _ _ => False
def lmAppend (h : Hp) : TV → List D → (TV → Hp → Prop) → Prop
  | .d (.ref l), [x], Q => (match h[l]? with
    | some (.lst xs) => xs.length < sz ∧ Q (.d .non) (h.set l (.lst (xs ++ [x])))
    | _ => False)
  | _, _, _ => False
def lmIndex (h : Hp) : TV → List D → (TV → Hp → Prop) → Prop
  | .d (.str z), [.str [c]], Q => c ∈ z ∧ Q (.d (.int (z.idxOf c))) h
  | .d (.ref l), [y], Q => (match items h (.d (.ref l)) with
    | some xs => (match rd h 60 y, rdL h xs with
      | some p, some ps => (ps.any fun q => PyData.eqv q p) = true ∧ Q (.d (.int (ps.findIdx fun q => PyData.eqv q p))) h
      | _, _ => False)
    | none => False)
  | .l xs, [y], Q => (match rd h 60 y, rdL h xs with
    | some p, some ps => (ps.any fun q => PyData.eqv q p) = true ∧ Q (.d (.int (ps.findIdx fun q => PyData.eqv q p))) h
    | _, _ => False)
  | _, _, _ => False
def lmCount (h : Hp) : TV → List D → (TV → Hp → Prop) → Prop
  | x, [.bl b], Q => (match (tvL h x).bind boolsOf with
    | some bs => Q (.d (.int (bs.count b))) h
    | none => False)
  | _, _, _ => False
def lmPop (h : Hp) : TV → List D → (TV → Hp → Prop) → Prop
  | .d (.ref l), [], Q => (match h[l]? with
    | some (.lst xs) => (match xs.getLast? with
      | some y => Q (.d y) (h.set l (.lst xs.dropLast))
      | none => False)
    | _ => False)
  | .d (.ref l), [.int i], Q => (match h[l]? with
    | some (.lst xs) => 0 ≤ i ∧ (match xs[i.toNat]? with
      | some y => Q (.d y) (h.set l (.lst (xs.eraseIdx i.toNat)))
      | none => False)
    | _ => False)
  | _, _, _ => False
def lmGet (h : Hp) : TV → List D → (TV → Hp → Prop) → Prop
  | .d (.ref l), [k, v], Q => (match h[l]? with
    | some (.dic kvs) => fitK kvs k = true ∧ Q (.d ((kget kvs k).getD v)) h
    | _ => False)
  | _, _, _ => False
def lmSetdefault (h : Hp) : TV → List D → (TV → Hp → Prop) → Prop
  | .d (.ref l), [k, v], Q => (match h[l]? with
    | some (.dic kvs) => fitK kvs k = true ∧ kvs.length < sz ∧ (match kget kvs k with
      | some u => Q (.d u) h
      | none => Q (.d v) (h.set l (.dic (kvs ++ [(k, v)]))))
    | _ => False)
  | _, _, _ => False
def lmUpdate (h : Hp) : TV → List D → (TV → Hp → Prop) → Prop
  | .d (.ref l), [.ref m], Q => (match h[l]?, h[m]? with
    | some (.dic kvs), some (.dic more) => l ≠ m ∧ kvs.length + more.length < sz ∧ Q (.d .non) (h.set l (.dic (kputs kvs more)))
    | _, _ => False)
  | _, _, _ => False
def lmUpper (h : Hp) : TV → List D → (TV → Hp → Prop) → Prop
  | .d (.str x), [], Q => x.all (fun c => decide (97 ≤ c ∧ c ≤ 122)) = true ∧ x.length < 65536 ∧ Q (.d (.str (x.map (· - 32)))) h
  | _, _, _ => False
def lm (h : Hp) : Lm → TV → List D → (TV → Hp → Prop) → Prop
  | .append => lmAppend h
  | .index => lmIndex h
  | .count => lmCount h
  | .pop => lmPop h
  | .get => lmGet h
  | .setdefault => lmSetdefault h
  | .update => lmUpdate h
  | .upper => lmUpper h
  | .extend => fun _ _ _ => False
  | .join => fun _ _ _ => False
/-- methods whose argument may be a list just made -/
def lmT (h : Hp) : Lm → TV → TV → (TV → Hp → Prop) → Prop
  | .extend, .d (.ref l), y, Q => match h[l]?, lstOf h y with
    | some (.lst xs), some ys => y ≠ .d (.ref l) ∧ xs.length + ys.length ≤ sz ∧ Q (.d .non) (h.set l (.lst (xs ++ ys)))
    | _, _ => False
  | .join, .d (.str z), y, Q => match (tvL h y).bind strsOf with
    | some ss => z = [] ∧ ss.flatten.length ≤ sz ∧ Q (.d (.str ss.flatten)) h
    | none => False
  | _, _, _, _ => False

/-- what the receiver must be -/
def lmOk (h : Hp) : Lm → TV → Bool
  | .append, x => (lstOf h x).isSome
  | .extend, x => (lstOf h x).isSome
  | .pop, x => (lstOf h x).isSome
  | .count, x => (tvL h x).isSome
  | .join, .d (.str _) => true
  | .upper, .d (.str _) => true
  | .index, .d (.str _) => true
  | .index, x => (tvL h x).isSome
  | .get, .d (.ref l) => (match h[l]? with
    | some (.dic _) => true
    | _ => false)
  | .setdefault, .d (.ref l) => (match h[l]? with
    | some (.dic _) => true
    | _ => false)
  | .update, .d (.ref l) => (match h[l]? with
    | some (.dic _) => true
    | _ => false)
  | _, _ => false
section
variable (K : Kx)
/-- a list comprehension over its items -/
def compGo (st : Hp → Prop) (turn : D → Hp → (Option D → Hp → Prop) → Prop) : List D → Hp → List D → (List D → Hp → Prop) → Prop
  | [], h, acc, Q => st h ∧ Q acc h
  | x :: xs, h, acc, Q => st h ∧ acc.length < sz ∧ turn x h fun y h2 => match y with
    | some y => compGo st turn xs h2 (acc ++ [y]) Q
    | none => compGo st turn xs h2 acc Q
/-- .. with two fors: each item brings some -/
def com2Go (st : Hp → Prop) (turn : D → Hp → List D → (List D → Hp → Prop) → Prop) : List D → Hp → List D → (List D → Hp → Prop) → Prop
  | [], h, acc, Q => st h ∧ Q acc h
  | x :: xs, h, acc, Q => st h ∧ turn x h acc fun acc2 h2 => com2Go st turn xs h2 acc2 Q
def dcmGo (st : Hp → Prop) (turn : D → Hp → (D → D → Hp → Prop) → Prop) : List D → Hp → List (D × D) → (List (D × D) → Hp → Prop) → Prop
  | [], h, acc, Q => st h ∧ Q acc h
  | x :: xs, h, acc, Q => st h ∧ acc.length < sz ∧ turn x h fun k v h2 => fitK acc k = true ∧ dcmGo st turn xs h2 (kput acc k v) Q
def tsLen : Ts → Nat
  | .nil => 0
  | .cons _ r => tsLen r + 1
def wipe (s : Sto) (own : List Nat) : Sto := own.foldr (fun v t => t.set v none) s
mutual
def dT (R : XR) : E → Sto → Hp → (TV → Hp → Prop) → Prop
  | .cst d, _, h, Q => Q (.d d) h
  | .var i, s, h, Q => match s[i]? with
    | some (some x) => Q (.d x) h
    | _ => False
  | .tup es, s, h, Q => dEs R es s h fun xs h1 => xs.length ≤ sz ∧ Q (.d (.tup xs)) h1
  | .lst es, s, h, Q => dEs R es s h fun xs h1 => xs.length ≤ sz ∧ Q (.l xs) h1
  | .dic es, s, h, Q => dEs R es s h fun xs h1 => match pairs xs with
    | some kvs => (kvs.all fun p => atomK p.1) = true ∧ kvs.length ≤ 15 ∧ Q (.d (.ref h1.length)) (h1 ++ [.dic (kputs [] kvs)])
    | none => False
  | .dicT k v, s, h, Q => dT R k s h (lay fun x h1 => dT R v s h1 (lay fun y h2 => tupK x = true ∧ Q (.d (.ref h2.length)) (h2 ++ [.dic [(x, y)]])))
  | .op o a b, s, h, Q => dT R a s h fun x h1 => dT R b s h1 fun y h2 => op2 h2 o x y fun z => Q z h2
  | .neg a, s, h, Q => dT R a s h fun x h1 => match x with
    | .d (.int i) => Q (.d (.int (-i))) h1
    | _ => False
  | .nt a, s, h, Q => dT R a s h fun x h1 => match tru h1 x with
    | some b => Q (.d (.bl (!b))) h1
    | none => False
  | .and a b, s, h, Q => dT R a s h fun x h1 => match tru h1 x with
    | some true => dT R b s h1 Q
    | some false => Q x h1
    | none => False
  | .or a b, s, h, Q => dT R a s h fun x h1 => match tru h1 x with
    | some true => Q x h1
    | some false => dT R b s h1 Q
    | none => False
  | .cmp o a b, s, h, Q => dT R a s h fun x h1 => dT R b s h1 fun y h2 => cmp h2 o x y fun k => Q (.d (.bl k)) h2
  | .chn o u a b c, s, h, Q => dT R a s h fun x h1 => dT R b s h1 fun y h2 => cmp h2 o x y fun k => if k = true then dT R c s h2 fun z h3 => cmp h3 u y z fun j => Q (.d (.bl j)) h3 else Q (.d (.bl false)) h2
  | .ite c a b, s, h, Q => dT R c s h fun x h1 => match tru h1 x with
    | some true => dT R a s h1 Q
    | some false => dT R b s h1 Q
    | none => False
  | .idx a i, s, h, Q => dT R a s h fun x h1 => dT R i s h1 fun y h2 => idx h2 x y fun z => Q z h2
  | .slF a lo, s, h, Q => dT R a s h fun x h1 => dT R lo s h1 fun y h2 => match y with
    | .d (.int i) => slc h2 x (some i) none fun z => Q z h2
    | _ => False
  | .slT a hi, s, h, Q => dT R a s h fun x h1 => dT R hi s h1 fun y h2 => match y with
    | .d (.int i) => slc h2 x none (some i) fun z => Q z h2
    | _ => False
  | .slB a lo hi, s, h, Q => dT R a s h fun x h1 => dT R lo s h1 fun y h2 => match y with
    | .d (.int i) => dT R hi s h2 fun y2 h3 => (match y2 with
      | .d (.int j) => slc h3 x (some i) (some j) fun z => Q z h3
      | _ => False)
    | _ => False
  | .rev a, s, h, Q => dT R a s h fun x h1 => rev h1 x fun z => Q z h1
  | .fld a f, s, h, Q => dT R a s h fun x h1 => match x with
    | .d (.ref l) => (match h1[l]? with
      | some (.ins _ fs) => (match fs.lookup f with
        | some v => Q (.d v) h1
        | none => False)
      | some (.exc _ fs) => (match fs.lookup f with
        | some v => Q (.d v) h1
        | none => False)
      | _ => False)
    | _ => False
  | .call f es, s, h, Q => dEs R es s h fun xs h1 => K.fn f xs h1 (fun v h2 => Q (.d v) h2) R
  | .mth o m es, s, h, Q => dT R o s h fun x h1 => match x with
    | .d (.ref l) => (match h1[l]? with
      | some (.ins c _) => dEs R es s h1 fun xs h2 => K.fn (c ++ "." ++ m) (.ref l :: xs) h2 (fun v h3 => Q (.d v) h3) R
      | _ => False)
    | _ => False
  | .new c es, s, h, Q => dEs R es s h fun xs h1 => K.fn (c ++ ".__init__") (.ref h1.length :: xs) (h1 ++ [.ins c []]) (fun v h2 => v = .non ∧ Q (.d (.ref h1.length)) h2) R
  | .isi a t, s, h, Q => dT R a s h fun x h1 => match SL.isi h1 t x with
    | some b => Q (.d (.bl b)) h1
    | none => False
  | .bi b es, s, h, Q => dTs R es s h fun xs h1 => SL.bi h1 b xs Q
  | .lm m o es, s, h, Q => dT R o s h fun x h1 => lmOk h1 m x = true ∧ dEs R es s h1 fun ys h2 => SL.lm h2 m x ys Q
  | .lmT m o e, s, h, Q => dT R o s h fun x h1 => lmOk h1 m x = true ∧ dT R e s h1 fun y h2 => SL.lmT h2 m x y Q
  | .toL i, s, h, Q => dI R i s h fun xs _ h1 => xs.length ≤ sz ∧ Q (.l xs) h1
  | .toT i, s, h, Q => dI R i s h fun xs _ h1 => xs.length ≤ sz ∧ Q (.d (.tup xs)) h1
  | .srt i, s, h, Q => dI R i s h fun xs _ h1 => xs.length ≤ sz ∧ sortD h1 xs fun ys => Q (.l ys) h1
  | .srtL i, s, h, Q => dI R i s h fun xs _ h1 => xs.length ≤ sz ∧ match strsOf xs with
    | some ss => Q (.l ((ss.mergeSort fun a b => decide (a.length ≤ b.length)).map .str)) h1
    | none => False
  | .sset a, s, h, Q => dT R a s h fun x h1 => biSset h1 [x] Q
  | .lset a, s, h, Q => dT R a s h fun x h1 => biLset h1 [x] Q
  | .comp elt tg it ifs own, s, h, Q => dI R it s h fun xs st h1 =>
    compGo st (fun x h q => dTg (fun _ _ _ => False) tg x (wipe s own) h fun s2 h2 => dIfs ifs s2 h2 fun b h3 => if b = true then dT (fun _ _ _ => False) elt s2 h3 (lay fun y h4 => q (some y) h4) else q none h3) xs h1 [] fun ys h2 => Q (.l ys) h2
  | .com2 elt tg it tg2 it2 ifs2 own own2, s, h, Q => dI R it s h fun xs st h1 =>
    com2Go st (fun x h acc q => dTg (fun _ _ _ => False) tg x (wipe s own) h fun s2 h2 => dI (fun _ _ _ => False) it2 s2 h2 fun xs2 st2 h3 =>
      compGo st2 (fun x h q => dTg (fun _ _ _ => False) tg2 x (wipe s2 own2) h fun s3 h4 => dIfs ifs2 s3 h4 fun b h5 => if b = true then dT (fun _ _ _ => False) elt s3 h5 (lay fun y h6 => q (some y) h6) else q none h5) xs2 h3 acc q) xs h1 [] fun ys h2 => Q (.l ys) h2
  | .dcm k v tg it own, s, h, Q => dI R it s h fun xs st h1 =>
    dcmGo st (fun x h q => dTg (fun _ _ _ => False) tg x (wipe s own) h fun s2 h2 => dT (fun _ _ _ => False) k s2 h2 (lay fun y h3 => dT (fun _ _ _ => False) v s2 h3 (lay fun z h4 => q y z h4))) xs h1 [] fun kvs h2 => Q (.d (.ref h2.length)) (h2 ++ [.dic kvs])
/-- values, each laid -/
def dEs (R : XR) : Es → Sto → Hp → (List D → Hp → Prop) → Prop
  | .nil, _, h, Q => Q [] h
  | .cons e es, s, h, Q => dT R e s h (lay fun x h1 => dEs R es s h1 fun xs h2 => Q (x :: xs) h2)
  | .star e es, s, h, Q => dT R e s h fun tv h1 => match items h1 tv with
    | some xs => dEs R es s h1 fun ys h2 => xs.length ≤ sz ∧ Q (xs ++ ys) h2
    | none => False
/-- values as they come -/
def dTs (R : XR) : Es → Sto → Hp → (List TV → Hp → Prop) → Prop
  | .nil, _, h, Q => Q [] h
  | .cons e es, s, h, Q => dT R e s h fun x h1 => dTs R es s h1 fun xs h2 => Q (x :: xs) h2
  | .star _ _, _, _, _ => False
/-- tests -/
def dIfs : Es → Sto → Hp → (Bool → Hp → Prop) → Prop
  | .nil, _, h, Q => Q true h
  | .cons e _, s, h, Q => dT (fun _ _ _ => False) e s h fun x h1 => match tru h1 x with
    | some b => Q b h1
    | none => False
  | .star _ _, _, _, _ => False
def dI (R : XR) : I → Sto → Hp → (List D → (Hp → Prop) → Hp → Prop) → Prop
  | .val e, s, h, Q => dT R e s h fun x h1 => match walk h1 x with
    | some (xs, st) => Q xs st h1
    | none => False
  | .seq e, s, h, Q => dT R e s h fun x h1 => match items h1 x with
    | some xs => Q xs (fun _ => True) h1
    | none => False
  | .rng e, s, h, Q => dT R e s h fun x h1 => match x with
    | .d (.int n) => n ≤ sz ∧ -(2 ^ 62) ≤ n ∧ Q ((List.range n.toNat).map fun (i : Nat) => D.int i) (fun _ => True) h1
    | _ => False
  | .rg2 a b, s, h, Q => dT R a s h fun x h1 => dT R b s h1 fun y h2 => match x, y with
    | .d (.int m), .d (.int n) => -(2 ^ 61) ≤ m ∧ m < 2 ^ 61 ∧ -(2 ^ 61) ≤ n ∧ n < 2 ^ 61 ∧ n - m ≤ sz ∧ Q ((List.range (n - m).toNat).map fun (i : Nat) => D.int (m + i)) (fun _ => True) h2
    | _, _ => False
  | .zip a b, s, h, Q => dT R a s h fun x h1 => dT R b s h1 fun y h2 => match walk2 h2 x y with
    | some (xs, ys, st) => Q ((xs.zip ys).map fun p => .tup [p.1, p.2]) st h2
    | none => False
  | .enu a, s, h, Q => dT R a s h fun x h1 => match walkL h1 x with
    | some (xs, st) => Q (xs.zipIdx.map fun p => .tup [.int p.2, p.1]) st h1
    | none => False
  | .vals a, s, h, Q => dT R a s h fun x h1 => match x with
    | .d (.ref l) => (match h1[l]? with
      | some (.dic kvs) => Q (kvs.map (·.2)) (fun h' => h'[l]? = some (.dic kvs)) h1
      | _ => False)
    | _ => False
  | .keys a, s, h, Q => dT R a s h fun x h1 => match x with
    | .d (.ref l) => (match h1[l]? with
      | some (.dic kvs) => kvs ≠ [] ∧ (kvs.all fun p => tupK p.1) = true ∧ ∀ o, Q (kvs.map (·.1)) (fun h' => h'[l]? = some (.lck o kvs)) (h1.set l (.lck o kvs))
      | _ => False)
    | _ => False
def dTg (R : XR) : T → D → Sto → Hp → (Sto → Hp → Prop) → Prop
  | .nm i, x, s, h, Q => Q (s.set i (some x)) h
  | .tp ts, x, s, h, Q => match x with
    | .tup xs => xs.length = tsLen ts ∧ dTgs R ts xs s h Q
    | _ => False
  | .sb o i, x, s, h, Q => dT R o s h fun ov h1 => dT R i s h1 fun iv h2 => match ov, iv with
    | .d (.ref l), .d k => (match h2[l]? with
      | some (.lst xs) => (match k with
        | .int j => 0 ≤ j ∧ j.toNat < xs.length ∧ Q s (h2.set l (.lst (xs.set j.toNat x)))
        | _ => False)
      | some (.dic kvs) => fitK kvs k = true ∧ kvs.length < sz ∧ Q s (h2.set l (.dic (kput kvs k x)))
      | _ => False)
    | _, _ => False
  | .fl o f, x, s, h, Q => dT R o s h fun ov h1 => match ov with
    | .d (.ref l) => (match h1[l]? with
      | some (.ins c fs) => Q s (h1.set l (.ins c ((f, x) :: fs.filter fun p => !(p.1 == f))))
      | _ => False)
    | _ => False
def dTgs (R : XR) : Ts → List D → Sto → Hp → (Sto → Hp → Prop) → Prop
  | .nil, [], s, h, Q => Q s h
  | .cons t ts, x :: xs, s, h, Q => dTg R t x s h fun s1 h1 => dTgs R ts xs s1 h1 Q
  | _, _, _, _, _ => False
end
end
/-! ### statements -/
structure En where
  nx : Sto → Hp → Prop
  rt : D → Hp → Prop
  bk : Sto → Hp → Prop
  ct : Sto → Hp → Prop
  xr : String → List (String × D) → Sto → Hp → Prop
def forGo (st : Hp → Prop) (turn : D → (Sto → Hp → Prop) → Sto → Hp → Prop) (nx : Sto → Hp → Prop) : List D → Sto → Hp → Prop
  | [], s, h => st h ∧ nx s h
  | x :: xs, s, h => st h ∧ turn x (forGo st turn nx xs) s h
def whlGo (c : Sto → Hp → (Bool → Hp → Prop) → Prop) (b : (Sto → Hp → Prop) → Sto → Hp → Prop) (nx : Sto → Hp → Prop) (s : Sto) (h : Hp) : Prop :=
  ∃ W : Nat → Sto → Hp → Prop, (∃ m, W m s h) ∧ ∀ m s h, W m s h → c s h fun k h1 => if k = true then ∃ N : Sto → Hp → Prop, (∀ s2 h2, N s2 h2 → ∃ m2, m2 < m ∧ W m2 s2 h2) ∧ b N s h1 else nx s h1
def tst (Q : Bool → Hp → Prop) : TV → Hp → Prop := fun x h => match tru h x with
  | some b => Q b h
  | none => False
section
variable (K : Kx)
mutual
def dS : S → En → Sto → Hp → Prop
  | .asg t e, n, s, h => dT K (fun c fs h => n.xr c fs s h) e s h (lay fun x h1 => dTg K (fun c fs h => n.xr c fs s h) t x s h1 n.nx)
  | .par ts es, n, s, h => dEs K (fun c fs h => n.xr c fs s h) es s h fun xs h1 => xs.length = tsLen ts ∧ dTgs K (fun c fs h => n.xr c fs s h) ts xs s h1 n.nx
  | .exp e, n, s, h => dT K (fun c fs h => n.xr c fs s h) e s h fun _ h1 => n.nx s h1
  | .ret e, n, s, h => dT K (fun c fs h => n.xr c fs s h) e s h (lay n.rt)
  | .retN, n, _, h => n.rt .non h
  | .ifs c a b, n, s, h => dT K (fun c fs h => n.xr c fs s h) c s h (tst fun k h1 => if k = true then dSs a n s h1 else dSs b n s h1)
  | .for t i b, n, s, h => dI K (fun c fs h => n.xr c fs s h) i s h fun xs st h1 =>
    forGo st (fun x N s h => dTg K (fun c fs h => n.xr c fs s h) t x s h fun s2 h2 => dSs b { n with nx := N, ct := N, bk := n.nx } s2 h2) n.nx xs s h1
  | .whl c b, n, s, h => whlGo (fun s h q => dT K (fun c fs h => n.xr c fs s h) c s h (tst q)) (fun N s h => dSs b { n with nx := N, ct := N, bk := n.nx } s h) n.nx s h
  | .rai0 c, n, s, h => n.xr c [] s h
  | .rai1 c f e, n, s, h => dT K (fun c fs h => n.xr c fs s h) e s h (lay fun x h1 => n.xr c [(f, x)] s h1)
  | .tri b nm hd, n, s, h => dSs b { n with xr := fun c fs s1 h1 => match nm with
    | none => dSs hd { n with xr := fun _ _ _ _ => False } s1 h1
    | some i => dSs hd { nx := fun s2 h2 => n.nx (s2.set i none) h2, rt := n.rt, bk := fun s2 h2 => n.bk (s2.set i none) h2, ct := fun s2 h2 => n.ct (s2.set i none) h2, xr := fun _ _ _ _ => False } (s1.set i (some (.ref h1.length))) (h1 ++ [.exc c fs]) } s h
  | .del o i, n, s, h => dT K (fun c fs h => n.xr c fs s h) o s h fun ov h1 => dT K (fun c fs h => n.xr c fs s h) i s h1 fun iv h2 => match ov, iv with
    | .d (.ref l), .d k => (match h2[l]? with
      | some (.dic kvs) => fitK kvs k = true ∧ (kget kvs k).isSome = true ∧ n.nx s (h2.set l (.dic (kdel kvs k)))
      | _ => False)
    | _, _ => False
  | .brk, n, s, h => n.bk s h
  | .cnt, n, s, h => n.ct s h
  | .pas, n, s, h => n.nx s h
def dSs : Ss → En → Sto → Hp → Prop
  | .nil, n, s, h => n.nx s h
  | .cons a r, n, s, h => dS a { n with nx := fun s1 h1 => dSs r n s1 h1 } s h
end
end

/-! ### calls -/
structure Fn where
  np : Nat
  ns : Nat
  body : Ss
abbrev Prog := List (String × Fn)
def clo (n : Nat) : D → Bool
  | .ref l => decide (l < n)
  | .tup xs => cloL n xs
  | _ => true
where cloL (n : Nat) : List D → Bool
  | [] => true
  | x :: xs => clo n x && cloL n xs
def cloO (n : Nat) : O → Bool
  | .lst xs => xs.all (clo n)
  | .fz xs => xs.all (clo n)
  | .dic kvs => kvs.all fun p => clo n p.1 && clo n p.2
  | .lck _ kvs => kvs.all fun p => clo n p.1 && clo n p.2
  | .ins _ fs => fs.all fun p => clo n p.2
  | .exc _ fs => fs.all fun p => clo n p.2
def kept (h h1 : Hp) : Prop := h1.length = h.length ∧ ∀ (i : Nat) (o : O), h1[i]? = some o → h[i]? = some o ∨ cloO h.length o = true
/-- behind a call: as it is; or without what was made; or with one made thing alone -/
def gcq (h : Hp) (Q : D → Hp → Prop) (v : D) (h2 : Hp) : Prop :=
  Q v h2 ∨ (∃ h1 g, h2 = h1 ++ g ∧ kept h h1 ∧ clo h.length v = true ∧ Q v h1) ∨
    ∃ h1 g l o, h2 = h1 ++ g ∧ kept h h1 ∧ v = .ref l ∧ h.length ≤ l ∧ h2[l]? = some o ∧ cloO h.length o = true ∧ Q (.ref h.length) (h1 ++ [o])
def ini (np ns : Nat) (args : List D) : Sto := args.map some ++ List.replicate (ns - np) none
def callN (P : Prog) : Nat → String → List D → Hp → (D → Hp → Prop) → XR → Prop
  | 0, _, _, _, _, _ => False
  | n + 1, f, args, h, Q, R => match P.lookup f with
    | some fd => args.length = fd.np ∧ dSs ⟨callN P n⟩ fd.body ⟨fun _ h2 => gcq h Q .non h2, gcq h Q, fun _ _ => False, fun _ _ => False, fun c fs _ h2 => R c fs h2⟩ (ini fd.np fd.ns args) h
    | none => False
end SL

set_option linter.all false
set_option autoImplicit false
set_option maxRecDepth 100000
set_option Elab.async false
/-! SLKey: keys of dicts: tuples, nested. -/
namespace SL
open PySem PySem.Spec PyProof.Rows
mutual
def nk : D → NestedKey
  | .non => .none
  | .bl b => .num (if b = true then 1 else 0)
  | .int i => .num i
  | .str x => .text (tS x)
  | .tup xs => .tup (nks xs)
  | .ref _ => .none
def nks : List D → List NestedKey
  | [] => []
  | x :: xs => nk x :: nks xs
end
theorem nks_map : ∀ xs : List D, nks xs = xs.map nk
  | [] => rfl
  | x :: xs => by rw [nks, nks_map xs, List.map_cons]
theorem tS_inj {x y : Tx} (h : tS x = tS y) : x = y := by
  have : x.toArray = y.toArray := congrArg Str.cps h
  simpa using this
theorem isKey_tup {n : Nat} {xs : List D} (h : isKey n (.tup xs) = true) : ∃ m, n = m + 1 ∧ ∀ x, x ∈ xs → isKey m x = true := by
  cases n with
  | zero => cases h
  | succ m => exact ⟨m, rfl, List.all_eq_true.mp h⟩
theorem key_eqs {n : Nat} (ih : ∀ x y, isKey n x = true → isKey n y = true → keq x y = NestedKey.beq (nk x) (nk y)) : ∀ xs ys : List D, (∀ x, x ∈ xs → isKey n x = true) → (∀ y, y ∈ ys → isKey n y = true) → keqs xs ys = NestedKey.beqAll (nks xs) (nks ys)
  | [], [], _, _ => rfl
  | [], _ :: _, _, _ => rfl
  | _ :: _, [], _, _ => rfl
  | x :: xs, y :: ys, hx, hy => by
    rw [keqs, nks, nks, NestedKey.beqAll, ih x y (hx x (List.mem_cons_self ..)) (hy y (List.mem_cons_self ..)), key_eqs ih xs ys (fun z hz => hx z (List.mem_cons_of_mem _ hz)) fun z hz => hy z (List.mem_cons_of_mem _ hz)]
theorem key_str (x y : Tx) : (x == y) = decide (tS x = tS y) := by
  rw [Bool.eq_iff_iff, beq_iff_eq, decide_eq_true_eq]
  exact ⟨fun h => by rw [h], tS_inj⟩
theorem key_eq : ∀ (n : Nat) (x y : D), isKey n x = true → isKey n y = true → keq x y = NestedKey.beq (nk x) (nk y) := by
  intro n
  induction n with
  | zero =>
    intro x y hx hy
    cases x with
    | tup xs => cases hx
    | ref l => cases hx
    | non => cases y <;> first | rfl | cases hy
    | bl a =>
      cases y with
      | tup ys => cases hy
      | ref l => cases hy
      | bl b => cases a <;> cases b <;> decide
      | int j => cases a <;> rfl
      | _ => rfl
    | int i =>
      cases y with
      | tup ys => cases hy
      | ref l => cases hy
      | bl b => cases b <;> rfl
      | int j => rfl
      | _ => rfl
    | str a =>
      cases y with
      | tup ys => cases hy
      | ref l => cases hy
      | str b => exact key_str a b
      | _ => rfl
  | succ n ih =>
    intro x y hx hy
    cases x with
    | tup xs =>
      cases y with
      | tup ys => exact key_eqs ih xs ys (List.all_eq_true.mp hx) (List.all_eq_true.mp hy)
      | ref l => cases hy
      | _ => rfl
    | ref l => cases hx
    | non => cases y <;> first | rfl | cases hy
    | bl a =>
      cases y with
      | ref l => cases hy
      | bl b => cases a <;> cases b <;> decide
      | int j => cases a <;> rfl
      | _ => rfl
    | int i =>
      cases y with
      | ref l => cases hy
      | bl b => cases b <;> rfl
      | int j => rfl
      | _ => rfl
    | str a =>
      cases y with
      | ref l => cases hy
      | str b => exact key_str a b
      | _ => rfl
theorem depth_all {n : Nat} (ih : ∀ x, isKey n x = true → (nk x).depth ≤ n) : ∀ xs : List D, (∀ x, x ∈ xs → isKey n x = true) → NestedKey.depthAll (nks xs) ≤ n
  | [], _ => Nat.zero_le _
  | x :: xs, h => by
    rw [nks, NestedKey.depthAll]
    exact Nat.max_le.mpr ⟨ih x (h x (List.mem_cons_self ..)), depth_all ih xs fun y hy => h y (List.mem_cons_of_mem _ hy)⟩
theorem key_depth : ∀ (n : Nat) (x : D), isKey n x = true → (nk x).depth ≤ n := by
  intro n
  induction n with
  | zero => intro x hx; cases x <;> first | exact Nat.le_refl _ | cases hx
  | succ n ih =>
    intro x hx
    cases x with
    | tup xs =>
      rw [nk, NestedKey.depth]
      exact Nat.succ_le_succ (depth_all ih xs (List.all_eq_true.mp hx))
    | ref l => cases hx
    | _ => exact Nat.zero_le _
theorem tupK_of {k : D} (h : tupK k = true) : ∃ xs, k = .tup xs ∧ isKey 8 k = true := by
  cases k with
  | tup xs => exact ⟨xs, rfl, h⟩
  | _ => cases h
theorem tupK_eq {x y : D} (hx : tupK x = true) (hy : tupK y = true) : keq x y = decide (nk x = nk y) := by
  obtain ⟨_, _, h1⟩ := tupK_of hx
  obtain ⟨_, _, h2⟩ := tupK_of hy
  rw [NestedKey.decide_eq]
  exact key_eq 8 x y h1 h2
theorem mixed_no0 {kvs : List (D × D)} (h1 : (kvs.all fun p => atomK p.1) = true) (h2 : ∀ p, p ∈ kvs → tupK p.1 = true) (h3 : kvs ≠ []) : False := by
  cases kvs with
  | nil => exact h3 rfl
  | cons p r =>
    have a := List.all_eq_true.mp h1 p (List.mem_cons_self ..)
    have b := h2 p (List.mem_cons_self ..)
    obtain ⟨xs, e, _⟩ := tupK_of b
    rw [e] at a
    cases a
/-! ### a dict whose keys are tuples: its keys, where they stand, its values -/
abbrev KRow := NestedKey × Addr × L2.V
def dN (P : Program) (w : World) (fz : Option Obj) (a : Addr) (xs : List KRow) : L2.HO := .ext fun h => (a == sysModules) = false ∧ xs.length ≤ sizeLine ∧ (∀ o, fz = some o → h.get? a = some o) ∧ ∃ ys : List (NestedKey × Addr × Value),
  Paired (fun (x : KRow) (y : NestedKey × Addr × Value) => x.1 = y.1 ∧ x.2.1 = y.2.1 ∧ L2.RelV x.2.2 y.2.2) xs ys ∧
    ∃ o es ep, h.get? a = some o ∧ o.ExactDict ∧ o.data = .dict es ep ∧ es.toList = ys.map (entryOfKey (nestedKind P w)) ∧ (ys.map (·.1)).Nodup
end SL

set_option linter.all false
set_option autoImplicit false
set_option maxRecDepth 100000
set_option Elab.async false
/-! SLRel: how trees and the functional heap stand in the layer's abstract heap; lifted readings. -/
namespace SL
open PySem PySem.Spec PyProof.Rows

/-- where one is: places of the functional heap, how many, the layer's heap -/
structure Bs where
  μ : Nat → Addr
  n : Nat
  H : L2.Hp
section
variable (K : PySem.W.Frag)
mutual
def DR (c : Bs) : D → L2.V → Prop
  | .non, v => v = .non
  | .bl b, v => v = .bl b
  | .int i, v => v = .int i
  | .str x, v => v = .str (tS x)
  | .tup xs, v => ∃ a vs, v = .ref a ∧ L2.SqT K c.H a vs ∧ DRs c xs vs
  | .ref l, v => l < c.n ∧ v = .ref (c.μ l)
def DRs (c : Bs) : List D → List L2.V → Prop
  | [], vs => vs = []
  | x :: xs, vs => ∃ v r, vs = v :: r ∧ DR c x v ∧ DRs c xs r
end
/-- later: more places, the same for the old ones; tuples stay -/
structure Ex (b c : Bs) : Prop where
  le : b.n ≤ c.n
  mu : ∀ i, i < b.n → c.μ i = b.μ i
  tup : ∀ a xs, L2.SqT K b.H a xs → L2.SqT K c.H a xs
  stay : ∀ a o, b.H a = some o → (∀ i, i < b.n → b.μ i ≠ a) → c.H a = some o ∧ ∀ i, i < c.n → c.μ i ≠ a
  old : ∀ a, c.H a = none → b.H a = none
end
section
variable {K : PySem.W.Frag}
theorem Ex.refl (b : Bs) : Ex K b b := ⟨Nat.le_refl _, fun _ _ => rfl, fun _ _ h => h, fun _ _ h k => ⟨h, k⟩, fun _ h => h⟩
theorem Ex.trans {a b c : Bs} (x : Ex K a b) (y : Ex K b c) : Ex K a c :=
  ⟨Nat.le_trans x.le y.le, fun i h => (y.mu i (Nat.lt_of_lt_of_le h x.le)).trans (x.mu i h), fun a xs h => y.tup a xs (x.tup a xs h),
    fun a o h k => (x.stay a o h k).elim fun h1 k1 => y.stay a o h1 k1, fun a h => x.old a (y.old a h)⟩
mutual
theorem DR.mono {b c : Bs} (x : Ex K b c) : ∀ (d : D) (v : L2.V), DR K b d v → DR K c d v
  | .non, _, h => h
  | .bl _, _, h => h
  | .int _, _, h => h
  | .str _, _, h => h
  | .tup xs, v, h => by
    obtain ⟨a, vs, e, t, r⟩ := h
    exact ⟨a, vs, e, x.tup a vs t, DRs.mono x xs vs r⟩
  | .ref l, v, h => by
    obtain ⟨h1, h2⟩ := h
    exact ⟨Nat.lt_of_lt_of_le h1 x.le, by rw [h2, x.mu l h1]⟩
theorem DRs.mono {b c : Bs} (x : Ex K b c) : ∀ (xs : List D) (vs : List L2.V), DRs K b xs vs → DRs K c xs vs
  | [], _, h => h
  | y :: ys, vs, h => by
    obtain ⟨v, r, e, h1, h2⟩ := h
    exact ⟨v, r, e, DR.mono x y v h1, DRs.mono x ys r h2⟩
end
theorem DRs.length {c : Bs} : ∀ {xs : List D} {vs : List L2.V}, DRs K c xs vs → vs.length = xs.length
  | [], vs, h => by rw [show vs = [] from h]; rfl
  | x :: xs, vs, h => by
    obtain ⟨v, r, rfl, _, h2⟩ := h
    rw [List.length_cons, List.length_cons, DRs.length h2]
theorem DRs.get {c : Bs} : ∀ {xs : List D} {vs : List L2.V} {i : Nat} {x : D}, DRs K c xs vs → xs[i]? = some x → ∃ v, vs[i]? = some v ∧ DR K c x v
  | [], _, i, x, _, e => by simp at e
  | y :: ys, vs, 0, x, h, e => by
    obtain ⟨v, r, rfl, h1, _⟩ := h
    simp at e
    subst e
    exact ⟨v, rfl, h1⟩
  | y :: ys, vs, i + 1, x, h, e => by
    obtain ⟨v, r, rfl, _, h2⟩ := h
    obtain ⟨w, e1, e2⟩ := DRs.get (i := i) h2 (by simpa using e)
    exact ⟨w, by simpa using e1, e2⟩
theorem DRs.append {c : Bs} : ∀ {xs ys : List D} {vs ws : List L2.V}, DRs K c xs vs → DRs K c ys ws → DRs K c (xs ++ ys) (vs ++ ws)
  | [], ys, vs, ws, h, g => by rw [show vs = [] from h]; exact g
  | x :: xs, ys, vs, ws, h, g => by
    obtain ⟨v, r, rfl, h1, h2⟩ := h
    exact ⟨v, r ++ ws, rfl, h1, DRs.append h2 g⟩
theorem DRs.take {c : Bs} : ∀ (n : Nat) {xs : List D} {vs : List L2.V}, DRs K c xs vs → DRs K c (xs.take n) (vs.take n)
  | 0, _, _, _ => rfl
  | n + 1, [], vs, h => by rw [show vs = [] from h]; rfl
  | n + 1, x :: xs, vs, h => by
    obtain ⟨v, r, rfl, h1, h2⟩ := h
    exact ⟨v, r.take n, rfl, h1, DRs.take n h2⟩
theorem DRs.drop {c : Bs} : ∀ (n : Nat) {xs : List D} {vs : List L2.V}, DRs K c xs vs → DRs K c (xs.drop n) (vs.drop n)
  | 0, _, _, h => h
  | n + 1, [], vs, h => by rw [show vs = [] from h]; rfl
  | n + 1, x :: xs, vs, h => by
    obtain ⟨v, r, rfl, h1, h2⟩ := h
    exact DRs.drop n h2
theorem DRs.set {c : Bs} {x : D} {v : L2.V} (r : DR K c x v) : ∀ (i : Nat) {xs : List D} {vs : List L2.V}, DRs K c xs vs → DRs K c (xs.set i x) (vs.set i v)
  | i, [], vs, h => by
    rw [show vs = [] from h]
    cases i <;> rfl
  | 0, y :: ys, vs, h => by
    obtain ⟨w, q, rfl, _, h2⟩ := h
    exact ⟨v, q, rfl, r, h2⟩
  | i + 1, y :: ys, vs, h => by
    obtain ⟨w, q, rfl, h1, h2⟩ := h
    exact ⟨w, q.set i v, rfl, h1, DRs.set r i h2⟩
theorem DRs.eraseIdx {c : Bs} : ∀ (i : Nat) {xs : List D} {vs : List L2.V}, DRs K c xs vs → DRs K c (xs.eraseIdx i) (vs.eraseIdx i)
  | i, [], vs, h => by
    rw [show vs = [] from h]
    cases i <;> rfl
  | 0, y :: ys, vs, h => by
    obtain ⟨w, q, rfl, _, h2⟩ := h
    exact h2
  | i + 1, y :: ys, vs, h => by
    obtain ⟨w, q, rfl, h1, h2⟩ := h
    exact ⟨w, q.eraseIdx i, rfl, h1, DRs.eraseIdx i h2⟩
theorem DRs.reverse {c : Bs} : ∀ {xs : List D} {vs : List L2.V}, DRs K c xs vs → DRs K c xs.reverse vs.reverse
  | [], vs, h => by rw [show vs = [] from h]; rfl
  | x :: xs, vs, h => by
    obtain ⟨v, r, rfl, h1, h2⟩ := h
    rw [List.reverse_cons, List.reverse_cons]
    exact DRs.append (DRs.reverse h2) ⟨v, [], rfl, h1, rfl⟩
theorem DRs.replicate {c : Bs} {xs : List D} {vs : List L2.V} (h : DRs K c xs vs) : ∀ n : Nat, DRs K c (List.replicate n xs).flatten (List.replicate n vs).flatten
  | 0 => rfl
  | n + 1 => by
    rw [List.replicate_succ, List.replicate_succ, List.flatten_cons, List.flatten_cons]
    exact DRs.append h (DRs.replicate h n)
end

/-- what the readings lean on: where the classes stand; the program and the world -/
structure Ct where
  cl : String → Addr
  pr : Program
  w : World
section
variable (K : PySem.W.Frag) (ct : Ct)
/-- the entries of a dict, at the layer's heap: its keys are whole numbers and texts; or tuples -/
def ORd (c : Bs) (a : Addr) (kvs : List (D × D)) : Prop :=
  (∃ ks : List (L2.Key × L2.V), c.H a = some (.dK ks) ∧ DRs K c (kvs.map (·.1)) (ks.map fun p => L2.kV p.1) ∧ DRs K c (kvs.map (·.2)) (ks.map (·.2))) ∨
  (∃ (fz : Option Obj) (xs : List KRow), c.H a = some (dN ct.pr ct.w fz a xs) ∧ DRs K c (kvs.map (·.1)) (xs.map fun x => .ref x.2.1) ∧ DRs K c (kvs.map (·.2)) (xs.map (·.2.2)) ∧ kvs.map (fun p => nk p.1) = xs.map (·.1) ∧ (∀ p, p ∈ kvs → tupK p.1 = true) ∧ kvs ≠ [])
/-- .. of a dict that is walked -/
def ORk (c : Bs) (a : Addr) (o : Obj) (kvs : List (D × D)) : Prop :=
  ∃ xs : List KRow, c.H a = some (dN ct.pr ct.w (some o) a xs) ∧ DRs K c (kvs.map (·.1)) (xs.map fun x => .ref x.2.1) ∧ DRs K c (kvs.map (·.2)) (xs.map (·.2.2)) ∧ kvs.map (fun p => nk p.1) = xs.map (·.1) ∧ (∀ p, p ∈ kvs → tupK p.1 = true) ∧ kvs ≠ []
theorem ORk.d {K : PySem.W.Frag} {ct : Ct} {c : Bs} {a : Addr} {o : Obj} {kvs : List (D × D)} (h : ORk K ct c a o kvs) : ORd K ct c a kvs := by
  obtain ⟨xs, h⟩ := h
  exact .inr ⟨some o, xs, h⟩
def OR (c : Bs) (a : Addr) : O → Prop
  | .lst xs => ∃ vs, c.H a = some (.lst vs) ∧ DRs K c xs vs
  | .fz xs => ∃ vs, L2.Rd c.H a (.lst vs) ∧ DRs K c xs vs
  | .dic kvs => ORd K ct c a kvs
  | .lck o kvs => ORk K ct c a o kvs
  | .ins cn fs => ∃ dx vs, c.H a = some (.ins (ct.cl cn) dx vs) ∧ vs.length ≤ 900 ∧ ∀ f : String, match fs.lookup f with
    | some d => ∃ v, vs.lookup (Str.ofString f) = some v ∧ DR K c d v
    | none => vs.lookup (Str.ofString f) = none
  | .exc _ _ => False
/-- the functional heap stands in the layer's -/
structure SRel (c : Bs) (h : Hp) : Prop where
  len : c.n = h.length
  inj : ∀ i j, i < c.n → j < c.n → c.μ i = c.μ j → i = j
  obj : ∀ (i : Nat) (o : O), h[i]? = some o → OR K ct c (c.μ i) o
def StoR (c : Bs) (s : Sto) (σ : L2.St) : Prop := s.length = σ.length ∧ ∀ (i : Nat) (x : D), s[i]? = some (some x) → ∃ v, σ[i]? = some (some v) ∧ DR K c x v
/-- a list that was just made stands at no place -/
def TVR (c : Bs) : TV → L2.V → Prop
  | .d x, v => DR K c x v
  | .l xs, v => ∃ a vs, v = .ref a ∧ c.H a = some (.lst vs) ∧ DRs K c xs vs ∧ ∀ i, i < c.n → c.μ i ≠ a
/-- it wasn't there -/
def TVF (c : Bs) : TV → L2.V → Prop
  | .d _, _ => True
  | .l _, v => ∀ a, v = .ref a → c.H a = none
theorem TVR.mono {K : PySem.W.Frag} {b c : Bs} (x : Ex K b c) {tv : TV} {v : L2.V} (h : TVR K b tv v) : TVR K c tv v := by
  cases tv with
  | d d => exact DR.mono x d v h
  | l xs =>
    obtain ⟨a, vs, e, h1, h2, h3⟩ := h
    exact ⟨a, vs, e, (x.stay a _ h1 h3).1, DRs.mono x xs vs h2, (x.stay a _ h1 h3).2⟩
theorem TVF.back {K : PySem.W.Frag} {b c : Bs} (x : Ex K b c) {tv : TV} {v : L2.V} (h : TVF c tv v) : TVF b tv v := by
  cases tv with
  | d d => trivial
  | l xs => exact fun a e => x.old a (h a e)
theorem StoR.mono {K : PySem.W.Frag} {b c : Bs} (x : Ex K b c) {s : Sto} {σ : L2.St} (h : StoR K b s σ) : StoR K c s σ :=
  ⟨h.1, fun i d e => (h.2 i d e).elim fun v q => ⟨v, q.1, DR.mono x d v q.2⟩⟩
/-- an exception -/
def EXR (c : Bs) (cls : Value) (d : Option Addr) (cn : String) (fs : List (String × D)) : Prop :=
  cls = .ref (ct.cl cn) ∧ match fs with
    | [] => True
    | _ => ∃ a vs, d = some a ∧ c.H a = some (.xd vs) ∧ ∀ f x, fs.lookup f = some x → ∃ v, vs.lookup (Str.ofString f) = some v ∧ DR K c x v
abbrev XS := String → List (String × D) → Sto → Hp → Prop
def WW (b0 : Bs) (xr : XS) : L2.WX := fun cls d σ H => ∃ (c : Bs) (s : Sto) (h : Hp) (cn : String) (fs : List (String × D)), c.H = H ∧ Ex K b0 c ∧ SRel K ct c h ∧ StoR K c s σ ∧ xr cn fs s h ∧ EXR K ct c cls d cn fs
/-- lifted readings -/
def LT (b0 : Bs) (t : Sto → Hp → (TV → Hp → Prop) → Prop) : L2.TE := fun σ H Q => ∃ (c : Bs) (h : Hp) (s : Sto) (P : TV → Hp → Prop), c.H = H ∧ Ex K b0 c ∧ SRel K ct c h ∧ StoR K c s σ ∧ t s h P ∧
  ∀ tv h', P tv h' → ∀ c' v, Ex K c c' → SRel K ct c' h' → TVR K c' tv v → TVF c tv v → Q v c'.H
def LB (b0 : Bs) (t : Sto → Hp → (TV → Hp → Prop) → Prop) : L2.TT := fun σ H Q => ∃ (c : Bs) (h : Hp) (s : Sto) (P : Bool → Hp → Prop), c.H = H ∧ Ex K b0 c ∧ SRel K ct c h ∧ StoR K c s σ ∧ t s h (tst P) ∧
  ∀ k h', P k h' → ∀ c', Ex K c c' → SRel K ct c' h' → Q k c'.H
def LA (b0 : Bs) (t : Sto → Hp → (List D → Hp → Prop) → Prop) : L2.TA := fun σ H Q => ∃ (c : Bs) (h : Hp) (s : Sto) (P : List D → Hp → Prop), c.H = H ∧ Ex K b0 c ∧ SRel K ct c h ∧ StoR K c s σ ∧ t s h P ∧
  ∀ xs h', P xs h' → ∀ c' vs, Ex K c c' → SRel K ct c' h' → DRs K c' xs vs → Q vs c'.H
def LG (b0 : Bs) (t : D → Sto → Hp → (Sto → Hp → Prop) → Prop) : L2.TG := fun v σ H Q => ∃ (c : Bs) (h : Hp) (s : Sto) (x : D) (P : Sto → Hp → Prop), c.H = H ∧ Ex K b0 c ∧ SRel K ct c h ∧ StoR K c s σ ∧ DR K c x v ∧ t x s h P ∧
  ∀ s' h', P s' h' → ∀ c' σ', Ex K c c' → SRel K ct c' h' → StoR K c' s' σ' → Q σ' c'.H
def LGs (b0 : Bs) (t : List D → Sto → Hp → (Sto → Hp → Prop) → Prop) : L2.TGs := fun vs σ H Q => ∃ (c : Bs) (h : Hp) (s : Sto) (xs : List D) (P : Sto → Hp → Prop), c.H = H ∧ Ex K b0 c ∧ SRel K ct c h ∧ StoR K c s σ ∧ DRs K c xs vs ∧ t xs s h P ∧
  ∀ s' h', P s' h' → ∀ c' σ', Ex K c c' → SRel K ct c' h' → StoR K c' s' σ' → Q σ' c'.H
def LS (b0 : Bs) (xr : XS) (t : En → Sto → Hp → Prop) : L2.TS := fun W σ H => ∃ (c : Bs) (h : Hp) (s : Sto) (n : En), n.xr = xr ∧ c.H = H ∧ Ex K b0 c ∧ SRel K ct c h ∧ StoR K c s σ ∧ t n s h ∧
  (∀ s' h', n.nx s' h' → ∀ c' σ', Ex K b0 c' → SRel K ct c' h' → StoR K c' s' σ' → W.nx σ' c'.H) ∧
  (∀ x h', n.rt x h' → ∀ c' v, Ex K b0 c' → SRel K ct c' h' → DR K c' x v → W.rt v c'.H) ∧
  (∀ s' h', n.bk s' h' → ∀ c' σ', Ex K b0 c' → SRel K ct c' h' → StoR K c' s' σ' → W.bk σ' c'.H) ∧
  (∀ s' h', n.ct s' h' → ∀ c' σ', Ex K b0 c' → SRel K ct c' h' → StoR K c' s' σ' → W.ct σ' c'.H)
end
end SL

set_option linter.all false
set_option autoImplicit false
set_option maxRecDepth 100000
set_option Elab.async false
/-! SLR1: the expressions' rules, lifted (1). -/
namespace SL
open PySem PySem.Spec PyProof.Rows L2

theorem peMono {X : L2.Cx} {e : Expr} {t u : TE} (h : PE X e u) (k : ∀ σ H Q, t σ H Q → u σ H Q) : PE X e t := ⟨fun pins s σ H Q I x => h.run pins s σ H Q I (k _ _ _ x)⟩
theorem ptMono {X : L2.Cx} {e : Expr} {t u : TT} (h : PT X e u) (k : ∀ σ H Q, t σ H Q → u σ H Q) : PT X e t := ⟨fun pins s σ H Q I x => h.run pins s σ H Q I (k _ _ _ x)⟩
theorem paMono {X : L2.Cx} {e : List Expr} {t u : TA} (h : PA X e u) (k : ∀ σ H Q, t σ H Q → u σ H Q) : PA X e t := ⟨fun pos pins s σ H Q I x => h.run pos pins s σ H Q I (k _ _ _ x)⟩
theorem pgMono {X : L2.Cx} {e : Expr} {t u : TG} (h : PG X e u) (k : ∀ v σ H Q, t v σ H Q → u v σ H Q) : PG X e t := ⟨fun pins s σ H v u Q I r x => h.run pins s σ H v u Q I r (k _ _ _ _ x)⟩
theorem pgsMono {X : L2.Cx} {e : List Expr} {t u : TGs} (h : PGs X e u) (k : ∀ v σ H Q, t v σ H Q → u v σ H Q) : PGs X e t := ⟨fun pins s σ H v u Q I r x => h.run pins s σ H v u Q I r (k _ _ _ _ x)⟩
theorem psMono {X : L2.Cx} {e : Stmt} {t u : TS} (h : PS X e u) (k : ∀ W σ H, t W σ H → u W σ H) : PS X e t := ⟨fun pins s σ H W I x => h.run pins s σ H W I (k _ _ _ x)⟩
theorem pssMono {X : L2.Cx} {e : List Stmt} {t u : TS} (h : PSs X e u) (k : ∀ W σ H, t W σ H → u W σ H) : PSs X e t := ⟨fun pins s σ H W I x => h.run pins s σ H W I (k _ _ _ x)⟩

section
variable {X : L2.Cx} {ct : Ct} {b0 : Bs}
abbrev FT := Sto → SL.Hp → (TV → SL.Hp → Prop) → Prop
/-- one reading behind another one -/
theorem LT.bind {K : PySem.W.Frag} {ta : FT} {k : TV → Sto → SL.Hp → (TV → SL.Hp → Prop) → Prop} {σ : L2.St} {H : L2.Hp} {Q : VK} {R : V → L2.Hp → Prop}
    (x : LT K ct b0 (fun s h Q => ta s h fun x h1 => k x s h1 Q) σ H Q)
    (step : ∀ (c0 c : Bs) (h : SL.Hp) (s : Sto) (tv : TV) (P : TV → SL.Hp → Prop) (v : V), Ex K b0 c → Ex K c0 c → SRel K ct c h → StoR K c s σ → TVR K c tv v → TVF c0 tv v → k tv s h P →
      (∀ tv h', P tv h' → ∀ c' w, Ex K c c' → SRel K ct c' h' → TVR K c' tv w → TVF c0 tv w → Q w c'.H) → R v c.H) : LT K ct b0 ta σ H R := by
  obtain ⟨c, h, s, P, e, ex, sr, st, t, post⟩ := x
  exact ⟨c, h, s, fun x h1 => k x s h1 P, e, ex, sr, st, t, fun tv h' hk c' v ex' sr' tr tf => step c c' h' s tv P v (ex.trans ex') ex' sr' (st.mono ex') tr tf hk
    fun tv2 h2 p2 c2 w ex2 sr2 tr2 tf2 => post tv2 h2 p2 c2 w (ex'.trans ex2) sr2 tr2 tf2⟩
/-- the last thing: nothing new -/
theorem LT.done {K : PySem.W.Frag} {c0 c : Bs} {h : SL.Hp} {tv : TV} {w : V} {Q : VK} {P : TV → SL.Hp → Prop} (ex : Ex K c0 c) (sr : SRel K ct c h) (tr : TVR K c tv w) (tf : TVF c0 tv w) (p : P tv h)
    (post : ∀ tv h', P tv h' → ∀ c' w, Ex K c c' → SRel K ct c' h' → TVR K c' tv w → TVF c0 tv w → Q w c'.H) : Q w c.H := post tv h p c w (Ex.refl c) sr tr tf

theorem r_cst {d : D} {v : V} {e : Expr} (hp : PE X e (tC v)) (hv : ∀ c, DR X.K c d v) : PE X e (LT X.K ct b0 fun s h Q => Q (.d d) h) :=
  peMono hp fun σ H Q x => by
    obtain ⟨c, h, s, P, rfl, ex, sr, st, t, post⟩ := x
    exact post _ h t c v (Ex.refl c) sr (hv c) trivial
theorem r_var {i : Nat} {e : Expr} (hp : PE X e (tVar i)) : PE X e (LT X.K ct b0 fun s h Q => match s[i]? with
    | some (some x) => Q (.d x) h
    | _ => False) :=
  peMono hp fun σ H Q x => by
    obtain ⟨c, h, s, P, rfl, ex, sr, st, t, post⟩ := x
    split at t
    · rename_i x hx
      obtain ⟨v, e1, e2⟩ := st.2 i x hx
      exact ⟨v, e1, post _ h t c v (Ex.refl c) sr e2 trivial⟩
    · exact t.elim
/-! ### a thing that was just made -/
theorem SRel.there {K : PySem.W.Frag} {c : Bs} {h : SL.Hp} (sr : SRel K ct c h) {i : Nat} (hi : i < c.n) : c.H (c.μ i) ≠ none := by
  have hl : i < h.length := by rw [← sr.len]; exact hi
  have o := sr.obj i h[i] (List.getElem?_eq_getElem hl)
  intro hn
  cases e : h[i] with
  | lst xs =>
    rw [e] at o
    obtain ⟨vs, q, _⟩ := o
    rw [hn] at q
    cases q
  | fz xs =>
    rw [e] at o
    obtain ⟨vs, q, _⟩ := o
    rcases q with q | ⟨u, q⟩ <;> rw [hn] at q <;> cases q
  | dic kvs =>
    rw [e] at o
    rcases o with ⟨ks, q, _⟩ | ⟨_, ks, q, _⟩ <;> rw [hn] at q <;> cases q
  | lck o' kvs =>
    rw [e] at o
    obtain ⟨ks, q, _⟩ := o
    rw [hn] at q
    cases q
  | ins cn fs =>
    rw [e] at o
    obtain ⟨dx, vs, q, _⟩ := o
    rw [hn] at q
    cases q
  | exc cn fs =>
    rw [e] at o
    exact o.elim
theorem sqT_upd {K : PySem.W.Frag} {H : L2.Hp} {p a : Addr} {o : HO} {xs : List V} (hp : ∀ ys, ¬ Rd H p (.tup ys)) (h : SqT K H a xs) : SqT K (upd H p o) a xs := by
  rcases h with h | h
  · have hne : a ≠ p := fun e => hp xs (e ▸ h)
    left
    unfold Rd
    rw [upd_ne hne]
    exact h
  · exact .inr h
theorem sqT_new {K : PySem.W.Frag} {H : L2.Hp} {p a : Addr} {o : HO} {xs : List V} (hp : H p = none) (h : SqT K H a xs) : SqT K (upd H p o) a xs :=
  sqT_upd (fun ys z => by rcases z with z | ⟨u, z⟩ <;> rw [hp] at z <;> cases z) h
/-- the same places, one thing more in the layer's heap -/
abbrev Bs.put (c : Bs) (p : Addr) (o : HO) : Bs := { c with H := upd c.H p o }
theorem Ex.new {K : PySem.W.Frag} {c : Bs} {p : Addr} {o : HO} (hp : c.H p = none) : Ex K c (c.put p o) where
  le := Nat.le_refl _
  mu := fun _ _ => rfl
  tup := fun a xs h => sqT_new hp h
  stay := fun a u h k => ⟨by rw [show (c.put p o).H a = c.H a from upd_ne (ne_of_none h hp)]; exact h, k⟩
  old := fun a h => by
    by_cases e : a = p
    · rw [e]; exact hp
    · rw [show (c.put p o).H a = c.H a from upd_ne e] at h; exact h
theorem OR.new {K : PySem.W.Frag} {c : Bs} {p a : Addr} {o : HO} {u : O} (hp : c.H p = none) (h : OR K ct c a u) : OR K ct (c.put p o) a u := by
  have up : ∀ b w, c.H b = some w → (c.put p o).H b = some w := fun b w q => by
    rw [show (c.put p o).H b = c.H b from upd_ne (ne_of_none q hp)]
    exact q
  have ex : Ex K c (c.put p o) := Ex.new hp
  cases u with
  | lst xs =>
    obtain ⟨vs, q, r⟩ := h
    exact ⟨vs, up _ _ q, DRs.mono ex _ _ r⟩
  | fz xs =>
    obtain ⟨vs, q, r⟩ := h
    refine ⟨vs, ?_, DRs.mono ex _ _ r⟩
    rcases q with q | ⟨w, q⟩
    · exact .inl (up _ _ q)
    · exact .inr ⟨w, up _ _ q⟩
  | dic kvs =>
    rcases h with ⟨ks, q, r1, r2⟩ | ⟨fz, ks, q, r1, r2, r3⟩
    · exact .inl ⟨ks, up _ _ q, DRs.mono ex _ _ r1, DRs.mono ex _ _ r2⟩
    · exact .inr ⟨fz, ks, up _ _ q, DRs.mono ex _ _ r1, DRs.mono ex _ _ r2, r3⟩
  | lck o kvs =>
    obtain ⟨ks, q, r1, r2, r3⟩ := h
    exact ⟨ks, up _ _ q, DRs.mono ex _ _ r1, DRs.mono ex _ _ r2, r3⟩
  | ins cn fs =>
    obtain ⟨dx, vs, q, l, r⟩ := h
    refine ⟨dx, vs, up _ _ q, l, fun f => ?_⟩
    have rf := r f
    split at rf
    · rename_i d hd
      obtain ⟨v, e1, e2⟩ := rf
      exact ⟨v, e1, DR.mono ex _ _ e2⟩
    · exact rf
  | exc cn fs => exact h.elim
theorem SRel.new {K : PySem.W.Frag} {c : Bs} {h : SL.Hp} {p : Addr} {o : HO} (sr : SRel K ct c h) (hp : c.H p = none) : SRel K ct (c.put p o) h :=
  ⟨sr.len, sr.inj, fun i u e => OR.new hp (sr.obj i u e)⟩
theorem SRel.apart {K : PySem.W.Frag} {c : Bs} {h : SL.Hp} {p : Addr} (sr : SRel K ct c h) (hp : c.H p = none) : ∀ i, i < c.n → c.μ i ≠ p := fun i hi e => sr.there hi (e ▸ hp)
/-- a new list, at no place -/
theorem done_list {K : PySem.W.Frag} {c0 c : Bs} {h : SL.Hp} {xs : List D} {vs : List V} {p : Addr} {Q : VK} {P : TV → SL.Hp → Prop} (ex : Ex K c0 c) (sr : SRel K ct c h) (r : DRs K c xs vs) (hp : c.H p = none) (q : P (.l xs) h)
    (post : ∀ tv h', P tv h' → ∀ c' w, Ex K c c' → SRel K ct c' h' → TVR K c' tv w → TVF c0 tv w → Q w c'.H) : Q (.ref p) (upd c.H p (.lst vs)) := by
  have e1 : Ex K c (c.put p (.lst vs)) := Ex.new hp
  refine post _ h q (c.put p (.lst vs)) (.ref p) e1 (sr.new hp) ⟨p, vs, rfl, upd_same, DRs.mono e1 _ _ r, sr.apart hp⟩ fun a e => ?_
  cases e
  exact ex.old p hp
/-- a new tuple -/
theorem done_tup {K : PySem.W.Frag} {c0 c : Bs} {h : SL.Hp} {xs : List D} {vs : List V} {p : Addr} {Q : VK} {P : TV → SL.Hp → Prop} (sr : SRel K ct c h) (r : DRs K c xs vs) (hp : c.H p = none) (q : P (.d (.tup xs)) h)
    (post : ∀ tv h', P tv h' → ∀ c' w, Ex K c c' → SRel K ct c' h' → TVR K c' tv w → TVF c0 tv w → Q w c'.H) : Q (.ref p) (upd c.H p (.tup vs)) := by
  have e1 : Ex K c (c.put p (.tup vs)) := Ex.new hp
  exact post _ h q (c.put p (.tup vs)) (.ref p) e1 (sr.new hp) ⟨p, vs, rfl, .inl (.inl upd_same), DRs.mono e1 _ _ r⟩ trivial
/-! ### a value is laid: a list that was just made gets a place -/
abbrev Bs.lay (c : Bs) (a : Addr) : Bs := { c with μ := fun i => if i < c.n then c.μ i else a, n := c.n + 1 }
theorem DR.lay {K : PySem.W.Frag} {c : Bs} {a : Addr} {d : D} {v : V} (h : DR K c d v) : DR K (c.lay a) d v := by
  -- places below n are the same
  have aux : (∀ d v, DR K c d v → DR K (c.lay a) d v) := by
    intro d
    refine D.rec (motive_1 := fun d => ∀ v, DR K c d v → DR K (c.lay a) d v) (motive_2 := fun xs => ∀ vs, DRs K c xs vs → DRs K (c.lay a) xs vs) ?_ ?_ ?_ ?_ ?_ ?_ ?_ ?_ d
    · intro v h; exact h
    · intro b v h; exact h
    · intro i v h; exact h
    · intro x v h; exact h
    · intro xs ih v h
      obtain ⟨b, vs, e, t, r⟩ := h
      exact ⟨b, vs, e, t, ih vs r⟩
    · intro l v h
      obtain ⟨h1, h2⟩ := h
      refine ⟨Nat.lt_succ_of_lt h1, ?_⟩
      rw [h2]
      show V.ref (c.μ l) = V.ref (if l < c.n then c.μ l else a)
      rw [if_pos h1]
    · intro vs h; exact h
    · intro x xs ih1 ih2 vs h
      obtain ⟨v, r, e, h1, h2⟩ := h
      exact ⟨v, r, e, ih1 v h1, ih2 r h2⟩
  exact aux d v h
theorem DRs.lay {K : PySem.W.Frag} {c : Bs} {a : Addr} : ∀ {xs : List D} {vs : List V}, DRs K c xs vs → DRs K (c.lay a) xs vs
  | [], _, h => h
  | x :: xs, vs, h => by
    obtain ⟨v, r, e, h1, h2⟩ := h
    exact ⟨v, r, e, h1.lay, DRs.lay h2⟩
theorem OR.lay {K : PySem.W.Frag} {c : Bs} {a b : Addr} {u : O} (h : OR K ct c b u) : OR K ct (c.lay a) b u := by
  cases u with
  | lst xs =>
    obtain ⟨vs, q, r⟩ := h
    exact ⟨vs, q, DRs.lay r⟩
  | fz xs =>
    obtain ⟨vs, q, r⟩ := h
    exact ⟨vs, q, DRs.lay r⟩
  | dic kvs =>
    rcases h with ⟨ks, q, r1, r2⟩ | ⟨fz, ks, q, r1, r2, r3⟩
    · exact .inl ⟨ks, q, DRs.lay r1, DRs.lay r2⟩
    · exact .inr ⟨fz, ks, q, DRs.lay r1, DRs.lay r2, r3⟩
  | lck o kvs =>
    obtain ⟨ks, q, r1, r2, r3⟩ := h
    exact ⟨ks, q, DRs.lay r1, DRs.lay r2, r3⟩
  | ins cn fs =>
    obtain ⟨dx, vs, q, l, r⟩ := h
    refine ⟨dx, vs, q, l, fun f => ?_⟩
    have rf := r f
    split at rf
    · rename_i d hd
      obtain ⟨v, e1, e2⟩ := rf
      exact ⟨v, e1, e2.lay⟩
    · exact rf
  | exc cn fs => exact h.elim
theorem lay_old {c : Bs} {a : Addr} {i : Nat} (h : i < c.n) : (c.lay a).μ i = c.μ i := if_pos h
theorem lay_last {c : Bs} {a : Addr} : (c.lay a).μ c.n = a := if_neg (Nat.lt_irrefl _)
theorem SRel.lay {K : PySem.W.Frag} {c : Bs} {h : SL.Hp} {a : Addr} {u : O} (sr : SRel K ct c h) (ha : ∀ i, i < c.n → c.μ i ≠ a) (o : OR K ct (c.lay a) a u) : SRel K ct (c.lay a) (h ++ [u]) where
  len := by
    show c.n + 1 = _
    rw [List.length_append, sr.len]
    rfl
  inj := fun i j hi hj e => by
    have hi' : i < c.n + 1 := hi
    have hj' : j < c.n + 1 := hj
    by_cases h1 : i < c.n
    · by_cases h2 : j < c.n
      · rw [lay_old h1, lay_old h2] at e
        exact sr.inj i j h1 h2 e
      · have : j = c.n := by omega
        subst this
        rw [lay_old h1, lay_last] at e
        exact absurd e (ha i h1)
    · have : i = c.n := by omega
      subst this
      by_cases h2 : j < c.n
      · rw [lay_old h2, lay_last] at e
        exact absurd e.symm (ha j h2)
      · omega
  obj := fun i w e => by
    by_cases h1 : i < h.length
    · rw [List.getElem?_append_left h1] at e
      rw [lay_old (by rw [sr.len]; exact h1)]
      exact OR.lay (sr.obj i w e)
    · rw [List.getElem?_append_right (by omega)] at e
      have h2 : i - h.length = 0 := by
        by_cases z : i - h.length = 0
        · exact z
        · rw [List.getElem?_eq_none (by simp; omega)] at e
          cases e
      rw [h2] at e
      simp at e
      subst e
      have : i = c.n := by rw [sr.len]; omega
      rw [this, lay_last]
      exact o
/-- from b: what wasn't there at b may be laid -/
theorem Ex.lay {K : PySem.W.Frag} {b c : Bs} {a : Addr} (ex : Ex K b c) (ha : b.H a = none) : Ex K b (c.lay a) where
  le := Nat.le_succ_of_le ex.le
  mu := fun i hi => by rw [lay_old (Nat.lt_of_lt_of_le hi ex.le)]; exact ex.mu i hi
  tup := ex.tup
  stay := fun p o h k => by
    obtain ⟨h1, k1⟩ := ex.stay p o h k
    refine ⟨h1, fun i hi => ?_⟩
    by_cases z : i < c.n
    · rw [lay_old z]; exact k1 i z
    · have hi' : i < c.n + 1 := hi
      have : i = c.n := by omega
      subst this
      rw [lay_last]
      exact (ne_of_none h ha).symm
  old := ex.old
/-- a reading whose value is laid -/
theorem LT.laid {K : PySem.W.Frag} {c0 c : Bs} {h : SL.Hp} {tv : TV} {v : V} {P : D → SL.Hp → Prop} (ex : Ex K c0 c) (sr : SRel K ct c h) (tr : TVR K c tv v) (tf : TVF c0 tv v) (p : SL.lay P tv h) :
    ∃ (c' : Bs) (h' : SL.Hp) (d : D), Ex K c0 c' ∧ SRel K ct c' h' ∧ DR K c' d v ∧ P d h' ∧ c'.H = c.H := by
  cases tv with
  | d d => exact ⟨c, h, d, ex, sr, tr, p, rfl⟩
  | l xs =>
    obtain ⟨a, vs, rfl, h1, h2, h3⟩ := tr
    refine ⟨c.lay a, (h ++ [O.lst xs] : SL.Hp), .ref h.length, ex.lay (tf a rfl), sr.lay (u := .lst xs) h3 ⟨vs, h1, DRs.lay h2⟩, ⟨?_, ?_⟩, p, rfl⟩
    · show h.length < c.n + 1
      rw [sr.len]
      omega
    · rw [← sr.len, lay_last]
end
end SL

set_option linter.all false
set_option autoImplicit false
set_option maxRecDepth 100000
set_option Elab.async false
/-! SLR2: reading as data; operators. -/
namespace SL
open PySem PySem.Spec PyProof.Rows L2
section
variable {ct : Ct} {K : PySem.W.Frag}
/-! ### reading as data -/
theorem dpAll_of {f : D → Option PyData} {c : Bs} (ih : ∀ d p v, f d = some p → DR K c d v → Dp K c.H v p) : ∀ (xs : List D) (ps : List PyData) (vs : List V), rdAll f xs = some ps → DRs K c xs vs → DpAll K c.H vs ps
  | [], ps, vs, e, r => by
    rw [show vs = [] from r]
    simp only [rdAll, Option.some.injEq] at e
    rw [← e]
    exact .nil
  | x :: xs, ps, vs, e, r => by
    obtain ⟨v, w, rfl, r1, r2⟩ := r
    simp only [rdAll] at e
    split at e
    · rename_i p qs h1 h2
      cases e
      exact .cons (ih x p v h1 r1) (dpAll_of ih xs qs w h2 r2)
    · cases e
theorem SqL.ofRd {H : L2.Hp} {a : Addr} {xs : List V} (h : Rd H a (.lst xs)) : SqL K H a xs := .inl h
theorem dp_of {c : Bs} {h : SL.Hp} (sr : SRel K ct c h) : ∀ (n : Nat) (d : D) (p : PyData) (v : V), rd h n d = some p → DR K c d v → Dp K c.H v p := by
  intro n
  induction n with
  | zero =>
    intro d p v e r
    cases d with
    | non => cases e; rw [show v = .non from r]; exact .non
    | bl b => cases e; rw [show v = .bl b from r]; exact .bl b
    | int i => cases e; rw [show v = .int i from r]; exact .int i
    | str x => cases e; rw [show v = .str (tS x) from r]; exact .str _
    | tup xs => cases e
    | ref l => cases e
  | succ n ih =>
    intro d p v e r
    cases d with
    | non => cases e; rw [show v = .non from r]; exact .non
    | bl b => cases e; rw [show v = .bl b from r]; exact .bl b
    | int i => cases e; rw [show v = .int i from r]; exact .int i
    | str x => cases e; rw [show v = .str (tS x) from r]; exact .str _
    | tup xs =>
      obtain ⟨a, vs, rfl, t, rs⟩ := r
      simp only [rd] at e
      obtain ⟨ps, h1, h2⟩ := Option.map_eq_some_iff.mp e
      rw [← h2]
      exact .tup t (dpAll_of ih xs ps vs h1 rs)
    | ref l =>
      obtain ⟨hl, rfl⟩ := r
      simp only [rd] at e
      split at e
      · rename_i xs hx
        obtain ⟨vs, q, rs⟩ := sr.obj l _ hx
        obtain ⟨ps, h1, h2⟩ := Option.map_eq_some_iff.mp e
        rw [← h2]
        exact .lst (SqL.of q) (dpAll_of ih xs ps vs h1 rs)
      · rename_i xs hx
        obtain ⟨vs, q, rs⟩ := sr.obj l _ hx
        obtain ⟨ps, h1, h2⟩ := Option.map_eq_some_iff.mp e
        rw [← h2]
        exact .lst (SqL.ofRd q) (dpAll_of ih xs ps vs h1 rs)
      · cases e
theorem dpL_of {c : Bs} {h : SL.Hp} (sr : SRel K ct c h) {xs : List D} {ps : List PyData} {vs : List V} (e : rdL h xs = some ps) (r : DRs K c xs vs) : DpAll K c.H vs ps := dpAll_of (dp_of sr 60) xs ps vs e r
theorem dpT_of {c : Bs} {h : SL.Hp} (sr : SRel K ct c h) {tv : TV} {p : PyData} {v : V} (e : rdT h tv = some p) (r : TVR K c tv v) : Dp K c.H v p := by
  cases tv with
  | d d => exact dp_of sr 60 d p v e r
  | l xs =>
    obtain ⟨a, vs, rfl, q, rs, _⟩ := r
    obtain ⟨ps, h1, h2⟩ := Option.map_eq_some_iff.mp (show (rdL h xs).map PyData.list = some p from e)
    rw [← h2]
    exact .lst (SqL.of q) (dpL_of sr h1 rs)
/-- what is read so has no dict, and is not too deep -/
theorem rdAll_ok {f : D → Option PyData} {n : Nat} (ih : ∀ d p, f d = some p → p.plain = true ∧ p.depth ≤ n) : ∀ (xs : List D) (ps : List PyData), rdAll f xs = some ps → PyData.plainAll ps = true ∧ PyData.depthAll ps ≤ n
  | [], ps, e => by
    simp only [rdAll, Option.some.injEq] at e
    rw [← e]
    exact ⟨rfl, Nat.zero_le _⟩
  | x :: xs, ps, e => by
    simp only [rdAll] at e
    split at e
    · rename_i p qs h1 h2
      cases e
      obtain ⟨a1, a2⟩ := ih x p h1
      obtain ⟨b1, b2⟩ := rdAll_ok ih xs qs h2
      refine ⟨by rw [PyData.plainAll, a1, b1]; rfl, ?_⟩
      rw [PyData.depthAll]
      exact Nat.max_le.mpr ⟨a2, b2⟩
    · cases e
theorem rd_ok (h : SL.Hp) : ∀ (n : Nat) (d : D) (p : PyData), rd h n d = some p → p.plain = true ∧ p.depth ≤ n := by
  intro n
  induction n with
  | zero =>
    intro d p e
    cases d with
    | non => cases e; exact ⟨rfl, Nat.le_refl _⟩
    | bl b => cases e; exact ⟨rfl, Nat.le_refl _⟩
    | int i => cases e; exact ⟨rfl, Nat.le_refl _⟩
    | str x => cases e; exact ⟨rfl, Nat.le_refl _⟩
    | tup xs => cases e
    | ref l => cases e
  | succ n ih =>
    intro d p e
    cases d with
    | non => cases e; exact ⟨rfl, Nat.zero_le _⟩
    | bl b => cases e; exact ⟨rfl, Nat.zero_le _⟩
    | int i => cases e; exact ⟨rfl, Nat.zero_le _⟩
    | str x => cases e; exact ⟨rfl, Nat.zero_le _⟩
    | tup xs =>
      simp only [rd] at e
      obtain ⟨ps, h1, h2⟩ := Option.map_eq_some_iff.mp e
      rw [← h2]
      obtain ⟨a, b⟩ := rdAll_ok ih xs ps h1
      exact ⟨by rw [PyData.plain]; exact a, by rw [PyData.depth]; omega⟩
    | ref l =>
      simp only [rd] at e
      split at e
      · obtain ⟨ps, h1, h2⟩ := Option.map_eq_some_iff.mp e
        rw [← h2]
        obtain ⟨a, b⟩ := rdAll_ok ih _ ps h1
        exact ⟨by rw [PyData.plain]; exact a, by rw [PyData.depth]; omega⟩
      · obtain ⟨ps, h1, h2⟩ := Option.map_eq_some_iff.mp e
        rw [← h2]
        obtain ⟨a, b⟩ := rdAll_ok ih _ ps h1
        exact ⟨by rw [PyData.plain]; exact a, by rw [PyData.depth]; omega⟩
      · cases e
theorem rdL_ok {h : SL.Hp} {xs : List D} {ps : List PyData} (e : rdL h xs = some ps) : PyData.plainAll ps = true ∧ PyData.depthAll ps ≤ 60 := rdAll_ok (rd_ok h 60) xs ps e
theorem rdT_ok {h : SL.Hp} {tv : TV} {p : PyData} (e : rdT h tv = some p) : p.plain = true ∧ p.depth ≤ 61 := by
  cases tv with
  | d d =>
    obtain ⟨a, b⟩ := rd_ok h 60 d p e
    exact ⟨a, by omega⟩
  | l xs =>
    obtain ⟨ps, h1, h2⟩ := Option.map_eq_some_iff.mp (show (rdL h xs).map PyData.list = some p from e)
    rw [← h2]
    obtain ⟨a, b⟩ := rdL_ok h1
    exact ⟨by rw [PyData.plain]; exact a, by rw [PyData.depth]; omega⟩
/-! ### operators by values -/
def RO (K : PySem.W.Frag) (ct : Ct) (g : SL.Hp → TV → TV → (TV → Prop) → Prop) : R2 := fun x y H Q => ∃ (c : Bs) (h : SL.Hp) (dx dy : TV) (P : TV → Prop), c.H = H ∧ SRel K ct c h ∧ TVR K c dx x ∧ TVR K c dy y ∧ g h dx dy P ∧
  ∀ tv, P tv → ∀ c' w, Ex K c c' → SRel K ct c' h → TVR K c' tv w → TVF c tv w → Q w c'.H
def RB (K : PySem.W.Frag) (ct : Ct) (g : SL.Hp → TV → TV → (Bool → Prop) → Prop) : R2 := fun x y H Q => ∃ (c : Bs) (h : SL.Hp) (dx dy : TV) (P : Bool → Prop), c.H = H ∧ SRel K ct c h ∧ TVR K c dx x ∧ TVR K c dy y ∧ g h dx dy P ∧
  ∀ b, P b → Q (.bl b) H
theorem OpR.mono {X : Cx} {f : Value → Value → Sem Value} {r q : R2} (h : OpR X f q) (k : ∀ x y H Q, r x y H Q → q x y H Q) : OpR X f r := fun pins s σ H x y v u Q I rx ry p => h pins s σ H x y v u Q I rx ry (k _ _ _ _ p)
end
section
variable {X : L2.Cx} {ct : Ct} {b0 : Bs} {a b e : Expr}
/-- two readings, then an operation on both -/
theorem r_op {ta tb : FT} {r : R2} {g : SL.Hp → TV → TV → (TV → Prop) → Prop} (hp : ∀ {ta tb : TE}, PE X a ta → PE X b tb → PE X e (tOp (RO X.K ct g) ta tb))
    (ha : PE X a (LT X.K ct b0 ta)) (hb : PE X b (LT X.K ct b0 tb)) : PE X e (LT X.K ct b0 fun s h Q => ta s h fun x h1 => tb s h1 fun y h2 => g h2 x y fun z => Q z h2) :=
  peMono (hp ha hb) fun σ H Q x => LT.bind x fun c0 c h s tv P v ex0 ex sr st tr tf k post =>
    ⟨c, h, s, fun y h2 => g h2 tv y fun z => P z h2, rfl, ex0, sr, st, k, fun y h2 k2 c2 w ex2 sr2 tr2 tf2 => ⟨c2, h2, tv, y, fun z => P z h2, rfl, sr2, tr.mono ex2, tr2, k2, fun z pz c3 w3 ex3 sr3 tr3 tf3 =>
      post z h2 pz c3 w3 (ex2.trans ex3) sr3 tr3 ((tf3.back ex2).back ex)⟩⟩
theorem cmp_core {ta tb : FT} {g : SL.Hp → TV → TV → (Bool → Prop) → Prop} {σ : L2.St} {H : L2.Hp} {P : TV → SL.Hp → Prop} {Q : VK} {c : Bs} {h : SL.Hp} {s : Sto} (e : c.H = H) (ex0 : Ex X.K b0 c) (sr : SRel X.K ct c h) (st : StoR X.K c s σ)
    (t : ta s h fun x h1 => tb s h1 fun y h2 => g h2 x y fun k => P (.d (.bl k)) h2) (post : ∀ k h', P (.d (.bl k)) h' → ∀ c', Ex X.K c c' → SRel X.K ct c' h' → Q (.bl k) c'.H) : tOp (RB X.K ct g) (LT X.K ct b0 ta) (LT X.K ct b0 tb) σ H Q :=
  ⟨c, h, s, fun x h1 => tb s h1 fun y h2 => g h2 x y fun k => P (.d (.bl k)) h2, e, ex0, sr, st, t, fun x h1 k1 c1 v ex1 sr1 tr1 tf1 =>
    ⟨c1, h1, s, fun y h2 => g h2 x y fun k => P (.d (.bl k)) h2, rfl, ex0.trans ex1, sr1, st.mono ex1, k1, fun y h2 k2 c2 w ex2 sr2 tr2 tf2 =>
      ⟨c2, h2, x, y, fun k => P (.d (.bl k)) h2, rfl, sr2, tr1.mono ex2, tr2, k2, fun k pk => post k h2 pk c2 (ex1.trans ex2) sr2⟩⟩⟩
theorem r_cmp {ta tb : FT} {g : SL.Hp → TV → TV → (Bool → Prop) → Prop} (hp : ∀ {ta tb : TE}, PE X a ta → PE X b tb → PE X e (tOp (RB X.K ct g) ta tb))
    (ha : PE X a (LT X.K ct b0 ta)) (hb : PE X b (LT X.K ct b0 tb)) : PE X e (LT X.K ct b0 fun s h Q => ta s h fun x h1 => tb s h1 fun y h2 => g h2 x y fun k => Q (.d (.bl k)) h2) :=
  peMono (hp ha hb) fun σ H Q x => by
    obtain ⟨c, h, s, P, e, ex, sr, st, t, post⟩ := x
    exact cmp_core e ex sr st t fun k h' p c' ex' sr' => post _ h' p c' (.bl k) ex' sr' rfl trivial
theorem r_cmpT {ta tb : FT} {g : SL.Hp → TV → TV → (Bool → Prop) → Prop} (hp : ∀ {ta tb : TE}, PE X a ta → PE X b tb → PT X e (tTest (tOp (RB X.K ct g) ta tb)))
    (ha : PE X a (LT X.K ct b0 ta)) (hb : PE X b (LT X.K ct b0 tb)) : PT X e (LB X.K ct b0 fun s h Q => ta s h fun x h1 => tb s h1 fun y h2 => g h2 x y fun k => Q (.d (.bl k)) h2) :=
  ptMono (hp ha hb) fun σ H Q x => by
    obtain ⟨c, h, s, P, e, ex, sr, st, t, post⟩ := x
    exact cmp_core (P := tst P) e ex sr st t fun k h' p c' ex' sr' => ⟨k, rfl, post k h' p c' ex' sr'⟩
end
end SL

set_option linter.all false
set_option autoImplicit false
set_option maxRecDepth 100000
set_option maxHeartbeats 4000000
set_option Elab.async false
/-! SLTup: tuple * int, any int. -/
namespace SL
open PySem PySem.Spec PyProof.Rows L2
theorem tmul_same (l : Addr) (items : Array Value) (n : Nat) (dd : Option Addr) (sl : Array (Option Value)) (x : Int) (u : Tok) (c0 : (decide (x < -(2 ^ 63)) || decide (x ≥ 2 ^ 63)) = false) (c1 : (items.isEmpty || x == 1) = true) :
    Meets (Builtin.«tuple.__mul__» ⟨[.ref l, .int x u], []⟩) (fun _ R s => s.heap.get? l = some { cls := .type "tuple", dict := dd, data := .seq items n, slots := sl } ∧ R (.ok (.ret (Value.ref l))) s) :=
  .of_wp fun prog w A R s h => by
    obtain ⟨hp, g, d, tk, os⟩ := s
    obtain ⟨hl, h⟩ := h
    have f1 := AutoSeq1.idx_int
    wp_walk using wpAny_loadPart' hl
    repeat (first
      | (refine wpAny_ite_false (decide_eq_false (by rw [c0]; exact Bool.false_ne_true)) ?_; wp_walk using wpAny_loadPart' hl)
      | (refine wpAny_ite_true (decide_eq_true c1) ?_; wp_walk using wpAny_loadPart' hl))
    exact ⟨_, rfl, h⟩
theorem tmul_none (l : Addr) (items : Array Value) (n : Nat) (dd : Option Addr) (sl : Array (Option Value)) (x : Int) (u : Tok) (c0 : (decide (x < -(2 ^ 63)) || decide (x ≥ 2 ^ 63)) = false) (c1 : (items.isEmpty || x == 1) = false) (c2 : (decide (x ≤ 0) || items.isEmpty) = true) :
    Meets (Builtin.«tuple.__mul__» ⟨[.ref l, .int x u], []⟩) (fun _ R s => s.heap.get? l = some { cls := .type "tuple", dict := dd, data := .seq items n, slots := sl } ∧
      R (.ok (.ret (Value.ref s.heap.objs.size))) { s with heap := s.heap.push { cls := Value.type "tuple", data := Data.seq #[] }, toks := s.toks }) :=
  .of_wp fun prog w A R s h => by
    obtain ⟨hp, g, d, tk, os⟩ := s
    obtain ⟨hl, h⟩ := h
    have f1 := AutoSeq1.idx_int
    wp_walk using wpAny_loadPart' hl
    repeat (first
      | (refine wpAny_ite_false (decide_eq_false (by rw [c0]; exact Bool.false_ne_true)) ?_; wp_walk using wpAny_loadPart' hl)
      | (refine wpAny_ite_false (decide_eq_false (by rw [c1]; exact Bool.false_ne_true)) ?_; wp_walk using wpAny_loadPart' hl)
      | (refine wpAny_ite_true (decide_eq_true c2) ?_; wp_walk using wpAny_loadPart' hl))
    exact ⟨_, rfl, h⟩
def rTM (K : PySem.W.Frag) : R2 := fun x y H Q => ∃ l k xs, x = .ref l ∧ y = .int k ∧ SqT K H l xs ∧ -(2 ^ 63) ≤ k ∧ k < 2 ^ 63 ∧ xs.length * k.toNat ≤ sizeLine ∧
  ((xs = [] ∨ k = 1) → Q (.ref l) H) ∧ (xs ≠ [] → k ≠ 1 → ∀ p, H p = none → Q (.ref p) (upd H p (.tup (List.replicate k.toNat xs).flatten)))
theorem op_TM {X : Cx} : OpR X (binaryOp .Mult) (rTM X.K) := by
  intro pins s σ H x y v u Q I rx ry h
  obtain ⟨l, k, xs, rfl, rfl, hT, b1, b2, hz, q1, q2⟩ := h
  cases rx
  obtain ⟨t, rfl⟩ := ry
  obtain ⟨its, r, ⟨⟨cls, dd, data, sl⟩, ho, hc, n, hd⟩, hs⟩ := I.tuple hT
  simp only at hc hd
  subst hc hd
  have hle : its.length = xs.length := r.length.symm
  have hsz0 : its.toArray.size = xs.length := by rw [List.size_toArray, hle]
  have c0 : (decide (k < -(2 ^ 63)) || decide (k ≥ 2 ^ 63)) = false := by
    rw [decide_eq_false (by omega), decide_eq_false (by omega)] <;> rfl
  have hem : its.toArray.isEmpty = true ↔ xs = [] := by
    cases its with
    | nil => exact ⟨fun _ => List.eq_nil_of_length_eq_zero hle.symm, fun _ => rfl⟩
    | cons a b => exact ⟨fun h => (by cases h), fun e => by rw [e] at hle; cases hle⟩
  by_cases h1 : xs = [] ∨ k = 1
  · have c1 : (its.toArray.isEmpty || k == 1) = true := by
      rcases h1 with e | e
      · rw [hem.mpr e]; rfl
      · rw [e]; cases its.toArray.isEmpty <;> rfl
    exact wpAny_binaryOp_repeat_ref (T := "tuple") (U := "int") (by decide) ⟨_, ho, rfl⟩ (fun s' => typeIs_int s' k t) noFill_tuple_mul F.fills_int_mul F.slot_int_rmul repeat_tuple F.slot_int_index.lookup
      (call_meets F.slot_int_rmul (typeIs_int s k t) F.entry_int_rmul (F.args_int_rmul_2 _ _) (int_rmul_tuple k t l its.toArray n dd sl)
        ⟨ho, rfl, ⟨_, ho, rfl⟩, call_meets F.slot_tuple_mul ⟨_, ho, rfl⟩ F.entry_tuple_mul (F.args_tuple_mul_2 _ _) (tmul_same l its.toArray n dd sl k t c0 c1) ⟨ho, .ref l, H, I, rfl, q1 h1⟩⟩)
  · have hne : xs ≠ [] := fun e => h1 (.inl e)
    have hk : k ≠ 1 := fun e => h1 (.inr e)
    have hi : its.toArray.isEmpty = false := by
      cases e : its.toArray.isEmpty with
      | false => rfl
      | true => exact absurd (hem.mp e) hne
    have c1 : (its.toArray.isEmpty || k == 1) = false := by
      rw [hi, Bool.false_or]
      exact beq_eq_false_iff_ne.mpr hk
    by_cases h0 : k ≤ 0
    · have c2 : (decide (k ≤ 0) || its.toArray.isEmpty) = true := by rw [decide_eq_true h0]; rfl
      have ez : k.toNat = 0 := by omega
      refine wpAny_binaryOp_repeat_ref (T := "tuple") (U := "int") (by decide) ⟨_, ho, rfl⟩ (fun s' => typeIs_int s' k t) noFill_tuple_mul F.fills_int_mul F.slot_int_rmul repeat_tuple F.slot_int_index.lookup
        (call_meets F.slot_int_rmul (typeIs_int s k t) F.entry_int_rmul (F.args_int_rmul_2 _ _) (int_rmul_tuple k t l its.toArray n dd sl)
          ⟨ho, rfl, ⟨_, ho, rfl⟩, call_meets F.slot_tuple_mul ⟨_, ho, rfl⟩ F.entry_tuple_mul (F.args_tuple_mul_2 _ _) (tmul_none l its.toArray n dd sl k t c0 c1 c2) ⟨ho, ?_⟩⟩)
      refine ⟨.ref s.heap.objs.size, _, I.laid (t' := s.toks) (o := .tup (List.replicate k.toNat xs).flatten) (fun b ob q => Heap.get?_push_of_some _ q) (Nat.le_refl _) ?_, rfl, q2 hne hk _ (I.hok.fresh (Nat.le_refl _))⟩
      rw [ez]
      exact ⟨Nat.zero_le _, [], .nil, IsTup.new _ _⟩
    · have hm : its.toArray.size * k.toNat ≤ 16777216 := by
        rw [hsz0, ← sizeLine_eq]
        exact hz
      have hm2 : ((its.toArray.size : Nat) : Int) * k ≤ 16777216 := by
        have e1 : k = ((k.toNat : Nat) : Int) := by omega
        rw [e1, ← Int.natCast_mul]
        generalize its.toArray.size * k.toNat = z at hm ⊢
        omega
      have flen : (List.replicate k.toNat its).flatten.length ≤ sizeLine := by
        rw [PyProof.Rows.lm_len_rep_flat, hle, Nat.mul_comm]
        exact hz
      have c2 : (decide (k ≤ 0) || its.toArray.isEmpty) = false := by
        rw [hi, Bool.or_false]
        exact decide_eq_false h0
      have c4 : Builtin.Tuple.tupleTooMany (((its.toArray.size : Nat) : Int) * k) = false := by
        unfold Builtin.Tuple.tupleTooMany
        rw [sizeLine_eq]
        exact decide_eq_false (by omega)
      refine wpAny_binaryOp_repeat_ref (T := "tuple") (U := "int") (by decide) ⟨_, ho, rfl⟩ (fun s' => typeIs_int s' k t) noFill_tuple_mul F.fills_int_mul F.slot_int_rmul repeat_tuple F.slot_int_index.lookup
        (call_meets F.slot_int_rmul (typeIs_int s k t) F.entry_int_rmul (F.args_int_rmul_2 _ _) (int_rmul_tuple k t l its.toArray n dd sl)
          ⟨ho, rfl, ⟨_, ho, rfl⟩, call_meets F.slot_tuple_mul ⟨_, ho, rfl⟩ F.entry_tuple_mul (F.args_tuple_mul_2 _ _) (tuple_mulW l its.toArray n dd sl k t c0 c1 c2 (by omega) c4 (by rw [size_rep, List.size_toArray]; exact flen)) ⟨ho, ?_⟩⟩)
      rw [size_rep]
      refine ⟨.ref s.heap.objs.size, _, I.laid (t' := s.toks) (o := .tup (List.replicate k.toNat xs).flatten) (fun b ob q => Heap.get?_push_of_some _ q) (Nat.le_refl _) ?_, rfl, q2 hne hk _ (I.hok.fresh (Nat.le_refl _))⟩
      exact ⟨by rw [PyProof.Rows.lm_len_rep_flat, Nat.mul_comm]; exact hz, _, r.rep k.toNat, IsTup.new _ _⟩
end SL

set_option linter.all false
set_option autoImplicit false
set_option maxRecDepth 100000
set_option Elab.async false
/-! SLDic: dicts: what they hold at a key; a key is stored. -/
namespace SL
open PySem PySem.Spec PyProof.Rows L2
section
variable {X : L2.Cx} {ct : Ct} {pins : List (Addr × Obj)} {σ : L2.St} {s : Shared} {c : Bs}
/-! ### a tree as a key -/
mutual
theorem nested_is (I : L2.Inv X pins σ c.H s) : ∀ (d : D) (n : Nat) (v : V) (u : Value), isKey n d = true → DR X.K c d v → RelV v u → NestedIs s.heap (nk d) u
  | .non, _, v, u, _, r, e => by rw [show v = .non from r] at e; cases e; exact .none
  | .bl b, _, v, u, _, r, e => by rw [show v = .bl b from r] at e; cases e; exact .bool rfl
  | .int i, _, v, u, _, r, e => by
    rw [show v = .int i from r] at e
    obtain ⟨t, rfl⟩ := e
    exact .int i t
  | .str x, _, v, u, _, r, e => by
    rw [show v = .str (tS x) from r] at e
    obtain ⟨t, rfl⟩ := e
    exact .text _ t
  | .tup xs, n, v, u, k, r, e => by
    obtain ⟨a, vs, rfl, t, rs⟩ := r
    cases e
    obtain ⟨its, rv, ⟨o, ho, hc, m, hd⟩, _⟩ := I.tuple t
    obtain ⟨j, rfl, hj⟩ := isKey_tup k
    exact .tup ho hc hd (by simpa using nested_all I xs j vs its hj rs rv)
  | .ref l, n, v, u, k, _, _ => by cases n <;> cases k
theorem nested_all (I : L2.Inv X pins σ c.H s) : ∀ (ds : List D) (n : Nat) (vs : List V) (us : List Value), (∀ d, d ∈ ds → isKey n d = true) → DRs X.K c ds vs → Vals vs us → NestedAll s.heap (nks ds) us
  | [], _, vs, us, _, r, e => by rw [show vs = [] from r] at e; cases e; exact .nil
  | d :: ds, n, vs, us, k, r, e => by
    obtain ⟨v, w, rfl, r1, r2⟩ := r
    cases e with
    | cons e1 e2 => exact .cons (nested_is I d n v _ (k d (List.mem_cons_self ..)) r1 e1) (nested_all I ds n w _ (fun x hx => k x (List.mem_cons_of_mem _ hx)) r2 e2)
end
abbrev nKind (X : L2.Cx) : HeapKind X.prog X.w NestedKey := nestedKind X.prog X.w
theorem key_is (I : L2.Inv X pins σ c.H s) {d : D} {a : Addr} (k : tupK d = true) (r : DR X.K c d (.ref a)) : (nKind X).is s.heap (nk d) a := by
  obtain ⟨xs, e, k8⟩ := tupK_of k
  exact ⟨nested_is I d 8 _ _ k8 r rfl, key_depth 8 d k8⟩
/-! ### rows -/
abbrev YRow := NestedKey × Addr × Value
abbrev RYs : List KRow → List YRow → Prop := Paired fun (x : KRow) (y : YRow) => x.1 = y.1 ∧ x.2.1 = y.2.1 ∧ RelV x.2.2 y.2.2
structure RowsD (K : PySem.W.Frag) (c : Bs) (kvs : List (D × D)) (xs : List KRow) : Prop where
  ks : DRs K c (kvs.map (·.1)) (xs.map fun x => .ref x.2.1)
  vs : DRs K c (kvs.map (·.2)) (xs.map (·.2.2))
  ke : kvs.map (fun p => nk p.1) = xs.map (·.1)
  tk : ∀ p, p ∈ kvs → tupK p.1 = true
theorem RowsD.cons {K : PySem.W.Frag} {p : D × D} {kvs : List (D × D)} {xs : List KRow} (r : RowsD K c (p :: kvs) xs) : ∃ x ys, xs = x :: ys ∧ DR K c p.1 (.ref x.2.1) ∧ DR K c p.2 x.2.2 ∧ nk p.1 = x.1 ∧ tupK p.1 = true ∧ RowsD K c kvs ys := by
  obtain ⟨h1, h2, h3, h4⟩ := r
  cases xs with
  | nil => simp at h3
  | cons x ys =>
    rw [List.map_cons, List.map_cons] at h1 h2 h3
    obtain ⟨v, w, e1, a1, a2⟩ := h1
    obtain ⟨v', w', e2, b1, b2⟩ := h2
    cases e1
    cases e2
    injection h3 with n1 n2
    exact ⟨x, ys, rfl, a1, b1, n1, h4 p (List.mem_cons_self ..), a2, b2, n2, fun q hq => h4 q (List.mem_cons_of_mem _ hq)⟩
theorem RowsD.mk' {K : PySem.W.Frag} {p : D × D} {x : KRow} {kvs : List (D × D)} {ys : List KRow} (h1 : DR K c p.1 (.ref x.2.1)) (h2 : DR K c p.2 x.2.2) (h3 : nk p.1 = x.1) (h4 : tupK p.1 = true) (r : RowsD K c kvs ys) : RowsD K c (p :: kvs) (x :: ys) :=
  ⟨⟨_, _, rfl, h1, r.ks⟩, ⟨_, _, rfl, h2, r.vs⟩, by rw [List.map_cons, List.map_cons, h3, r.ke], fun q hq => (List.mem_cons.mp hq).elim (fun e => by rw [e]; exact h4) (r.tk q)⟩
theorem RowsD.nil {K : PySem.W.Frag} : RowsD K c [] [] := ⟨rfl, rfl, rfl, fun _ h => by cases h⟩
theorem rows_keys (I : L2.Inv X pins σ c.H s) : ∀ {kvs : List (D × D)} {xs : List KRow} {ys : List YRow}, RowsD X.K c kvs xs → RYs xs ys → ∀ y, y ∈ ys → (nKind X).is s.heap y.1 y.2.1
  | [], xs, ys, r, q, y, hy => by
    obtain ⟨_, _, h3, _⟩ := r
    cases xs with
    | nil => cases q; cases hy
    | cons _ _ => simp at h3
  | p :: kvs, xs, ys, r, q, y, hy => by
    obtain ⟨x, xs', rfl, h1, h2, h3, h4, r'⟩ := r.cons
    cases q with
    | @cons _ z _ zs e t =>
      rcases List.mem_cons.mp hy with rfl | hy
      · rw [← e.1, ← e.2.1, ← h3]
        exact key_is I h4 h1
      · exact rows_keys I r' t y hy
theorem rows_look {k : D} (hk : tupK k = true) : ∀ {kvs : List (D × D)} {xs : List KRow} {ys : List YRow}, RowsD X.K c kvs xs → RYs xs ys → (kget kvs k = none ∧ atKey ys (nk k) = none) ∨ ∃ d b v w, kget kvs k = some d ∧ atKey ys (nk k) = some (b, w) ∧ DR X.K c d v ∧ RelV v w
  | [], xs, ys, r, q => by
    obtain ⟨_, _, h3, _⟩ := r
    cases xs with
    | nil => cases q; exact .inl ⟨rfl, rfl⟩
    | cons _ _ => simp at h3
  | p :: kvs, xs, ys, r, q => by
    obtain ⟨x, xs', rfl, h1, h2, h3, h4, r'⟩ := r.cons
    cases q with
    | @cons _ z _ zs e t =>
      have ke : keq p.1 k = decide (z.1 = nk k) := by rw [tupK_eq h4 hk, h3, e.1]
      by_cases hz : z.1 = nk k
      · right
        refine ⟨p.2, z.2.1, x.2.2, z.2.2, ?_, ?_, h2, e.2.2⟩
        · simp [kget, List.find?_cons, ke, hz]
        · simp [atKey, List.find?_cons, hz]
      · have e1 : kget (p :: kvs) k = kget kvs k := by simp [kget, List.find?_cons, ke, hz]
        have e2 : atKey (z :: zs) (nk k) = atKey zs (nk k) := by simp [atKey, List.find?_cons, hz]
        rw [e1, e2]
        exact rows_look hk r' t
def rput : List KRow → NestedKey → Addr → V → List KRow
  | [], k, b, v => [(k, b, v)]
  | x :: r, k, b, v => if x.1 = k then (x.1, x.2.1, v) :: r else x :: rput r k b v
theorem rput_rows {K : PySem.W.Frag} {k d : D} {b : Addr} {v : V} (hk : tupK k = true) (dk : DR K c k (.ref b)) (dv : DR K c d v) : ∀ {kvs : List (D × D)} {xs : List KRow}, RowsD K c kvs xs → RowsD K c (kput kvs k d) (rput xs (nk k) b v)
  | [], xs, r => by
    obtain ⟨_, _, h3, _⟩ := r
    cases xs with
    | nil => exact RowsD.mk' (p := (k, d)) (x := (nk k, b, v)) dk dv rfl hk .nil
    | cons _ _ => simp at h3
  | p :: kvs, xs, r => by
    obtain ⟨x, xs', rfl, h1, h2, h3, h4, r'⟩ := r.cons
    have ke : keq p.1 k = decide (x.1 = nk k) := by rw [tupK_eq h4 hk, h3]
    by_cases hz : x.1 = nk k
    · have e1 : kput (p :: kvs) k d = (p.1, d) :: kvs := by simp [kput, ke, hz]
      have e2 : rput (x :: xs') (nk k) b v = (x.1, x.2.1, v) :: xs' := by simp [rput, hz]
      rw [e1, e2]
      exact RowsD.mk' h1 dv h3 h4 r'
    · have e1 : kput (p :: kvs) k d = p :: kput kvs k d := by simp [kput, ke, hz]
      have e2 : rput (x :: xs') (nk k) b v = x :: rput xs' (nk k) b v := by simp [rput, hz]
      rw [e1, e2]
      exact RowsD.mk' h1 h2 h3 h4 (rput_rows hk dk dv r')
theorem rput_stored {k : NestedKey} {b : Addr} {v : V} {w : Value} (hv : RelV v w) : ∀ {xs : List KRow} {ys : List YRow}, RYs xs ys → (ys.map (·.1)).Nodup → RYs (rput xs k b v) (storedH ys k b w)
  | [], ys, q, _ => by
    cases q
    exact .cons ⟨rfl, rfl, hv⟩ .nil
  | x :: xs, ys, q, nd => by
    cases q with
    | @cons _ z _ zs e t =>
      rw [List.map_cons, List.nodup_cons] at nd
      by_cases hz : z.1 = k
      · have hx : x.1 = k := e.1.trans hz
        have e2 : rput (x :: xs) k b v = (x.1, x.2.1, v) :: xs := by simp [rput, hx]
        have e1 : storedH (z :: zs) k b w = (z.1, z.2.1, w) :: zs := by
          have : (atKey (z :: zs) k).isSome = true := by simp [atKey, List.find?_cons, hz]
          unfold storedH
          rw [if_pos this, List.map_cons, map_putAt_of_not_mem zs k w (by rw [← hz]; exact nd.1)]
          simp [putAt, hz]
        rw [e1, e2]
        exact .cons ⟨e.1, e.2.1, hv⟩ t
      · have hx : ¬ x.1 = k := fun h => hz (e.1.symm.trans h)
        have e2 : rput (x :: xs) k b v = x :: rput xs k b v := by simp [rput, hx]
        have ek : atKey (z :: zs) k = atKey zs k := by simp [atKey, List.find?_cons, hz]
        have e1 : storedH (z :: zs) k b w = z :: storedH zs k b w := by
          unfold storedH
          rw [ek]
          by_cases h : (atKey zs k).isSome = true
          · rw [if_pos h, if_pos h, List.map_cons]
            simp [putAt, hz]
          · rw [if_neg h, if_neg h, List.cons_append]
        rw [e1, e2]
        exact .cons e (rput_stored hv t nd.2)
theorem rput_len {k : NestedKey} {b : Addr} {v : V} : ∀ xs : List KRow, (rput xs k b v).length ≤ xs.length + 1
  | [] => Nat.le_refl _
  | x :: xs => by
    unfold rput
    split
    · simp
    · simp only [List.length_cons]
      have := rput_len (k := k) (b := b) (v := v) xs
      omega
/-! ### the object -/
theorem dN_raw (I : L2.Inv X pins σ c.H s) {fz : Option Obj} {a : Addr} {xs : List KRow} {kvs : List (D × D)} (e : c.H a = some (dN X.prog X.w fz a xs)) (r : RowsD X.K c kvs xs) : (a == sysModules) = false ∧ xs.length ≤ sizeLine ∧ ∃ ys, RYs xs ys ∧ s.heap.DictOfH (nKind X) a ys := by
  have q : ObjOk X.prog X.w c.H s.heap a (dN X.prog X.w fz a xs) := I.hok a _ e
  obtain ⟨h1, h2, _, ys, p, o, es, ep, h3, h4, h5, h6, h7⟩ := q.1
  exact ⟨h1, h2, ys, p, o, es, ep, h3, h4, h5, h6, rows_keys I r p, h7⟩
theorem dN_new {P : Program} {w : World} {H : L2.Hp} {h : Heap} {a : Addr} {xs : List KRow} {ys : List YRow} (h1 : (a == sysModules) = false) (h2 : xs.length ≤ sizeLine) (p : RYs xs ys) (d : h.DictOfH (nestedKind P w) a ys) : ObjOk P w H h a (dN P w none a xs) := by
  obtain ⟨o, es, ep, h3, h4, h5, h6, _, h7⟩ := d
  refine ⟨⟨h1, h2, fun _ z => (by cases z), ys, p, o, es, ep, h3, h4, h5, h6, h7⟩, ⟨o, h3⟩, fun g1 g2 z k => ?_⟩
  obtain ⟨z1, z2, z6, ys', z3, o', es', ep', z4, z5⟩ := z
  exact ⟨z1, z2, fun o z => k o (z6 o z), ys', z3, o', es', ep', k o' z4, z5⟩
/-- an empty dict of the one kind is one of the other kind -/
theorem empty_raw (I : L2.Inv X pins σ c.H s) {a : Addr} (e : c.H a = some (.dK [])) : (a == sysModules) = false ∧ s.heap.DictOfH (nKind X) a [] := by
  obtain ⟨z, hd, vs, rel, o, es, ep, h1, h2, h3, h4, h5, h6⟩ := dk_of I.hok e
  cases rel
  refine ⟨hd, o, es, ep, h1, h2, h3, ?_, fun _ h => (by cases h), List.nodup_nil⟩
  generalize es.toList = l at h5 ⊢
  cases h5
  rfl
end
end SL

set_option linter.all false
set_option autoImplicit false
set_option maxRecDepth 100000
set_option Elab.async false
/-! SLDic2: dicts with whole numbers and texts as keys; d[k], k in d, d[k] = v of any of both kinds. -/
namespace SL
open PySem PySem.Spec PyProof.Rows L2
def ak : D → L2.Key
  | .int i => .inl i
  | .str x => .inr (tS x)
  | _ => .inl 0
section
variable {K : PySem.W.Frag} {c : Bs}
theorem atom_kV {d : D} {y : V} (h : atomK d = true) (r : DR K c d y) : y = kV (ak d) := by
  cases d with
  | int i => exact r
  | str x => exact r
  | _ => cases h
theorem kV_atom {d : D} {k : L2.Key} (r : DR K c d (kV k)) : atomK d = true ∧ k = ak d := by
  cases d with
  | int i =>
    refine ⟨rfl, kV_inj ?_⟩
    exact r
  | str x =>
    refine ⟨rfl, kV_inj ?_⟩
    exact r
  | non => cases k <;> cases (show _ = V.non from r)
  | bl b => cases k <;> cases (show _ = V.bl b from r)
  | tup xs => obtain ⟨a, vs, e, _⟩ := r; cases k <;> cases e
  | ref l => obtain ⟨_, e⟩ := r; cases k <;> cases e
theorem atom_eq {x y : D} (hx : atomK x = true) (hy : atomK y = true) : keq x y = decide (ak x = ak y) := by
  cases x with
  | int i =>
    cases y with
    | int j => rw [key_ll i j |> fun h => show decide (ak (.int i) = ak (.int j)) = (i == j) from h]; rfl
    | str y => rw [show decide (ak (.int i) = ak (.str y)) = false from key_lr i (tS y)]; rfl
    | _ => cases hy
  | str x =>
    cases y with
    | int j => rw [show decide (ak (.str x) = ak (.int j)) = false from key_rl (tS x) j]; rfl
    | str y => rw [show decide (ak (.str x) = ak (.str y)) = decide (tS x = tS y) from key_rr (tS x) (tS y)]; exact key_str x y
    | _ => cases hy
  | _ => cases hx
theorem pair_cons {p : D × D} {kvs : List (D × D)} {ks : List (L2.Key × V)} (r1 : DRs K c ((p :: kvs).map (·.1)) (ks.map fun q => kV q.1)) (r2 : DRs K c ((p :: kvs).map (·.2)) (ks.map (·.2))) :
    ∃ q qs, ks = q :: qs ∧ atomK p.1 = true ∧ q.1 = ak p.1 ∧ DR K c p.2 q.2 ∧ DRs K c (kvs.map (·.1)) (qs.map fun q => kV q.1) ∧ DRs K c (kvs.map (·.2)) (qs.map (·.2)) := by
  cases ks with
  | nil =>
    obtain ⟨_, _, e, _⟩ := r1
    cases e
  | cons q qs =>
    obtain ⟨v, w, e1, a1, a2⟩ := r1
    obtain ⟨v', w', e2, b1, b2⟩ := r2
    cases e1
    cases e2
    obtain ⟨h1, h2⟩ := kV_atom a1
    exact ⟨q, qs, rfl, h1, h2, b1, a2, b2⟩
theorem nil_of {kvs : List (D × D)} {ks : List (L2.Key × V)} (r1 : DRs K c (kvs.map (·.1)) (ks.map fun q => kV q.1)) (h : kvs = []) : ks = [] := by
  subst h
  cases ks with
  | nil => rfl
  | cons _ _ => cases (show _ = ([] : List V) from r1)
theorem atoms_look {k : D} (hk : atomK k = true) : ∀ {kvs : List (D × D)} {ks : List (L2.Key × V)}, DRs K c (kvs.map (·.1)) (ks.map fun q => kV q.1) → DRs K c (kvs.map (·.2)) (ks.map (·.2)) → (kget kvs k = none ∧ valV ks (ak k) = none) ∨ ∃ d v, kget kvs k = some d ∧ valV ks (ak k) = some v ∧ DR K c d v
  | [], ks, r1, r2 => by
    rw [nil_of r1 rfl]
    exact .inl ⟨rfl, rfl⟩
  | p :: kvs, ks, r1, r2 => by
    obtain ⟨q, qs, rfl, h1, h2, h3, h4, h5⟩ := pair_cons r1 r2
    have ke : keq p.1 k = decide (q.1 = ak k) := by rw [atom_eq h1 hk, h2]
    by_cases hz : q.1 = ak k
    · exact .inr ⟨p.2, q.2, by simp [kget, List.find?_cons, ke, hz], by simp [valV, List.find?_cons, hz], h3⟩
    · have e1 : kget (p :: kvs) k = kget kvs k := by simp [kget, List.find?_cons, ke, hz]
      rw [e1, valV_neg hz]
      exact atoms_look hk h4 h5
theorem putK_cons {q : L2.Key × V} {qs : List (L2.Key × V)} {k : L2.Key} {v : V} (nd : ((q :: qs).map (·.1)).Nodup) : putK (q :: qs) k v = if q.1 = k then (q.1, v) :: qs else q :: putK qs k v := by
  rw [List.map_cons, List.nodup_cons] at nd
  by_cases hz : q.1 = k
  · rw [if_pos hz]
    unfold putK
    have e : ((q :: qs).any fun kv => decide (kv.1 = k)) = true := by simp [hz]
    rw [if_pos e, List.map_cons, if_pos hz]
    congr 1
    have : ∀ l : List (L2.Key × V), k ∉ l.map (·.1) → l.map (fun kv => if kv.1 = k then (kv.1, v) else kv) = l := fun l => by
      induction l with
      | nil => intro _; rfl
      | cons x l ih =>
        intro h
        rw [List.map_cons, List.mem_cons, not_or] at h
        rw [List.map_cons, ih h.2, if_neg fun e => h.1 e.symm]
    exact this qs (by rw [← hz]; exact nd.1)
  · rw [if_neg hz]
    unfold putK
    have e : ((q :: qs).any fun kv => decide (kv.1 = k)) = qs.any fun kv => decide (kv.1 = k) := by simp [hz]
    rw [e]
    split
    · rw [List.map_cons, if_neg hz]
    · rw [List.cons_append]
theorem atoms_put {k d : D} {v : V} (hk : atomK k = true) (dv : DR K c d v) : ∀ {kvs : List (D × D)} {ks : List (L2.Key × V)}, (ks.map (·.1)).Nodup → DRs K c (kvs.map (·.1)) (ks.map fun q => kV q.1) → DRs K c (kvs.map (·.2)) (ks.map (·.2)) →
    DRs K c ((kput kvs k d).map (·.1)) ((putK ks (ak k) v).map fun q => kV q.1) ∧ DRs K c ((kput kvs k d).map (·.2)) ((putK ks (ak k) v).map (·.2))
  | [], ks, _, r1, r2 => by
    rw [nil_of r1 rfl]
    have hd : DR K c k (kV (ak k)) := by cases k <;> first | exact rfl | cases hk
    exact ⟨⟨_, _, rfl, hd, rfl⟩, ⟨_, _, rfl, dv, rfl⟩⟩
  | p :: kvs, ks, nd, r1, r2 => by
    obtain ⟨q, qs, rfl, h1, h2, h3, h4, h5⟩ := pair_cons r1 r2
    have ke : keq p.1 k = decide (q.1 = ak k) := by rw [atom_eq h1 hk, h2]
    have hp : DR K c p.1 (kV q.1) := by rw [h2]; cases e : p.1 <;> rw [e] at h1 <;> first | exact rfl | cases h1
    rw [putK_cons nd]
    by_cases hz : q.1 = ak k
    · have e1 : kput (p :: kvs) k d = (p.1, d) :: kvs := by simp [kput, ke, hz]
      rw [e1, if_pos hz]
      exact ⟨⟨_, _, rfl, hp, h4⟩, ⟨_, _, rfl, dv, h5⟩⟩
    · have e1 : kput (p :: kvs) k d = p :: kput kvs k d := by simp [kput, ke, hz]
      rw [e1, if_neg hz]
      obtain ⟨a, b⟩ := atoms_put hk dv (by rw [List.map_cons, List.nodup_cons] at nd; exact nd.2) h4 h5
      exact ⟨⟨_, _, rfl, hp, a⟩, ⟨_, _, rfl, h3, b⟩⟩
theorem atoms_all : ∀ {kvs : List (D × D)} {ks : List (L2.Key × V)}, DRs K c (kvs.map (·.1)) (ks.map fun q => kV q.1) → DRs K c (kvs.map (·.2)) (ks.map (·.2)) → (kvs.all fun p => atomK p.1) = true
  | [], _, _, _ => rfl
  | p :: kvs, ks, r1, r2 => by
    obtain ⟨q, qs, rfl, h1, h2, h3, h4, h5⟩ := pair_cons r1 r2
    rw [List.all_cons, h1, atoms_all h4 h5]
    rfl
end
/-- which of both kinds it is -/
theorem fit_cases {K : PySem.W.Frag} {ct : Ct} {c : Bs} {a : Addr} {kvs : List (D × D)} {k : D} (o : ORd K ct c a kvs) (f : fitK kvs k = true) :
    (atomK k = true ∧ ∃ ks, c.H a = some (.dK ks) ∧ DRs K c (kvs.map (·.1)) (ks.map fun p => kV p.1) ∧ DRs K c (kvs.map (·.2)) (ks.map (·.2))) ∨
    (tupK k = true ∧ ((∃ fz xs, c.H a = some (dN ct.pr ct.w fz a xs) ∧ RowsD K c kvs xs) ∨ (kvs = [] ∧ c.H a = some (.dK [])))) := by
  unfold fitK at f
  rw [Bool.or_eq_true, Bool.and_eq_true, Bool.and_eq_true] at f
  rcases o with ⟨ks, q, r1, r2⟩ | ⟨fz, xs, q, r1, r2, r3, r4, r5⟩
  · rcases f with f | f
    · exact .inl ⟨f.1, ks, q, r1, r2⟩
    · right
      refine ⟨f.1, .inr ?_⟩
      have e : kvs = [] := by
        cases h : kvs with
        | nil => rfl
        | cons p r =>
          exfalso
          refine mixed_no0 (atoms_all r1 r2) (fun p hp => List.all_eq_true.mp f.2 p hp) (by rw [h]; simp)
      refine ⟨e, ?_⟩
      rw [nil_of r1 e] at q
      exact q
  · rcases f with f | f
    · exact (mixed_no0 f.2 r4 r5).elim
    · exact .inr ⟨f.1, .inl ⟨fz, xs, q, r1, r2, r3, r4⟩⟩
section
variable {X : L2.Cx} {ct : Ct} {pins : List (Addr × Obj)} {σ : L2.St} {s : Shared} {c : Bs} {h : SL.Hp} {l : Nat} {kvs : List (D × D)} {k d : D} {y : V} {u : Value} {E : Value → Shared → Prop}
theorem room_n (hu : X.A.units + 200 < cLine) : (nKind X).room X.A.in1 := by
  show X.A.units + 1 + 8 < cLine
  omega
/-- the key of the kind of tuples is a tuple -/
theorem tup_ref (hk : tupK k = true) (dr : DR X.K c k y) (ry : RelV y u) : ∃ b, y = .ref b ∧ u = .ref b := by
  obtain ⟨xs, rfl, _⟩ := tupK_of hk
  obtain ⟨b, vs, rfl, _⟩ := dr
  exact ⟨b, rfl, ry⟩
theorem dic_get {Q : Value → Shared → Prop} (hp : ct.pr = X.prog) (hw : ct.w = X.w) (hu : X.A.units + 200 < cLine) (I : L2.Inv X pins σ c.H s) (o : ORd X.K ct c (c.μ l) kvs) (f : fitK kvs k = true) (dr : DR X.K c k y) (ry : RelV y u) (hg : kget kvs k = some d)
    (q : ∀ v w' s', L2.Inv X pins σ c.H s' → DR X.K c d v → RelV v w' → Q w' s') : wpAny (model X.prog X.w) X.A (getItem (.ref (c.μ l)) u) Q E s ∧ s.TypeIs (.ref (c.μ l)) "dict" := by
  rcases fit_cases o f with ⟨hk, ks, e, r1, r2⟩ | ⟨hk, ⟨fz, xs, e, r⟩ | ⟨rfl, e⟩⟩
  · have ey := atom_kV hk dr
    subst ey
    rcases atoms_look hk r1 r2 with ⟨z, _⟩ | ⟨d', v, z, hv, dv⟩
    · rw [hg] at z; cases z
    · rw [hg] at z
      cases z
      have g : DGet c.H (c.μ l) (kV (ak k)) (some v) := .inl ⟨ks, ak k, .inl e, rfl, hv.symm⟩
      exact ⟨d_getItem (by omega) I g ry fun w' s' I' rw' => q v w' s' I' dv rw', dict_typeIs I g⟩
  · rw [hp, hw] at e
    obtain ⟨h1, h2, ys, p, D⟩ := dN_raw I e r
    obtain ⟨b, rfl, rfl⟩ := tup_ref hk dr ry
    rcases rows_look hk r p with ⟨z, _⟩ | ⟨d', b', v, w, z, hv, dv, rv⟩
    · rw [hg] at z; cases z
    · rw [hg] at z
      cases z
      exact ⟨wpAny_getItem_heap (room_n hu) (key_is I hk dr) D hv (q v w _ (I.tok _) dv rv), D.typeIs⟩
  · cases hg
theorem dic_in (neg : Bool) {Q : Value → Shared → Prop} (hp : ct.pr = X.prog) (hw : ct.w = X.w) (hu : X.A.units + 200 < cLine) (I : L2.Inv X pins σ c.H s) (o : ORd X.K ct c (c.μ l) kvs) (f : fitK kvs k = true) (dr : DR X.K c k y) (ry : RelV y u)
    (q : ∀ s', L2.Inv X pins σ c.H s' → Q (.bool (if neg = true then !(kget kvs k).isSome else (kget kvs k).isSome)) s') : wpAny (model X.prog X.w) X.A (compareOp (if neg = true then .NotIn else .In) u (.ref (c.μ l))) Q E s := by
  rcases fit_cases o f with ⟨hk, ks, e, r1, r2⟩ | ⟨hk, ⟨fz, xs, e, r⟩ | ⟨rfl, e⟩⟩
  · have ey := atom_kV hk dr
    subst ey
    have g : DGet c.H (c.μ l) (kV (ak k)) (valV ks (ak k)) := .inl ⟨ks, ak k, .inl e, rfl, rfl⟩
    have e2 : (valV ks (ak k)).isSome = (kget kvs k).isSome := by
      rcases atoms_look hk r1 r2 with ⟨z1, z2⟩ | ⟨d', v, z1, z2, _⟩ <;> rw [z1, z2] <;> rfl
    cases neg with
    | true => exact d_notIn (by omega) I g ry fun s' I' => by rw [e2]; exact q s' I'
    | false => exact d_in (by omega) I g ry fun s' I' => by rw [e2]; exact q s' I'
  · rw [hp, hw] at e
    obtain ⟨h1, h2, ys, p, D⟩ := dN_raw I e r
    obtain ⟨b, rfl, rfl⟩ := tup_ref hk dr ry
    have e2 : (atKey ys (nk k)).isSome = (kget kvs k).isSome := by
      rcases rows_look hk r p with ⟨z1, z2⟩ | ⟨d', b', v, w, z1, z2, _⟩ <;> rw [z1, z2] <;> rfl
    cases neg with
    | true => exact wpAny_notIn_heap (room_n hu) (key_is I hk dr) h1 D (by rw [e2]; exact q _ (I.tok _))
    | false => exact wpAny_in_heap (room_n hu) (key_is I hk dr) h1 D (by rw [e2]; exact q _ (I.tok _))
  · obtain ⟨h1, D⟩ := empty_raw I e
    obtain ⟨b, rfl, rfl⟩ := tup_ref hk dr ry
    cases neg with
    | true => exact wpAny_notIn_heap (room_n hu) (key_is I hk dr) h1 D (q _ (I.tok _))
    | false => exact wpAny_in_heap (room_n hu) (key_is I hk dr) h1 D (q _ (I.tok _))
/-- the layer's heap behind d[k] = x -/
theorem dic_put {x : D} {v : V} {w : Value} {Q : Unit → Shared → Prop} (hp : ct.pr = X.prog) (hw : ct.w = X.w) (hu : X.A.units + 200 < cLine) (I : L2.Inv X pins σ c.H s) (o : ORd X.K ct c (c.μ l) kvs) (f : fitK kvs k = true) (hz : kvs.length < sz) (dr : DR X.K c k y) (ry : RelV y u) (dx : DR X.K c x v) (rx : RelV v w)
    (q : ∀ (o' : HO) s', (∀ c' : Bs, (∀ d v, DR X.K c d v → DR X.K c' d v) → (∀ ds vs, DRs X.K c ds vs → DRs X.K c' ds vs) → c'.H (c.μ l) = some o' → ORd X.K ct c' (c.μ l) (kput kvs k x)) → (∀ ys, o' ≠ .tup ys) → L2.Inv X pins σ (upd c.H (c.μ l) o') s' → Q () s') : wpAny (model X.prog X.w) X.A (setItem (.ref (c.μ l)) u w) Q E s := by
  have hsz : sz = sizeLine := by decide
  rcases fit_cases o f with ⟨hk, ks, e, r1, r2⟩ | ⟨hk, ⟨fz, xs, e, r⟩ | ⟨rfl, e⟩⟩
  · have ey := atom_kV hk dr
    subst ey
    obtain ⟨_, _, vs, rel, dd⟩ := dk_of I.hok e
    have nd : (ks.map (·.1)).Nodup := by
      rw [rel.keys]
      obtain ⟨_, _, _, _, _, _, _, _, n⟩ := dd
      exact n
    have hl : ks.length < sizeLine := by
      have := r2.length
      rw [List.length_map, List.length_map] at this
      rw [this, ← hsz]
      exact hz
    refine d_setItem (H' := upd c.H (c.μ l) (.dK (putK ks (ak k) v))) (by omega) I (.inl ⟨ks, ak k, e, rfl, hl, rfl⟩) ry rx fun s' I' => q _ s' (fun c' m1 m2 e' => ?_) (fun ys z => by cases z) I'
    obtain ⟨a1, a2⟩ := atoms_put hk dx nd r1 r2
    exact .inl ⟨_, e', m2 _ _ a1, m2 _ _ a2⟩
  · rw [hp, hw] at e
    obtain ⟨h1, h2, ys, p, D⟩ := dN_raw I e r
    obtain ⟨b, rfl, rfl⟩ := tup_ref hk dr ry
    have hl : xs.length < sizeLine := by
      have := r.vs.length
      rw [List.length_map, List.length_map] at this
      rw [this, ← hsz]
      exact hz
    have hy : ys.length ≤ sizeLine := by rw [← Paired.length p]; exact h2
    refine wpAny_setItem_heap (hsz := hy) (room_n hu) (key_is I hk dr) D fun h' D' hs => ?_
    have nd : (ys.map (·.1)).Nodup := by
      obtain ⟨_, _, _, _, _, _, _, _, n⟩ := D
      exact n
    have hl2 : (rput xs (nk k) b v).length ≤ sizeLine := by have := rput_len (k := nk k) (b := b) (v := v) xs; omega
    obtain ⟨o', es, ep, g1, g2⟩ := D'
    refine q (dN X.prog X.w none (c.μ l) (rput xs (nk k) b v)) _ (fun c' m1 m2 e' => ?_) (fun ys z => by cases z) (d_write I (by rw [e]; exact True.intro) hs ⟨o', g1⟩ (dN_new h1 hl2 (rput_stored rx p nd) ⟨o', es, ep, g1, g2⟩))
    have R := rput_rows hk dr dx r
    refine .inr ⟨none, _, by rw [hp, hw]; exact e', m2 _ _ R.ks, m2 _ _ R.vs, R.ke, R.tk, ?_⟩
    cases kvs with
    | nil => simp [kput]
    | cons p r => simp only [kput]; split <;> simp
  · obtain ⟨h1, D⟩ := empty_raw I e
    obtain ⟨b, rfl, rfl⟩ := tup_ref hk dr ry
    refine wpAny_setItem_heap (hsz := Nat.zero_le _) (room_n hu) (key_is I hk dr) D fun h' D' hs => ?_
    have hs1 : (storedH ([] : List YRow) (nk k) b w) = [(nk k, b, w)] := rfl
    rw [hs1] at D'
    obtain ⟨o', es, ep, g1, g2⟩ := D'
    refine q (dN X.prog X.w none (c.μ l) [(nk k, b, v)]) _ (fun c' m1 m2 e' => ?_) (fun ys z => by cases z) (d_write I (by rw [e]; exact True.intro) hs ⟨o', g1⟩ (dN_new h1 (by show 1 ≤ sizeLine; rw [← hsz]; decide) (.cons ⟨rfl, rfl, rx⟩ .nil) ⟨o', es, ep, g1, g2⟩))
    have R : RowsD X.K c (kput [] k x) [(nk k, b, v)] := RowsD.mk' (p := (k, x)) (x := (nk k, b, v)) dr dx rfl hk .nil
    exact .inr ⟨none, _, by rw [hp, hw]; exact e', m2 _ _ R.ks, m2 _ _ R.vs, R.ke, R.tk, by simp [kput]⟩
end
end SL

set_option linter.all false
set_option autoImplicit false
set_option maxRecDepth 100000
set_option Elab.async false
/-! SLOps: the operators on trees. -/
namespace SL
open PySem PySem.Spec PyProof.Rows L2
theorem sz_line : sz = sizeLine := by decide
theorem tS_len (x : Tx) : (tS x).length = x.length := by
  show x.toArray.size = x.length
  exact List.size_toArray
theorem tS_app (x y : Tx) : tS x ++ tS y = tS (x ++ y) := by
  show (⟨x.toArray ++ y.toArray⟩ : Str) = ⟨(x ++ y).toArray⟩
  rw [List.append_toArray]
theorem tS_list (x : Tx) : (tS x).cps.toList = x := rfl
section
variable {X : L2.Cx} {ct : Ct}
theorem lst_there {K : PySem.W.Frag} {c : Bs} {h : SL.Hp} {tv : TV} {xs : List D} {v : V} (sr : SRel K ct c h) (r : TVR K c tv v) (e : lstOf h tv = some xs) : ∃ a vs, v = .ref a ∧ c.H a = some (.lst vs) ∧ DRs K c xs vs := by
  unfold lstOf at e
  split at e
  · cases e
    obtain ⟨a, vs, rfl, q, rs, _⟩ := r
    exact ⟨a, vs, rfl, q, rs⟩
  · split at e
    · rename_i hx
      cases e
      obtain ⟨hl, rfl⟩ := r
      obtain ⟨vs, q, rs⟩ := sr.obj _ _ hx
      exact ⟨_, vs, rfl, q, rs⟩
    · cases e
  · cases e
theorem o_int {f : Value → Value → Sem Value} {C : Int → Int → Prop} {g : Int → Int → Int} (ho : OpR X f (rI C fun i j => .int (g i j))) : OpR X f (RO X.K ct fun _ => intD C g) :=
  OpR.mono ho fun x y H Q t => by
    obtain ⟨c, h, dx, dy, P, rfl, sr, rx, ry, k, post⟩ := t
    unfold intD at k
    split at k
    · exact ⟨_, _, rx, ry, k.1, post _ k.2 c _ (Ex.refl c) sr rfl trivial⟩
    · exact k.elim
theorem rI_of {f : Value → Value → Sem Value} {g : Int → Int → V} (ho : OpR X f (rI0 g)) : OpR X f (rI (fun _ _ => True) g) :=
  OpR.mono ho fun x y H Q t => by
    obtain ⟨i, j, a, b, _, q⟩ := t
    exact ⟨i, j, a, b, q⟩
theorem o_add : OpR X (binaryOp .Add) (RO X.K ct addD) := by
  intro pins s σ H x y v u Q I rv ru t
  obtain ⟨c, h, dx, dy, P, rfl, sr, rx, ry, k, post⟩ := t
  unfold addD at k
  split at k
  · exact op_add pins s σ c.H x y v u Q I rv ru ⟨_, _, rx, ry, post _ k c _ (Ex.refl c) sr rfl trivial⟩
  · rename_i a b
    refine op_add_str pins s σ c.H x y v u Q I rv ru ⟨_, _, rx, ry, ?_, post _ k.2 c _ (Ex.refl c) sr (by rw [tS_app]; rfl) trivial⟩
    rw [tS_len, tS_len, ← sz_line]
    exact k.1
  · rename_i as bs
    obtain ⟨a, vs, rfl, ta, ra⟩ := rx
    obtain ⟨b, ws, rfl, tb, rb⟩ := ry
    refine op_catA pins s σ c.H _ _ v u Q I rv ru ⟨a, b, vs, ws, rfl, rfl, ta, tb, ?_, ?_, ?_, ?_⟩
    · rw [ra.length, rb.length, ← sz_line]
      exact k.1
    · intro e
      subst e
      have e2 : as = [] := List.eq_nil_of_length_eq_zero ra.length.symm
      subst e2
      exact post _ k.2 c _ (Ex.refl c) sr ⟨b, ws, rfl, tb, rb⟩ trivial
    · intro _ e
      subst e
      have e2 : bs = [] := List.eq_nil_of_length_eq_zero rb.length.symm
      subst e2
      have k2 := k.2
      rw [List.append_nil] at k2
      exact post _ k2 c _ (Ex.refl c) sr ⟨a, vs, rfl, ta, ra⟩ trivial
    · intro _ _ p hp
      have e1 : Ex X.K c (c.put p (.tup (vs ++ ws))) := Ex.new hp
      exact post _ k.2 (c.put p (.tup (vs ++ ws))) (.ref p) e1 (sr.new hp) ⟨p, _, rfl, .inl (.inl upd_same), DRs.mono e1 _ _ (DRs.append ra rb)⟩ trivial
  · split at k
    · rename_i xs ys e1 e2
      obtain ⟨a, vs, rfl, qa, ra⟩ := lst_there sr rx e1
      obtain ⟨b, ws, rfl, qb, rb⟩ := lst_there sr ry e2
      refine op_cat pins s σ c.H _ _ v u Q I rv ru ⟨a, b, vs, ws, rfl, rfl, qa, qb, ?_, fun p hp => ?_⟩
      · rw [ra.length, rb.length, ← sz_line]
        exact k.1
      · have e3 : Ex X.K c (c.put p (.lst (vs ++ ws))) := Ex.new hp
        exact post _ k.2 (c.put p (.lst (vs ++ ws))) (.ref p) e3 (sr.new hp) ⟨p, _, rfl, upd_same, DRs.mono e3 _ _ (DRs.append ra rb), sr.apart hp⟩ fun a e => by cases e; exact hp
    · exact k.elim
theorem rep_toArray (x : Tx) : ∀ n : Nat, (List.replicate n x.toArray).foldl (· ++ ·) #[] = ((List.replicate n x).flatten).toArray := fun n => by
  have h : ∀ (n : Nat) (acc : List Nat), (List.replicate n x.toArray).foldl (· ++ ·) acc.toArray = (acc ++ (List.replicate n x).flatten).toArray := by
    intro n
    induction n with
    | zero => intro acc; simp
    | succ n ih =>
      intro acc
      rw [List.replicate_succ, List.foldl_cons, List.append_toArray, ih, List.replicate_succ, List.flatten_cons, List.append_assoc]
  exact h n []
theorem txt_mul (x : Tx) (j : Int) : Txt.mul (tS x) j = tS (rep j x) := by
  unfold Txt.mul rep
  by_cases h1 : j < 1
  · rw [if_pos h1, show j.toNat = 0 by omega]
    rfl
  · rw [if_neg h1]
    by_cases h2 : (j == 1 || (tS x).length == 0) = true
    · rw [if_pos h2]
      rw [Bool.or_eq_true] at h2
      rcases h2 with e | e
      · rw [beq_iff_eq.mp e]
        simp
      · have : x = [] := List.eq_nil_of_length_eq_zero (by rw [← tS_len]; exact beq_iff_eq.mp e)
        subst this
        simp
    · rw [if_neg h2]
      show (⟨_⟩ : Str) = ⟨_⟩
      congr 1
      exact rep_toArray x j.toNat
theorem mulOk_tx {x : Tx} {j : Int} (h1 : -(2 ^ 63) ≤ j) (h2 : j < 2 ^ 63) (h3 : x.length * j.toNat ≤ sz) : MulOk (tS x) j := by
  refine ⟨by rw [decide_eq_false (by omega), decide_eq_false (by omega)]; rfl, fun h4 _ => ?_, fun h4 _ => ?_⟩
  · rw [tS_len]
    have e : j = ((j.toNat : Nat) : Int) := by omega
    have h5 : ((x.length * j.toNat : Nat) : Int) ≤ 16777216 := by
      have := Int.ofNat_le.mpr h3
      exact this
    rw [Int.natCast_mul, ← e] at h5
    intro h6
    have h7 : (2 ^ 63 - 1) / j < (x.length : Int) := h6
    rw [Int.ediv_lt_iff_lt_mul (by omega)] at h7
    omega
  · unfold Builtin.Str.tooLong
    rw [tS_len]
    refine decide_eq_false ?_
    rw [← sz_line]
    omega
theorem cmulOk {i j : Int} (h : (-(2 ^ 64) < i ∧ i < 2 ^ 64) ∨ (-(2 ^ 64) < j ∧ j < 2 ^ 64)) : CMul i j := h
theorem o_mul : OpR X (binaryOp .Mult) (RO X.K ct mulD) := by
  intro pins s σ H x y v u Q I rv ru t
  obtain ⟨c, h, dx, dy, P, rfl, sr, rx, ry, k, post⟩ := t
  unfold mulD at k
  split at k
  · exact op_mul pins s σ c.H x y v u Q I rv ru ⟨_, _, rx, ry, k.1, post _ k.2 c _ (Ex.refl c) sr rfl trivial⟩
  · rename_i a j
    rw [show x = .str (tS a) from rx] at rv
    rw [show y = .int j from ry] at ru
    obtain ⟨t1, rfl⟩ := rv
    obtain ⟨t2, rfl⟩ := ru
    refine PySem.SB.mul (mulOk_tx k.1 k.2.1 k.2.2.1) fun t' n => ⟨.str (tS (rep j a)), c.H, I.tok n, ⟨t', by rw [txt_mul]⟩, post _ k.2.2.2 c _ (Ex.refl c) sr rfl trivial⟩
  · rename_i as j
    obtain ⟨a, vs, rfl, ta, ra⟩ := rx
    have hl := ra.length
    refine op_TM pins s σ c.H _ _ v u Q I rv ru ⟨a, j, vs, rfl, ry, ta, k.1, k.2.1, ?_, ?_, ?_⟩
    · rw [hl, ← sz_line]
      exact k.2.2.1
    · intro e
      have e2 : rep j as = as := by
        rcases e with e | e
        · subst e
          have : as = [] := List.eq_nil_of_length_eq_zero hl.symm
          subst this
          unfold rep
          simp
        · subst e
          unfold rep
          simp
      have k2 := k.2.2.2
      rw [e2] at k2
      exact post _ k2 c _ (Ex.refl c) sr ⟨a, vs, rfl, ta, ra⟩ trivial
    · intro _ _ p hp
      have e1 : Ex X.K c (c.put p (.tup (List.replicate j.toNat vs).flatten)) := Ex.new hp
      exact post _ k.2.2.2 (c.put p _) (.ref p) e1 (sr.new hp) ⟨p, _, rfl, .inl (.inl upd_same), DRs.mono e1 _ _ (DRs.replicate ra _)⟩ trivial
  · split at k
    · rename_i j _ _ _ _ xs e1
      obtain ⟨a, vs, rfl, qa, ra⟩ := lst_there sr rx e1
      refine op_rep pins s σ c.H _ _ v u Q I rv ru ⟨a, j, vs, rfl, ry, qa, k.1, k.2.1, ?_, fun p hp => ?_⟩
      · rw [ra.length, ← sz_line]
        exact k.2.2.1
      · have e3 : Ex X.K c (c.put p (.lst (List.replicate j.toNat vs).flatten)) := Ex.new hp
        exact post _ k.2.2.2 (c.put p _) (.ref p) e3 (sr.new hp) ⟨p, _, rfl, upd_same, DRs.mono e3 _ _ (DRs.replicate ra _), sr.apart hp⟩ fun a e => by cases e; exact hp
    · exact k.elim
  · exact k.elim
theorem o_op2 (o : Op2) (f : Value → Value → Sem Value) (hf : f = binaryOp (match o with | .add => .Add | .mul => .Mult | .sub => .Sub | .fdiv => .FloorDiv | .mod => .Mod | .pow => .Pow)) : OpR X f (RO X.K ct fun h => op2 h o) := by
  subst hf
  cases o with
  | add => exact o_add
  | mul => exact o_mul
  | sub => exact o_int (rI_of op_sub)
  | fdiv => exact o_int op_fdiv
  | mod => exact o_int op_mod
  | pow => exact o_int op_pow
/-! ### comparisons -/
theorem hu64 {A : Around} (h : A.units + 200 < cLine) : ∀ n : Nat, n ≤ 64 → A.units + 1 + n < cLine := fun n hn => by omega
theorem c_eq (hu : X.A.units + 200 < cLine) : OpR X (compareOp .Eq) (RB X.K ct eqD) := by
  intro pins s σ H x y v u Q I rv ru t
  obtain ⟨c, h, dx, dy, P, rfl, sr, rx, ry, k, post⟩ := t
  unfold eqD at k
  split at k
  · rename_i p q e1 e2
    obtain ⟨as, r1⟩ := Dp.reads I p x v (dpT_of sr e1 rx) rv
    obtain ⟨bs, r2⟩ := Dp.reads I q y u (dpT_of sr e2 ry) ru
    obtain ⟨a1, a2⟩ := rdT_ok e1
    obtain ⟨b1, b2⟩ := rdT_ok e2
    exact SeqAt.eq_plain r1 r2 a1 b1 (by omega) ⟨.bl _, c.H, I, rfl, post _ k⟩
  · exact k.elim
theorem c_ne (hu : X.A.units + 200 < cLine) : OpR X (compareOp .NotEq) (RB X.K ct fun h x y Q => eqD h x y fun b => Q (!b)) := by
  intro pins s σ H x y v u Q I rv ru t
  obtain ⟨c, h, dx, dy, P, rfl, sr, rx, ry, k, post⟩ := t
  unfold eqD at k
  split at k
  · rename_i p q e1 e2
    obtain ⟨as, r1⟩ := Dp.reads I p x v (dpT_of sr e1 rx) rv
    obtain ⟨bs, r2⟩ := Dp.reads I q y u (dpT_of sr e2 ry) ru
    obtain ⟨a1, a2⟩ := rdT_ok e1
    obtain ⟨b1, b2⟩ := rdT_ok e2
    exact SeqAt.ne_plain r1 r2 a1 b1 (by omega) ⟨.bl _, c.H, I, rfl, post _ k⟩
  · exact k.elim
theorem c_ord {op : CmpOp} {f : Int → Int → Bool} (ho : OpR X (compareOp op) (rI0 fun i j => .bl (f i j))) : OpR X (compareOp op) (RB X.K ct fun _ => ordD f) :=
  OpR.mono ho fun x y H Q t => by
    obtain ⟨c, h, dx, dy, P, rfl, sr, rx, ry, k, post⟩ := t
    unfold ordD at k
    split at k
    · exact ⟨_, _, rx, ry, post _ k⟩
    · exact k.elim
theorem seq_there {K : PySem.W.Frag} {c : Bs} {h : SL.Hp} {tv : TV} {xs : List D} {v : V} (sr : SRel K ct c h) (r : TVR K c tv v) (e : items h tv = some xs) : ∃ a vs, v = .ref a ∧ DRs K c xs vs ∧ (SqL K c.H a vs ∨ SqT K c.H a vs) := by
  unfold items at e
  split at e
  · cases e
    obtain ⟨a, vs, rfl, q, rs, _⟩ := r
    exact ⟨a, vs, rfl, rs, .inl (SqL.of q)⟩
  · cases e
    obtain ⟨a, vs, rfl, t, rs⟩ := r
    exact ⟨a, vs, rfl, rs, .inr t⟩
  · split at e
    · rename_i hx
      cases e
      obtain ⟨hl, rfl⟩ := r
      obtain ⟨vs, q, rs⟩ := sr.obj _ _ hx
      exact ⟨_, vs, rfl, rs, .inl (SqL.of q)⟩
    · rename_i hx
      cases e
      obtain ⟨hl, rfl⟩ := r
      obtain ⟨vs, q, rs⟩ := sr.obj _ _ hx
      exact ⟨_, vs, rfl, rs, .inl (SqL.ofRd q)⟩
    · cases e
  · cases e
theorem in_seq (neg : Bool) {op : CmpOp} (hop : op = if neg then .NotIn else .In) (hu : X.A.units + 200 < cLine) {pins : List (Addr × Obj)} {s : Shared} {σ : L2.St} {c : Bs} {x y : V} {v u : Value} {Q : VK} (I : Inv X pins σ c.H s) (rv : RelV x v) (ru : RelV y u)
    {h : SL.Hp} {dx dy : TV} {p : PyData} {ps : List PyData} {ys : List D} (sr : SRel X.K ct c h) (rx : TVR X.K c dx x) (ry : TVR X.K c dy y) (e1 : rdT h dx = some p) (e2 : rdL h ys = some ps) (e3 : items h dy = some ys)
    (q : Q (.bl (if neg then !(ps.any fun z => PyData.eqv z p) else ps.any fun z => PyData.eqv z p)) c.H) : wpAny (model X.prog X.w) X.A (compareOp op v u) (EP X pins σ Q) X.xe s := by
  subst hop
  obtain ⟨as, r1⟩ := Dp.reads I p x v (dpT_of sr e1 rx) rv
  obtain ⟨a, vs, rfl, rs, t⟩ := seq_there sr ry e3
  obtain ⟨a1, a2⟩ := rdT_ok e1
  obtain ⟨b1, b2⟩ := rdL_ok e2
  rcases t with t | t
  · obtain ⟨bs, r2⟩ := Dp.reads I (.list ps) (.ref a) u (.lst t (dpL_of sr e2 rs)) ru
    cases neg with
    | true => exact SeqAt.notIn_list_data r2 r1 b1 a1 (by omega) ⟨.bl _, c.H, I, rfl, q⟩
    | false => exact SeqAt.in_list_data r2 r1 b1 a1 (by omega) ⟨.bl _, c.H, I, rfl, q⟩
  · obtain ⟨bs, r2⟩ := Dp.reads I (.tuple ps) (.ref a) u (.tup t (dpL_of sr e2 rs)) ru
    cases neg with
    | true => exact SeqAt.notIn_tuple_data r2 r1 b1 a1 (by omega) ⟨.bl _, c.H, I, rfl, q⟩
    | false => exact SeqAt.in_tuple_data r2 r1 b1 a1 (by omega) ⟨.bl _, c.H, I, rfl, q⟩
theorem c_inn (neg : Bool) {op : CmpOp} (hop : op = if neg then .NotIn else .In) (hp : ct.pr = X.prog) (hw : ct.w = X.w) (hu : X.A.units + 200 < cLine) : OpR X (compareOp op) (RB X.K ct fun h x y Q => inn h x y fun b => Q (if neg then !b else b)) := by
  intro pins s σ H x y v u Q I rv ru t
  obtain ⟨c, h, dx, dy, P, rfl, sr, rx, ry, k, post⟩ := t
  unfold inn at k
  split at k
  · split at k
    · rename_i z _ ch
      have e := post _ k
      subst hop
      cases neg with
      | true => exact op_notIn_sign pins s σ c.H x y v u Q I rv ru ⟨ch, tS z, rx, ry, e⟩
      | false => exact op_in_sign pins s σ c.H x y v u Q I rv ru ⟨ch, tS z, rx, ry, e⟩
    · exact k.elim
  · rename_i l
    split at k
    · rename_i kvs kd hx
      obtain ⟨f, k⟩ := k
      obtain ⟨hl, rfl⟩ := ry
      cases ru
      subst hop
      exact dic_in neg hp hw hu I (sr.obj _ _ hx) f rx rv fun s' I' => ⟨.bl _, c.H, I', rfl, post _ k⟩
    · rename_i hx
      obtain ⟨f, k⟩ := k
      obtain ⟨hl, rfl⟩ := ry
      cases ru
      subst hop
      exact dic_in neg hp hw hu I (ORk.d (sr.obj _ _ hx)) f rx rv fun s' I' => ⟨.bl _, c.H, I', rfl, post _ k⟩
    · rename_i ys hx
      split at k
      · rename_i p ps e1 e2
        exact in_seq neg hop hu I rv ru sr rx ry e1 e2 (by simp only [items, hx]) (post _ k)
      · exact k.elim
    · rename_i ys hx
      split at k
      · rename_i p ps e1 e2
        exact in_seq neg hop hu I rv ru sr rx ry e1 e2 (by simp only [items, hx]) (post _ k)
      · exact k.elim
    · exact k.elim
  · split at k
    · rename_i p ps e1 e2
      exact in_seq neg hop hu I rv ru sr rx ry e1 e2 rfl (post _ k)
    · exact k.elim
  · split at k
    · rename_i p ps e1 e2
      exact in_seq neg hop hu I rv ru sr rx ry e1 e2 rfl (post _ k)
    · exact k.elim
  · exact k.elim
end
end SL

set_option linter.all false
set_option autoImplicit false
set_option maxRecDepth 100000
set_option Elab.async false
/-! SLExp: the expressions' rules, lifted (2). -/
namespace SL
open PySem PySem.Spec PyProof.Rows L2
/-! ### a place is written -/
section
variable {K : PySem.W.Frag} {ct : Ct}
theorem OR.write {c : Bs} {p a : Addr} {o : HO} {u : O} (hp : a ≠ p) (ex : Ex K c (c.put p o)) (h : OR K ct c a u) : OR K ct (c.put p o) a u := by
  have up : ∀ w, c.H a = some w → (c.put p o).H a = some w := fun w q => by
    rw [show (c.put p o).H a = c.H a from upd_ne hp]
    exact q
  cases u with
  | lst xs =>
    obtain ⟨vs, q, r⟩ := h
    exact ⟨vs, up _ q, DRs.mono ex _ _ r⟩
  | fz xs =>
    obtain ⟨vs, q, r⟩ := h
    refine ⟨vs, ?_, DRs.mono ex _ _ r⟩
    rcases q with q | ⟨w, q⟩
    · exact .inl (up _ q)
    · exact .inr ⟨w, up _ q⟩
  | dic kvs =>
    rcases h with ⟨ks, q, r1, r2⟩ | ⟨fz, ks, q, r1, r2, r3⟩
    · exact .inl ⟨ks, up _ q, DRs.mono ex _ _ r1, DRs.mono ex _ _ r2⟩
    · exact .inr ⟨fz, ks, up _ q, DRs.mono ex _ _ r1, DRs.mono ex _ _ r2, r3⟩
  | lck o kvs =>
    obtain ⟨ks, q, r1, r2, r3⟩ := h
    exact ⟨ks, up _ q, DRs.mono ex _ _ r1, DRs.mono ex _ _ r2, r3⟩
  | ins cn fs =>
    obtain ⟨dx, vs, q, l, r⟩ := h
    refine ⟨dx, vs, up _ q, l, fun f => ?_⟩
    have rf := r f
    split at rf
    · rename_i d hd
      obtain ⟨v, e1, e2⟩ := rf
      exact ⟨v, e1, DR.mono ex _ _ e2⟩
    · exact rf
  | exc cn fs => exact h.elim
theorem Ex.write {c : Bs} {l : Nat} {w o : HO} (hl : l < c.n) (hw : c.H (c.μ l) = some w) (nt : ∀ ys, w ≠ .tup ys) (nf : ∀ u ys, w ≠ .frz u (.tup ys)) : Ex K c (c.put (c.μ l) o) where
  le := Nat.le_refl _
  mu := fun _ _ => rfl
  tup := fun a xs h => sqT_upd (fun ys z => by
    rcases z with z | ⟨u, z⟩
    · rw [hw] at z; exact nt ys (Option.some.inj z)
    · rw [hw] at z; exact nf u ys (Option.some.inj z)) h
  stay := fun a u h k => ⟨by rw [show (c.put (c.μ l) o).H a = c.H a from upd_ne (fun e => k l hl e.symm)]; exact h, k⟩
  old := fun a h => by
    by_cases e : a = c.μ l
    · rw [e] at h
      rw [show (c.put (c.μ l) o).H (c.μ l) = some o from upd_same] at h
      cases h
    · rw [show (c.put (c.μ l) o).H a = c.H a from upd_ne e] at h
      exact h
theorem SRel.write {c : Bs} {h : SL.Hp} {l : Nat} {w o : HO} {u : O} (sr : SRel K ct c h) (hl : l < c.n) (ex : Ex K c (c.put (c.μ l) o)) (new : OR K ct (c.put (c.μ l) o) (c.μ l) u) : SRel K ct (c.put (c.μ l) o) (h.set l u) where
  len := by rw [List.length_set]; exact sr.len
  inj := sr.inj
  obj := fun i v e => by
    by_cases z : i = l
    · subst z
      rw [List.getElem?_set_self (by rw [← sr.len]; exact hl)] at e
      cases e
      exact new
    · rw [List.getElem?_set_ne (fun q => z q.symm)] at e
      have hi : i < c.n := by
        rw [sr.len]
        exact (List.getElem?_eq_some_iff.mp e).1
      exact OR.write (fun q => z (sr.inj i l hi hl q)) ex (sr.obj i v e)
/-- a list at a place is written -/
theorem write_list {c : Bs} {h : SL.Hp} {l : Nat} {xs ys : List D} {vs ws : List V} (sr : SRel K ct c h) (hl : l < c.n) (hx : c.H (c.μ l) = some (.lst vs)) (r : DRs K c ys ws) :
    Ex K c (c.put (c.μ l) (.lst ws)) ∧ SRel K ct (c.put (c.μ l) (.lst ws)) (h.set l (.lst ys)) := by
  have ex : Ex K c (c.put (c.μ l) (.lst ws)) := Ex.write hl hx (fun _ z => by cases z) (fun _ _ z => by cases z)
  exact ⟨ex, sr.write (w := .lst vs) (u := .lst ys) hl ex ⟨ws, upd_same, DRs.mono ex _ _ r⟩⟩
theorem place_list {c : Bs} {h : SL.Hp} {l : Nat} {xs : List D} (sr : SRel K ct c h) (hx : h[l]? = some (.lst xs)) : l < c.n ∧ ∃ vs, c.H (c.μ l) = some (.lst vs) ∧ DRs K c xs vs := by
  refine ⟨by rw [sr.len]; exact (List.getElem?_eq_some_iff.mp hx).1, sr.obj l _ hx⟩
end
/-! ### truth -/
section
variable {K : PySem.W.Frag} {ct : Ct}
theorem emp_len {α β : Type} {xs : List α} {ys : List β} (h : xs.length = ys.length) : xs.isEmpty = ys.isEmpty := by
  cases xs <;> cases ys <;> first | rfl | cases h
theorem truV_of {c : Bs} {h : SL.Hp} {tv : TV} {v : V} {k : Bool} (sr : SRel K ct c h) (r : TVR K c tv v) (e : tru h tv = some k) : TruV K v c.H k := by
  unfold tru at e
  split at e
  · cases e
    rw [show v = .non from r]
    rfl
  · cases e
    rw [show v = .bl k from r]
    rfl
  · rename_i i
    cases e
    rw [show v = .int i from r]
    rfl
  · rename_i x
    split at e
    · rename_i hz
      cases e
      rw [show v = .str (tS x) from r]
      refine ⟨by rw [tS_len, ← sz_line]; exact hz, ?_⟩
      rw [tS_len]
      cases x with
      | nil => rfl
      | cons a b =>
        show true = (((b.length + 1 : Nat) : Int) != 0)
        symm
        rw [bne_iff_ne]
        omega
    · cases e
  · rename_i xs
    cases e
    obtain ⟨a, vs, rfl, t, rs⟩ := r
    exact .inr (.inl ⟨vs, t, by rw [emp_len rs.length]⟩)
  · split at e
    · rename_i xs hx
      cases e
      obtain ⟨hl, rfl⟩ := r
      obtain ⟨vs, q, rs⟩ := sr.obj _ _ hx
      exact .inl ⟨vs, SqL.of q, by rw [emp_len rs.length]⟩
    · rename_i xs hx
      cases e
      obtain ⟨hl, rfl⟩ := r
      obtain ⟨vs, q, rs⟩ := sr.obj _ _ hx
      exact .inl ⟨vs, SqL.ofRd q, by rw [emp_len rs.length]⟩
    · rename_i kvs hx
      split at e
      · rename_i ha
        cases e
        obtain ⟨hl, rfl⟩ := r
        rcases sr.obj _ _ hx with ⟨ks, q, rs, _⟩ | ⟨_, ks, q, _, _, _, h3, h4⟩
        · refine .inr (.inr ⟨ks, q, ?_⟩)
          have := rs.length
          rw [List.length_map, List.length_map] at this
          rw [emp_len this]
        · exact (mixed_no0 ha h3 h4).elim
      · cases e
    · cases e
  · rename_i xs
    cases e
    obtain ⟨a, vs, rfl, q, rs, _⟩ := r
    exact .inl ⟨vs, SqL.of q, by rw [emp_len rs.length]⟩
/-- a bool as a test -/
theorem tst_bl (P : Bool → SL.Hp → Prop) (k : Bool) (h : SL.Hp) : tst P (.d (.bl k)) h = P k h := rfl
end
section
variable {X : L2.Cx} {ct : Ct} {b0 : Bs} {e a b c : Expr} {pos : Pos}
theorem LT.mono {K : PySem.W.Frag} {ta : FT} {σ : L2.St} {H : L2.Hp} {Q R : VK} (x : LT K ct b0 ta σ H Q) (k : ∀ v H, Q v H → R v H) : LT K ct b0 ta σ H R := by
  obtain ⟨c, h, s, P, e, ex, sr, st, t, post⟩ := x
  exact ⟨c, h, s, P, e, ex, sr, st, t, fun tv h' p c' v e1 e2 e3 e4 => k _ _ (post tv h' p c' v e1 e2 e3 e4)⟩
/-- a test behind a value -/
theorem LB.of {K : PySem.W.Frag} {ta : FT} {σ : L2.St} {H : L2.Hp} {Q : Bool → L2.Hp → Prop} (x : LB K ct b0 ta σ H Q) : LT K ct b0 ta σ H (fun v H' => ∃ k, TruV K v H' k ∧ Q k H') := by
  obtain ⟨c, h, s, P, e, ex, sr, st, t, post⟩ := x
  refine ⟨c, h, s, tst P, e, ex, sr, st, t, fun tv h' p c' v e1 e2 e3 e4 => ?_⟩
  unfold tst at p
  split at p
  · rename_i k hk
    exact ⟨k, truV_of e2 e3 hk, post k h' p c' e1 e2⟩
  · exact p.elim
theorem t_truth {ta : FT} (ha : PE X a (LT X.K ct b0 ta)) (he : ∀ whole, isTrue a X.env whole = (do let v ← whole; standAt a.pos; holding [v] (truthy v))) : PT X a (LB X.K ct b0 ta) :=
  ptMono (pt_truth ha he) fun σ H Q x => LB.of x
/-! ### one operand -/
theorem r_neg {ta : FT} (ha : PE X a (LT X.K ct b0 ta)) : PE X (.UnaryOp .USub a pos) (LT X.K ct b0 fun s h Q => ta s h fun x h1 => match x with
    | .d (.int i) => Q (.d (.int (-i))) h1
    | _ => False) :=
  peMono (pe_un un_neg ha) fun σ H Q x => LT.bind x fun c0 c h s tv P v ex0 ex sr st tr tf k post => by
    split at k
    · exact ⟨_, tr, post _ h k c _ (Ex.refl c) sr rfl trivial⟩
    · exact k.elim
theorem r_not {ta : FT} (ha : PE X a (LT X.K ct b0 ta)) : PE X (.UnaryOp .Not a pos) (LT X.K ct b0 fun s h Q => ta s h fun x h1 => match tru h1 x with
    | some b => Q (.d (.bl (!b))) h1
    | none => False) :=
  peMono (pe_notT ha) fun σ H Q x => LT.bind x fun c0 c h s tv P v ex0 ex sr st tr tf k post => by
    split at k
    · rename_i b hb
      exact ⟨b, truV_of sr tr hb, post _ h k c _ (Ex.refl c) sr rfl trivial⟩
    · exact k.elim
theorem t_not {ta : FT} (ha : PT X a (LB X.K ct b0 ta)) : PT X (.UnaryOp .Not a pos) (LB X.K ct b0 fun s h Q => ta s h fun x h1 => match tru h1 x with
    | some b => Q (.d (.bl (!b))) h1
    | none => False) :=
  ptMono (pt_not ha) fun σ H Q x => by
    obtain ⟨c, h, s, P, e, ex, sr, st, t, post⟩ := x
    exact ⟨c, h, s, fun k h1 => P (!k) h1, e, ex, sr, st, t, fun k h' p c' e1 e2 => post _ h' p c' e1 e2⟩
/-! ### and, or -/
def fAnd (ta tb : FT) : FT := fun s h Q => ta s h fun x h1 => match tru h1 x with
  | some true => tb s h1 Q
  | some false => Q x h1
  | none => False
def fOr (ta tb : FT) : FT := fun s h Q => ta s h fun x h1 => match tru h1 x with
  | some true => Q x h1
  | some false => tb s h1 Q
  | none => False
theorem LT.now {K : PySem.W.Frag} {c0 c : Bs} {h : SL.Hp} {s : Sto} {σ : L2.St} {tb : FT} {P : TV → SL.Hp → Prop} {Q : VK} (ex0 : Ex K b0 c) (ex : Ex K c0 c) (sr : SRel K ct c h) (st : StoR K c s σ) (k : tb s h P)
    (post : ∀ tv h', P tv h' → ∀ c' w, Ex K c c' → SRel K ct c' h' → TVR K c' tv w → TVF c0 tv w → Q w c'.H) : LT K ct b0 tb σ c.H Q :=
  ⟨c, h, s, P, rfl, ex0, sr, st, k, fun tv h' p c' v e1 e2 e3 e4 => post tv h' p c' v e1 e2 e3 (e4.back ex)⟩
theorem r_and {ta tb : FT} {rest : List Expr} (ha : PE X a (LT X.K ct b0 ta)) (hb : PE X (.BoolOp .And (b :: rest) pos) (LT X.K ct b0 tb)) : PE X (.BoolOp .And (a :: b :: rest) pos) (LT X.K ct b0 (fAnd ta tb)) :=
  peMono (pe_andT ha hb) fun σ H Q x => LT.bind (k := fun x s h1 Q => match tru h1 x with
      | some true => tb s h1 Q
      | some false => Q x h1
      | none => False) x fun c0 c h s tv P v ex0 ex sr st tr tf k post => by
    split at k
    · rename_i hb
      exact ⟨true, truV_of sr tr hb, by rw [if_pos rfl]; exact LT.now ex0 ex sr st k post⟩
    · rename_i hb
      exact ⟨false, truV_of sr tr hb, by rw [if_neg Bool.false_ne_true]; exact post _ h k c _ (Ex.refl c) sr tr tf⟩
    · exact k.elim
theorem r_or {ta tb : FT} {rest : List Expr} (ha : PE X a (LT X.K ct b0 ta)) (hb : PE X (.BoolOp .Or (b :: rest) pos) (LT X.K ct b0 tb)) : PE X (.BoolOp .Or (a :: b :: rest) pos) (LT X.K ct b0 (fOr ta tb)) :=
  peMono (pe_orT ha hb) fun σ H Q x => LT.bind (k := fun x s h1 Q => match tru h1 x with
      | some true => Q x h1
      | some false => tb s h1 Q
      | none => False) x fun c0 c h s tv P v ex0 ex sr st tr tf k post => by
    split at k
    · rename_i hb
      exact ⟨true, truV_of sr tr hb, by rw [if_pos rfl]; exact post _ h k c _ (Ex.refl c) sr tr tf⟩
    · rename_i hb
      exact ⟨false, truV_of sr tr hb, by rw [if_neg Bool.false_ne_true]; exact LT.now ex0 ex sr st k post⟩
    · exact k.elim
theorem tst_and (tb : FT) (s : Sto) (P : Bool → SL.Hp → Prop) : (fun (x : TV) (h1 : SL.Hp) => match tru h1 x with
    | some true => tb s h1 (tst P)
    | some false => tst P x h1
    | none => False) = tst fun k h1 => if k = true then tb s h1 (tst P) else P false h1 := by
  funext x h1
  unfold tst
  cases e : tru h1 x with
  | none => rfl
  | some k => cases k <;> simp
theorem tst_or (tb : FT) (s : Sto) (P : Bool → SL.Hp → Prop) : (fun (x : TV) (h1 : SL.Hp) => match tru h1 x with
    | some true => tst P x h1
    | some false => tb s h1 (tst P)
    | none => False) = tst fun k h1 => if k = true then P true h1 else tb s h1 (tst P) := by
  funext x h1
  unfold tst
  cases e : tru h1 x with
  | none => rfl
  | some k => cases k <;> simp
theorem LB.now {K : PySem.W.Frag} {c : Bs} {h : SL.Hp} {s : Sto} {σ : L2.St} {tb : FT} {P : Bool → SL.Hp → Prop} {Q : Bool → L2.Hp → Prop} (ex0 : Ex K b0 c) (sr : SRel K ct c h) (st : StoR K c s σ) (k : tb s h (tst P))
    (post : ∀ k h', P k h' → ∀ c', Ex K c c' → SRel K ct c' h' → Q k c'.H) : LB K ct b0 tb σ c.H Q := ⟨c, h, s, P, rfl, ex0, sr, st, k, post⟩
theorem t_and {ta tb : FT} {rest : List Expr} (ha : PT X a (LB X.K ct b0 ta)) (hb : PW X (.BoolOp .And (b :: rest) pos) (LB X.K ct b0 tb)) : PW X (.BoolOp .And (a :: b :: rest) pos) (LB X.K ct b0 (fAnd ta tb)) := by
  refine ⟨fun whole pins s σ H Q I x => (pw_and ha hb).run whole pins s σ H Q I ?_⟩
  obtain ⟨c, h, st0, P, e, ex, sr, st, t, post⟩ := x
  unfold fAnd at t
  rw [tst_and] at t
  refine ⟨c, h, st0, _, e, ex, sr, st, t, fun k h' p c' e1 e2 => ?_⟩
  cases k with
  | true =>
    rw [if_pos rfl] at p ⊢
    exact LB.now (ex.trans e1) e2 (st.mono e1) p fun k h2 p2 c2 e3 e4 => post k h2 p2 c2 (e1.trans e3) e4
  | false =>
    rw [if_neg Bool.false_ne_true] at p ⊢
    exact post _ h' p c' e1 e2
theorem t_or {ta tb : FT} {rest : List Expr} (ha : PT X a (LB X.K ct b0 ta)) (hb : PW X (.BoolOp .Or (b :: rest) pos) (LB X.K ct b0 tb)) : PW X (.BoolOp .Or (a :: b :: rest) pos) (LB X.K ct b0 (fOr ta tb)) := by
  refine ⟨fun whole pins s σ H Q I x => (pw_or ha hb).run whole pins s σ H Q I ?_⟩
  obtain ⟨c, h, st0, P, e, ex, sr, st, t, post⟩ := x
  unfold fOr at t
  rw [tst_or] at t
  refine ⟨c, h, st0, _, e, ex, sr, st, t, fun k h' p c' e1 e2 => ?_⟩
  cases k with
  | true =>
    rw [if_pos rfl] at p ⊢
    exact post _ h' p c' e1 e2
  | false =>
    rw [if_neg Bool.false_ne_true] at p ⊢
    exact LB.now (ex.trans e1) e2 (st.mono e1) p fun k h2 p2 c2 e3 e4 => post k h2 p2 c2 (e1.trans e3) e4
/-! ### a if c else b -/
def fIte (tc ta tb : FT) : FT := fun s h Q => tc s h fun x h1 => match tru h1 x with
  | some true => ta s h1 Q
  | some false => tb s h1 Q
  | none => False
theorem tst_ite (ta tb : FT) (s : Sto) (P : TV → SL.Hp → Prop) : (fun (x : TV) (h1 : SL.Hp) => match tru h1 x with
    | some true => ta s h1 P
    | some false => tb s h1 P
    | none => False) = tst fun k h1 => if k = true then ta s h1 P else tb s h1 P := by
  funext x h1
  unfold tst
  cases e : tru h1 x with
  | none => rfl
  | some k => cases k <;> simp
theorem r_ite {tc ta tb : FT} (hc : PT X c (LB X.K ct b0 tc)) (ha : PE X a (LT X.K ct b0 ta)) (hb : PE X b (LT X.K ct b0 tb)) : PE X (.IfExp c a b pos) (LT X.K ct b0 (fIte tc ta tb)) :=
  peMono (pe_ifExp hc ha hb) fun σ H Q x => by
    obtain ⟨c, h, st0, P, e, ex, sr, st, t, post⟩ := x
    unfold fIte at t
    rw [tst_ite] at t
    refine ⟨c, h, st0, _, e, ex, sr, st, t, fun k h' p c' e1 e2 => ?_⟩
    cases k with
    | true =>
      rw [if_pos rfl] at p ⊢
      exact LT.now (ex.trans e1) e1 e2 (st.mono e1) p fun tv h2 p2 c2 w e3 e4 e5 e6 => post tv h2 p2 c2 w (e1.trans e3) e4 e5 e6
    | false =>
      rw [if_neg Bool.false_ne_true] at p ⊢
      exact LT.now (ex.trans e1) e1 e2 (st.mono e1) p fun tv h2 p2 c2 w e3 e4 e5 e6 => post tv h2 p2 c2 w (e1.trans e3) e4 e5 e6
end
end SL

set_option linter.all false
set_option autoImplicit false
set_option maxRecDepth 100000
set_option Elab.async false
/-! SLExp2: comparisons, subscripts, slices. -/
namespace SL
open PySem PySem.Spec PyProof.Rows L2
/-! ### is -/
def isV : V → V → Bool
  | .non, .non => true
  | .bl a, .bl b => a == b
  | _, _ => false
theorem plain_const {x y : V} {v u : Value} (rx : RelV x v) (ry : RelV y u) (hy : y = .non ∨ ∃ b, y = .bl b) : plainIs v u = true ∧ (v == u) = isV x y := by
  rcases hy with rfl | ⟨b, rfl⟩
  · cases (show u = Value.none from ry)
    cases x <;> first
      | (cases rx; exact ⟨rfl, rfl⟩)
      | (obtain ⟨t, rfl⟩ := rx; exact ⟨rfl, rfl⟩)
  · cases (show u = Value.bool b from ry)
    cases x with
    | bl a =>
      cases (show v = Value.bool a from rx)
      exact ⟨rfl, by cases a <;> cases b <;> decide⟩
    | _ => first
      | (cases rx; exact ⟨rfl, rfl⟩)
      | (obtain ⟨t, rfl⟩ := rx; exact ⟨rfl, rfl⟩)
section
variable {X : L2.Cx} {ct : Ct}
theorem isD_const {K : PySem.W.Frag} {c : Bs} {dx dy : TV} {x y : V} {k : Bool} (rx : TVR K c dx x) (ry : TVR K c dy y) (h : isD dx dy = some k) : (y = .non ∨ ∃ b, y = .bl b) ∧ isV x y = k := by
  unfold isD at h
  split at h
  · cases h
    rw [show x = .non from rx, show y = .non from ry]
    exact ⟨.inl rfl, rfl⟩
  · rename_i hne
    cases h
    rw [show y = .non from ry]
    refine ⟨.inl rfl, ?_⟩
    cases dx with
    | d d =>
      cases d with
      | non => exact absurd rfl hne
      | bl b => rw [show x = .bl b from rx]; rfl
      | int i => rw [show x = .int i from rx]; rfl
      | str z => rw [show x = .str (tS z) from rx]; rfl
      | tup xs => obtain ⟨a, vs, rfl, _⟩ := rx; rfl
      | ref l => obtain ⟨_, rfl⟩ := rx; rfl
    | l xs => obtain ⟨a, vs, rfl, _⟩ := rx; rfl
  · cases h
    rename_i a b
    rw [show x = .bl a from rx, show y = .bl b from ry]
    exact ⟨.inr ⟨b, rfl⟩, rfl⟩
  · rename_i b hne
    cases h
    rw [show y = .bl b from ry]
    refine ⟨.inr ⟨b, rfl⟩, ?_⟩
    cases dx with
    | d d =>
      cases d with
      | non => rw [show x = .non from rx]; rfl
      | bl b => exact absurd rfl (hne b)
      | int i => rw [show x = .int i from rx]; rfl
      | str z => rw [show x = .str (tS z) from rx]; rfl
      | tup xs => obtain ⟨a, vs, rfl, _⟩ := rx; rfl
      | ref l => obtain ⟨_, rfl⟩ := rx; rfl
    | l xs => obtain ⟨a, vs, rfl, _⟩ := rx; rfl
  · cases h
theorem c_is : OpR X (compareOp .Is) (RB X.K ct fun _ => isO) := by
  intro pins s σ H x y v u Q I rv ru t
  obtain ⟨c, h, dx, dy, P, rfl, sr, rx, ry, k, post⟩ := t
  unfold isO at k
  split at k
  · rename_i b hb
    obtain ⟨h1, h2⟩ := isD_const rx ry hb
    obtain ⟨h3, h4⟩ := plain_const rv ru h1
    exact wpAny_is_plain h3 (fin_bl I (post _ k) (by rw [h4, h2]))
  · exact k.elim
theorem c_nis : OpR X (compareOp .IsNot) (RB X.K ct fun _ x y Q => isO x y fun b => Q (!b)) := by
  intro pins s σ H x y v u Q I rv ru t
  obtain ⟨c, h, dx, dy, P, rfl, sr, rx, ry, k, post⟩ := t
  unfold isO at k
  split at k
  · rename_i b hb
    obtain ⟨h1, h2⟩ := isD_const rx ry hb
    obtain ⟨h3, h4⟩ := plain_const rv ru h1
    exact wpAny_isNot_plain h3 (fin_bl I (post _ k) (by rw [h4, h2]))
  · exact k.elim
def opOf : Cmp → CmpOp
  | .eq => .Eq
  | .ne => .NotEq
  | .lt => .Lt
  | .le => .LtE
  | .gt => .Gt
  | .ge => .GtE
  | .inn => .In
  | .nin => .NotIn
  | .isn => .Is
  | .nis => .IsNot
theorem c_cmp (o : Cmp) (hp : ct.pr = X.prog) (hw : ct.w = X.w) (hu : X.A.units + 200 < cLine) : OpR X (compareOp (opOf o)) (RB X.K ct fun h => cmp h o) := by
  cases o with
  | eq => exact c_eq hu
  | ne => exact c_ne hu
  | lt => exact c_ord op_lt
  | le => exact c_ord op_le
  | gt => exact c_ord op_gt
  | ge => exact c_ord op_ge
  | inn => exact c_inn false rfl hp hw hu
  | nin => exact c_inn true rfl hp hw hu
  | isn => exact c_is
  | nis => exact c_nis
end
section
variable {X : L2.Cx} {ct : Ct} {b0 : Bs} {e a b c : Expr} {pos : Pos}
def fCmp (o : Cmp) (ta tb : FT) : FT := fun s h Q => ta s h fun x h1 => tb s h1 fun y h2 => cmp h2 o x y fun k => Q (.d (.bl k)) h2
theorem e_cmp {o : Cmp} {ta tb : FT} (hp : ct.pr = X.prog) (hw : ct.w = X.w) (hu : X.A.units + 200 < cLine) (ha : PE X a (LT X.K ct b0 ta)) (hb : PE X b (LT X.K ct b0 tb)) (hm : behindInMarks (opOf o) b = false) : PE X (.Compare a [opOf o] [b] pos) (LT X.K ct b0 (fCmp o ta tb)) :=
  r_cmp (g := fun h => cmp h o) (fun ha hb => pe_cmpR (c_cmp o hp hw hu) ha hb hm) ha hb
theorem et_cmp {o : Cmp} {ta tb : FT} (hp : ct.pr = X.prog) (hw : ct.w = X.w) (hu : X.A.units + 200 < cLine) (ha : PE X a (LT X.K ct b0 ta)) (hb : PE X b (LT X.K ct b0 tb)) (hm : behindInMarks (opOf o) b = false) : PT X (.Compare a [opOf o] [b] pos) (LB X.K ct b0 (fCmp o ta tb)) :=
  r_cmpT (g := fun h => cmp h o) (fun ha hb => pt_cmpR (c_cmp o hp hw hu) ha hb hm) ha hb
/-! ### a chain -/
def fChn (o u : Cmp) (ta tb tc : FT) : FT := fun s h Q => ta s h fun x h1 => tb s h1 fun y h2 => cmp h2 o x y fun k => if k = true then tc s h2 fun z h3 => cmp h3 u y z fun j => Q (.d (.bl j)) h3 else Q (.d (.bl false)) h2
theorem chn_core {o u : Cmp} {ta tb tc : FT} {σ : L2.St} {H : L2.Hp} {P : TV → SL.Hp → Prop} {Q : VK} {c : Bs} {h : SL.Hp} {s : Sto} (e : c.H = H) (ex0 : Ex X.K b0 c) (sr : SRel X.K ct c h) (st : StoR X.K c s σ)
    (t : fChn o u ta tb tc s h P) (post : ∀ k h', P (.d (.bl k)) h' → ∀ c', Ex X.K c c' → SRel X.K ct c' h' → Q (.bl k) c'.H) :
    tChain (RB X.K ct fun h => cmp h o) (RB X.K ct fun h => cmp h u) (LT X.K ct b0 ta) (LT X.K ct b0 tb) (LT X.K ct b0 tc) σ H Q := by
  refine ⟨c, h, s, _, e, ex0, sr, st, t, fun x h1 k1 c1 v ex1 sr1 tr1 tf1 => ⟨c1, h1, s, _, rfl, ex0.trans ex1, sr1, st.mono ex1, k1, fun y h2 k2 c2 w ex2 sr2 tr2 tf2 => ⟨c2, h2, x, y, _, rfl, sr2, tr1.mono ex2, tr2, k2, fun k pk => ⟨k, rfl, ?_⟩⟩⟩⟩
  cases k with
  | true =>
    rw [if_pos rfl] at pk ⊢
    exact ⟨c2, h2, s, _, rfl, (ex0.trans ex1).trans ex2, sr2, (st.mono ex1).mono ex2, pk, fun z h3 k3 c3 w3 ex3 sr3 tr3 tf3 => ⟨c3, h3, y, z, _, rfl, sr3, tr2.mono ex3, tr3, k3, fun j pj => post j h3 pj c3 ((ex1.trans ex2).trans ex3) sr3⟩⟩
  | false =>
    rw [if_neg Bool.false_ne_true] at pk ⊢
    exact post false h2 pk c2 (ex1.trans ex2) sr2
theorem e_chn {o u : Cmp} {ta tb tc : FT} (hp : ct.pr = X.prog) (hw : ct.w = X.w) (hu : X.A.units + 200 < cLine) (ha : PE X a (LT X.K ct b0 ta)) (hb : PE X b (LT X.K ct b0 tb)) (hc : PE X c (LT X.K ct b0 tc)) (hm : lastMarks [opOf o, opOf u] [b, c] = false) :
    PE X (.Compare a [opOf o, opOf u] [b, c] pos) (LT X.K ct b0 (fChn o u ta tb tc)) :=
  peMono (pe_chain (c_cmp o hp hw hu) (c_cmp u hp hw hu) ha hb hc hm) fun σ H Q x => by
    obtain ⟨c, h, s, P, e, ex, sr, st, t, post⟩ := x
    exact chn_core e ex sr st t fun k h' p c' ex' sr' => post _ h' p c' (.bl k) ex' sr' rfl trivial
theorem et_chn {o u : Cmp} {ta tb tc : FT} (hp : ct.pr = X.prog) (hw : ct.w = X.w) (hu : X.A.units + 200 < cLine) (ha : PE X a (LT X.K ct b0 ta)) (hb : PE X b (LT X.K ct b0 tb)) (hc : PE X c (LT X.K ct b0 tc)) (hm : lastMarks [opOf o, opOf u] [b, c] = false) :
    PT X (.Compare a [opOf o, opOf u] [b, c] pos) (LB X.K ct b0 (fChn o u ta tb tc)) :=
  ptMono (pt_chain (c_cmp o hp hw hu) (c_cmp u hp hw hu) ha hb hc hm) fun σ H Q x => by
    obtain ⟨c, h, s, P, e, ex, sr, st, t, post⟩ := x
    exact chn_core (P := tst P) e ex sr st t fun k h' p c' ex' sr' => ⟨k, rfl, post k h' p c' ex' sr'⟩
/-! ### a[i] -/
theorem atI_map {α β : Type} {xs : List α} {ys : List β} {i : Int} {x : α} (hl : ys.length = xs.length) (h : L2.atI xs i = some x) : ∃ j : Nat, xs[j]? = some x ∧ ∀ y : β, ys[j]? = some y → L2.atI ys i = some y := by
  unfold L2.atI at h ⊢
  cases e : ixN xs.length i with
  | none => rw [e] at h; cases h
  | some j =>
    rw [e] at h
    refine ⟨j, h, fun y hy => ?_⟩
    rw [hl, e]
    exact hy
theorem drs_at {K : PySem.W.Frag} {c : Bs} {xs : List D} {vs : List V} {i : Int} {x : D} (r : DRs K c xs vs) (h : L2.atI xs i = some x) : ∃ v, L2.atI vs i = some v ∧ DR K c x v := by
  obtain ⟨j, h1, h2⟩ := atI_map (ys := vs) r.length h
  obtain ⟨v, h3, h4⟩ := DRs.get r h1
  exact ⟨v, h2 v h3, h4⟩
/-- d[k] by values -/
def rIxD (K : PySem.W.Frag) (ct : Ct) : R2 := fun x y H Q => ∃ (c : Bs) (l : Nat) (kvs : List (D × D)) (k d : D), c.H = H ∧ x = .ref (c.μ l) ∧ ORd K ct c (c.μ l) kvs ∧ fitK kvs k = true ∧ DR K c k y ∧ kget kvs k = some d ∧ ∀ v, DR K c d v → Q v H
theorem ix_dic (hp : ct.pr = X.prog) (hw : ct.w = X.w) (hu : X.A.units + 200 < cLine) : IxR X (rIxD X.K ct) := by
  intro value slice pins s σ H x y v u Q I rx ry h hs
  obtain ⟨c, l, kvs, k, d, rfl, rfl, o, f, dr, hg, q⟩ := h
  cases rx
  obtain ⟨w1, w2⟩ := dic_get (E := X.xe) hp hw hu I o f dr ry hg (Q := EP X pins σ Q) fun v w' s' I' dv rw' => ⟨v, c.H, I', rw', q v dv⟩
  exact tail_any w2 PySem.F.slot_dict_getitem.lookup w1 hs
theorem ix_any (hp : ct.pr = X.prog) (hw : ct.w = X.w) (hu : X.A.units + 200 < cLine) : IxR X (fun x y H Q => rIx X.K x y H Q ∨ rIxD X.K ct x y H Q) := ix_seq.or (ix_dic hp hw hu)
theorem e_idx {ta tb : FT} (hp : ct.pr = X.prog) (hw : ct.w = X.w) (hu : X.A.units + 200 < cLine) (ha : PE X a (LT X.K ct b0 ta)) (hb : PE X b (LT X.K ct b0 tb)) (hs : PlainIx b) : PE X (.Subscript a b pos) (LT X.K ct b0 fun s h Q => ta s h fun x h1 => tb s h1 fun y h2 => idx h2 x y fun z => Q z h2) :=
  peMono (pe_ix (ix_any hp hw hu) ha hb hs) fun σ H Q x => LT.bind x fun c0 c h s tv P v ex0 ex sr st tr tf k post => by
    refine ⟨c, h, s, _, rfl, ex0, sr, st, k, fun y h2 k2 c2 w ex2 sr2 tr2 tf2 => ?_⟩
    have tr' := tr.mono ex2
    have fin : ∀ (z : D) (u : V), P (.d z) h2 → DR X.K c2 z u → Q u c2.H := fun z u p r => post (.d z) h2 p c2 u ex2 sr2 r trivial
    have lists : ∀ (xs : List D) (vs : List V) (p : Addr) (i : Int) (z : D), v = .ref p → (SqL X.K c2.H p vs ∨ SqT X.K c2.H p vs) → DRs X.K c2 xs vs → y = .d (.int i) → L2.atI xs i = some z → P (.d z) h2 → (rIx X.K v w c2.H Q ∨ rIxD X.K ct v w c2.H Q) := fun xs vs p i z e1 e2 e3 e4 e5 e6 => by
      subst e1 e4
      obtain ⟨u, h3, h4⟩ := drs_at e3 e5
      rcases e2 with e2 | e2
      · exact .inl (.inl ⟨p, vs, i, u, rfl, tr2, e2, h3, fin z u e6 h4⟩)
      · exact .inl (.inr (.inl ⟨p, vs, i, u, rfl, tr2, e2, h3, fin z u e6 h4⟩))
    cases tv with
    | l xs =>
      obtain ⟨p, vs, rfl, t, rs, _⟩ := tr'
      simp only [idx] at k2
      split at k2
      · split at k2
        · rename_i hz
          exact lists xs vs p _ _ rfl (.inl (SqL.of t)) rs rfl hz k2
        · exact k2.elim
      · exact k2.elim
    | d d =>
      cases d with
      | str z =>
        simp only [idx] at k2
        split at k2
        · split at k2
          · rename_i i _ ch hc
            refine .inl (.inr (.inr ⟨tS z, i, ch, tr', tr2, by rw [tS_len, ← sz_line]; exact k2.1, hc, fin (.str [ch]) _ k2.2 rfl⟩))
          · exact k2.elim
        · exact k2.elim
      | tup xs =>
        obtain ⟨p, vs, rfl, t, rs⟩ := tr'
        simp only [idx] at k2
        split at k2
        · split at k2
          · rename_i hz
            exact lists xs vs p _ _ rfl (.inr t) rs rfl hz k2
          · exact k2.elim
        · exact k2.elim
      | ref l =>
        obtain ⟨hl, rfl⟩ := id tr'
        cases hx : h2[l]? with
        | none => simp only [idx, hx] at k2
        | some o =>
          cases o with
          | lst xs =>
            obtain ⟨vs, q, rs⟩ := sr2.obj _ _ hx
            simp only [idx, hx] at k2
            split at k2
            · rename_i e
              cases e
              split at k2
              · rename_i hz
                exact lists xs vs _ _ _ rfl (.inl (SqL.of q)) rs rfl hz k2
              · exact k2.elim
            · rename_i e; cases e
            · rename_i e; cases e
            · rename_i e; cases e
            · exact k2.elim
          | fz xs =>
            obtain ⟨vs, q, rs⟩ := sr2.obj _ _ hx
            simp only [idx, hx] at k2
            split at k2
            · rename_i e; cases e
            · rename_i e
              cases e
              split at k2
              · rename_i hz
                exact lists xs vs _ _ _ rfl (.inl (SqL.ofRd q)) rs rfl hz k2
              · exact k2.elim
            · rename_i e; cases e
            · rename_i e; cases e
            · exact k2.elim
          | dic kvs =>
            cases y with
            | l _ => simp only [idx, hx] at k2
            | d kd =>
              have k3 : fitK kvs kd = true ∧ (match kget kvs kd with
                | some v => P (.d v) h2
                | none => False) := by
                have z := k2
                simp only [idx, hx] at z
                exact z
              obtain ⟨f, k3⟩ := k3
              split at k3
              · rename_i d hg
                exact .inr ⟨c2, l, kvs, kd, d, rfl, rfl, sr2.obj _ _ hx, f, tr2, hg, fun v dv => fin d v k3 dv⟩
              · exact k3.elim
          | lck oo kvs =>
            cases y with
            | l _ => simp only [idx, hx] at k2
            | d kd =>
              have k3 : fitK kvs kd = true ∧ (match kget kvs kd with
                | some v => P (.d v) h2
                | none => False) := by
                have z := k2
                simp only [idx, hx] at z
                exact z
              obtain ⟨f, k3⟩ := k3
              split at k3
              · rename_i d hg
                exact .inr ⟨c2, l, kvs, kd, d, rfl, rfl, ORk.d (sr2.obj _ _ hx), f, tr2, hg, fun v dv => fin d v k3 dv⟩
              · exact k3.elim
          | ins _ _ =>
            simp only [idx, hx] at k2
          | exc _ _ =>
            simp only [idx, hx] at k2
      | non => exact k2.elim
      | bl _ => exact k2.elim
      | int _ => exact k2.elim
end
end SL

set_option linter.all false
set_option autoImplicit false
set_option maxRecDepth 100000
set_option Elab.async false
/-! SLExp3: slices, reversals, displays. -/
namespace SL
open PySem PySem.Spec PyProof.Rows L2
/-! ### t[::-1] of a tuple -/
theorem back_all (xs : List Value) (g : Nat → Option Value) : ∀ l : List Nat, (∀ k, k ∈ l → g k = some (xs.getD (xs.length - 1 - k) .none)) → l.filterMap g = l.map fun k => xs.getD (xs.length - 1 - k) .none
  | [], _ => rfl
  | a :: l, h => by
    rw [List.filterMap_cons, h a (List.mem_cons_self ..), List.map_cons]
    show _ :: _ = _
    rw [back_all xs g l fun k hk => h k (List.mem_cons_of_mem _ hk)]
theorem back_pick (xs : List Value) : ((List.range xs.length).filterMap fun (k : Nat) => xs.toArray[(((xs.length : Int) - 1) + (k : Int) * (-1)).toNat]?) = xs.reverse := by
  apply List.ext_getElem?
  intro i
  rw [back_all xs _ _ fun k hk => ?_, List.getElem?_map]
  · by_cases hi : i < xs.length
    · rw [List.getElem?_range hi, List.getElem?_reverse hi, List.getElem?_eq_getElem (by omega)]
      show some (xs.getD _ _) = _
      rw [List.getD_eq_getElem?_getD, List.getElem?_eq_getElem (by omega)]
      rfl
    · rw [List.getElem?_eq_none (by simpa using hi), List.getElem?_eq_none (by simpa using hi)]
      rfl
  · have hk' : k < xs.length := List.mem_range.mp hk
    have e : (((xs.length : Int) - 1) + (k : Int) * (-1)).toNat = xs.length - 1 - k := by omega
    rw [e, List.getElem?_toArray, List.getD_eq_getElem?_getD, List.getElem?_eq_getElem (by omega)]
    rfl
section
variable {prog : Program} {w : World} {A : Around} {E : Value → Shared → Prop} {s : Shared}
theorem tuple_back {t sl : Addr} {xs : List Value} {vl vu vs : Value} {Q : Value → Shared → Prop} (ht : IsTup s.heap t xs.toArray) (hs : s.heap.IsSliceOf sl vl vu vs) (pl : IsPart vl none) (pu : IsPart vu none) (ps : IsPart vs (some (-1)))
    (h : Q (.ref s.heap.objs.size) { s with heap := s.heap.push { cls := .type "tuple", data := .seq xs.reverse.toArray } }) (hsz : xs.length ≤ sizeLine) : wpAny (model prog w) A (getItem (.ref t) (.ref sl)) Q E s := by
  have fits : sizeOk (.seq xs.reverse.toArray) := by
    show xs.reverse.toArray.size ≤ sizeLine
    rw [List.size_toArray, List.length_reverse]
    exact hsz
  obtain ⟨os, hos, hcs, hds⟩ := id hs
  have isS : s.TypeIs (.ref sl) "slice" := ⟨os, hos, hcs⟩
  have n0 : ((xs.toArray.size : Nat) : Int) = (xs.length : Int) := by rw [List.size_toArray]
  unfold getItem
  try with_reducible refine wpAny_holding ?_
  first | refine wpAny_bind (wpAny_pure ?_) | skip
  refine wpAny_bind (wpAny_sequenceKey ht.typeIs (by decide) (wpAny_bind (wpAny_callSpecial?_slot (name := Str.ofString "__getitem__") ht.typeIs slot_tuple_getitem (wpAny_call_entry slot_tuple_getitem ht.typeIs entry_tuple_getitem ?_ (args_tuple_getitem _ _)))))
  show wpAny _ _ (Builtin.Tuple.tupleItemsOf (.ref t) >>= _) _ _ s
  refine wpAny_bind (tupleItemsOf_ ht (wpAny_bind (wpAny_typeOf isS ?_)))
  rw [if_pos (by decide)]
  have go : ∀ {A : Around} {E : Value → Shared → Prop} {R : Int × Int × Nat → Shared → Prop}, R ((xs.length : Int) - 1, -1, xs.length) s → wpAny (model prog w) A (Builtin.Slice.sliceApplied (.ref sl) (pure ((xs.toArray.size : Nat) : Int))) R E s := fun {A E R} hR => by
    unfold Builtin.Slice.sliceApplied Builtin.Slice.sliceFields
    refine wpAny_bind (wpAny_bind (wpAny_field hos hds (x := vl) rfl (wpAny_bind (wpAny_field hos hds (x := vu) rfl (wpAny_bind (wpAny_field hos hds (x := vs) rfl (wpAny_pure ?_)))))))
    refine wpAny_bind (HT.slicePart_ ps ?_)
    show wpAny _ _ (if ((-1 : Int) == 0) = true then _ else _) _ _ s
    rw [if_neg (by decide)]
    refine wpAny_bind (HT.slicePart_ pl (wpAny_bind (HT.slicePart_ pu (wpAny_bind (wpAny_pure ?_)))))
    rw [n0]
    have e1 : Builtin.Slice.sliceAdjust none none (-1) (xs.length : Int) = ((xs.length : Int) - 1, -1) := rfl
    have e2 : Builtin.Slice.slicePlaces ((xs.length : Int) - 1) (-1) (-1) = xs.length := by
      unfold Builtin.Slice.slicePlaces
      rw [if_neg (by decide)]
      by_cases z : (xs.length : Int) - 1 > -1
      · rw [if_pos z]
        have : ((xs.length : Int) - 1 - (-1) - 1) / (-(-1)) + 1 = (xs.length : Int) := by
          rw [show (-(-1) : Int) = 1 from rfl, Int.ediv_one]
          omega
        rw [this]
        omega
      · rw [if_neg z]
        omega
    show wpAny _ _ (match Builtin.Slice.sliceAdjust none none (-1) (xs.length : Int) with | (lo, hi) => pure (lo, (-1 : Int), Builtin.Slice.slicePlaces lo hi (-1))) _ _ s
    rw [e1]
    show wpAny _ _ (pure ((xs.length : Int) - 1, (-1 : Int), Builtin.Slice.slicePlaces ((xs.length : Int) - 1) (-1) (-1))) _ _ s
    rw [e2]
    exact wpAny_pure hR
  refine wpAny_bind (go ?_)
  have no : ¬ ((((xs.length : Int) - 1) == 0 && (-1 : Int) == 1 && xs.length == xs.toArray.size) = true) := by
    rw [show ((-1 : Int) == 1) = false from rfl, Bool.and_false, Bool.false_and]
    exact Bool.false_ne_true
  show wpAny _ _ (if (((xs.length : Int) - 1) == 0 && (-1 : Int) == 1 && xs.length == xs.toArray.size) = true then _ else _) _ _ s
  rw [if_neg no, back_pick]
  first
    | exact wpAny_bind (m := Builtin.Tuple.tupleExact _) (wpAny_newObj_type (wpAny_pure ⟨_, rfl, wpAny_pure h⟩) fits)
    | exact wpAny_bind (m := Builtin.Tuple.tupleExact _) (wpAny_newObj_type (wpAny_bind (wpAny_pure (wpAny_pure ⟨_, rfl, wpAny_pure h⟩))) fits)
    | exact wpAny_bind (wpAny_bind (m := Builtin.Tuple.tupleExact _) (wpAny_newObj_type (wpAny_pure (wpAny_pure ⟨_, rfl, wpAny_pure h⟩)) fits))
    | exact wpAny_bind (wpAny_bind (m := Builtin.Tuple.tupleExact _) (wpAny_newObj_type (wpAny_pure ⟨_, rfl, wpAny_pure h⟩) fits))
end
def tBack (K : PySem.W.Frag) (te : TE) : TE := fun σ H Q => te σ H fun x H1 => ∃ a xs, x = .ref a ∧ ((SqL K H1 a xs ∧ ∀ p, H1 p = none → Q (.ref p) (upd H1 p (.lst xs.reverse))) ∨ (SqT K H1 a xs ∧ ∀ p, H1 p = none → Q (.ref p) (upd H1 p (.tup xs.reverse))))
theorem pe_back {X : L2.Cx} {e : Expr} {te : TE} {k : Nat} {p1 p2 p3 pos : Pos} (he : PE X e te) : PE X (.Subscript e (.Slice none none (some (.UnaryOp .USub (.Constant (.int 1) k p1) p2)) p3) pos) (tBack X.K te) := by
  refine ⟨fun pins s σ H Q I h => Subscript_ (thn (he.run pins s σ H _ I h) fun v s1 ⟨x, H1, I1, r1, a, xs, ex, q⟩ => ?_)⟩
  subst ex
  cases r1
  have step1 : PO X (some (.UnaryOp .USub (.Constant (.int 1) k p1) p2)) (tPart (tUn (rU fun i => .int (-i)) (tC (.int 1)))) := po_some (pe_un un_neg pe_int)
  refine wpAny_Slice (thn (po_none.run pins s1 σ H1 (fun o H2 => o = none ∧ H2 = H1) I1 ⟨rfl, rfl⟩) fun vl s2 ⟨o2, H2, I2, pl, e2, d2⟩ => ?_)
  subst e2 d2
  refine thn (po_none.run pins s2 σ H2 (fun o H3 => o = none ∧ H3 = H2) I2 ⟨rfl, rfl⟩) fun vu s3 ⟨o3, H3, I3, pu, e3, d3⟩ => ?_
  subst e3 d3
  refine thn (step1.run pins s3 σ H3 (fun o H4 => o = some (-1) ∧ H4 = H3) I3 ⟨1, rfl, -1, rfl, rfl, rfl⟩) fun vs s4 ⟨o4, H4, I4, ps, e4, d4⟩ => ?_
  subst e4 d4
  have I5 : L2.Inv X pins σ H4 { s4 with heap := s4.heap.push { cls := .type "slice", data := .fields #[vl, vu, vs] } } := I4.kept (t' := s4.toks) fun b ob q => Heap.get?_push_of_some _ q
  show wpAny (model X.prog X.w) X.A (subscriptTail e (.Slice none none (some (.UnaryOp .USub (.Constant (.int 1) k p1) p2)) p3) (.ref a) (.ref s4.heap.objs.size)) (EP X pins σ Q) X.xe { s4 with heap := s4.heap.push { cls := .type "slice", data := .fields #[vl, vu, vs] } }
  rcases q with ⟨hx, q⟩ | ⟨hx, q⟩
  · obtain ⟨its, r, ht, hz⟩ := I5.list hx
    have len := r.length
    refine tail_any (ops := [.ref a, .ref s4.heap.objs.size]) ht.isList.typeIs (PySem.slot_list_getitem.lookup) (wpAny_getItem_list_slice ht.isList (Heap.IsSliceOf.new _ vl vu vs) pl pu ps (by decide) ?_ (by rw [List.size_toArray]; omega)) (by with_unfolding_all rfl)
    rw [PySem.W.krv_pick]
    exact ⟨.ref _, _, I5.laid (t' := s4.toks) (o := .lst xs.reverse) (fun b ob q => Heap.get?_push_of_some _ q) (Nat.le_refl _) ⟨by rw [List.length_reverse]; exact hz, _, 0, r.reverse, Heap.get?_push_size _ rfl⟩, rfl, q _ (I5.hok.fresh (Nat.le_refl _))⟩
  · obtain ⟨its, r, ht, hz⟩ := I5.tuple hx
    have len := r.length
    refine tail_any (ops := [.ref a, .ref s4.heap.objs.size]) ht.typeIs slot_tuple_getitem.lookup (tuple_back ht (Heap.IsSliceOf.new _ vl vu vs) pl pu ps ?_ (by omega)) (by with_unfolding_all rfl)
    exact ⟨.ref _, _, I5.laid (t' := s4.toks) (o := .tup xs.reverse) (fun b ob q => Heap.get?_push_of_some _ q) (Nat.le_refl _) ⟨by rw [List.length_reverse]; exact hz, _, r.reverse, ⟨_, Heap.get?_push_size _ rfl, rfl, _, rfl⟩⟩, rfl, q _ (I5.hok.fresh (Nat.le_refl _))⟩
section
variable {X : L2.Cx} {ct : Ct} {b0 : Bs} {e a b c : Expr} {pos : Pos}
theorem e_rev {ta : FT} {k : Nat} {p1 p2 p3 : Pos} (ha : PE X a (LT X.K ct b0 ta)) : PE X (.Subscript a (.Slice none none (some (.UnaryOp .USub (.Constant (.int 1) k p1) p2)) p3) pos) (LT X.K ct b0 fun s h Q => ta s h fun x h1 => rev h1 x fun z => Q z h1) :=
  peMono (pe_back ha) fun σ H Q x => LT.bind x fun c0 c h s tv P v ex0 ex sr st tr tf k post => by
    have lists : ∀ (xs : List D) (vs : List V) (p : Addr), v = .ref p → SqL X.K c.H p vs → DRs X.K c xs vs → P (.l xs.reverse) h → ∃ a xs, v = .ref a ∧ ((SqL X.K c.H a xs ∧ ∀ p, c.H p = none → Q (.ref p) (upd c.H p (.lst xs.reverse))) ∨ (SqT X.K c.H a xs ∧ ∀ p, c.H p = none → Q (.ref p) (upd c.H p (.tup xs.reverse)))) :=
      fun xs vs p e1 e2 e3 e4 => ⟨p, vs, e1, .inl ⟨e2, fun q hq => done_list ex sr (DRs.reverse e3) hq e4 post⟩⟩
    unfold rev at k
    split at k
    · obtain ⟨p, vs, rfl, t, rs⟩ := tr
      exact ⟨p, vs, rfl, .inr ⟨t, fun q hq => done_tup sr (DRs.reverse rs) hq k post⟩⟩
    · rename_i l
      split at k
      · rename_i xs hx
        obtain ⟨p, vs, e1, rs, t⟩ := seq_there sr tr hx
        rcases t with t | t
        · exact lists xs vs p e1 t rs k
        · obtain ⟨hl, e2⟩ := tr
          simp only [items] at hx
          split at hx
          · rename_i hy
            obtain ⟨vs', q', rs'⟩ := sr.obj _ _ hy
            cases hx
            exact lists _ vs' _ e2 (SqL.of q') rs' k
          · rename_i hy
            obtain ⟨vs', q', rs'⟩ := sr.obj _ _ hy
            cases hx
            exact lists _ vs' _ e2 (SqL.ofRd q') rs' k
          · cases hx
      · exact k.elim
    · obtain ⟨p, vs, rfl, t, rs, _⟩ := tr
      exact lists _ vs p rfl (SqL.of t) rs k
    · exact k.elim
/-! ### slices -/
abbrev rSlD (K : PySem.W.Frag) : V → Option Int → Option Int → L2.Hp → VK → Prop := fun x lo hi H Q => rSlL K x lo hi H Q ∨ (rSlA K x lo hi H Q ∨ rSlS x lo hi H Q)
theorem sl_any : SlR X (rSlD X.K) := sl_list.or (sl_tupA.or sl_str)
theorem DRs.cut {K : PySem.W.Frag} {c : Bs} {xs : List D} {vs : List V} (r : DRs K c xs vs) (lo hi : Option Int) : DRs K c (cut xs lo hi) (cutV vs lo hi) := by
  unfold SL.cut cutV SL.ix
  rw [r.length]
  exact DRs.take _ (DRs.drop _ r)
theorem slc_core {c0 c : Bs} {h : SL.Hp} {tv : TV} {v : V} {lo hi : Option Int} {P : TV → SL.Hp → Prop} {Q : VK} (ex : Ex X.K c0 c) (sr : SRel X.K ct c h) (tr : TVR X.K c tv v) (k : slc h tv lo hi fun z => P z h)
    (post : ∀ tv h', P tv h' → ∀ c' w, Ex X.K c c' → SRel X.K ct c' h' → TVR X.K c' tv w → TVF c0 tv w → Q w c'.H) : rSlD X.K v lo hi c.H Q := by
  have lists : ∀ (xs : List D) (vs : List V) (p : Addr), v = .ref p → SqL X.K c.H p vs → DRs X.K c xs vs → P (.l (cut xs lo hi)) h → rSlD X.K v lo hi c.H Q :=
    fun xs vs p e1 e2 e3 e4 => .inl ⟨p, vs, e1, e2, fun q hq => done_list ex sr (DRs.cut e3 lo hi) hq e4 post⟩
  unfold slc at k
  split at k
  · rename_i z
    refine .inr (.inr ⟨tS z, tr, by rw [tS_len, ← sz_line]; exact k.1, post _ h k.2 c _ (Ex.refl c) sr rfl trivial⟩)
  · rename_i xs
    obtain ⟨p, vs, rfl, t, rs⟩ := tr
    refine .inr (.inl ⟨p, vs, rfl, t, fun hw => ?_, fun hw q hq => done_tup sr (DRs.cut rs lo hi) hq k post⟩)
    refine post _ h k c _ (Ex.refl c) sr ⟨p, vs, rfl, t, ?_⟩ trivial
    have e : cutV vs lo hi = vs := by
      unfold cutV
      rw [hw.1, hw.2, List.drop_zero, Nat.sub_zero, List.take_length]
    have := DRs.cut rs lo hi
    rw [e] at this
    exact this
  · rename_i l
    split at k
    · rename_i xs hx
      obtain ⟨hl, e2⟩ := tr
      simp only [items] at hx
      split at hx
      · rename_i hy
        obtain ⟨vs', q', rs'⟩ := sr.obj _ _ hy
        cases hx
        exact lists _ vs' _ e2 (SqL.of q') rs' k
      · rename_i hy
        obtain ⟨vs', q', rs'⟩ := sr.obj _ _ hy
        cases hx
        exact lists _ vs' _ e2 (SqL.ofRd q') rs' k
      · cases hx
    · exact k.elim
  · obtain ⟨p, vs, rfl, t, rs, _⟩ := tr
    exact lists _ vs p rfl (SqL.of t) rs k
  · exact k.elim
theorem e_slF {ta tl : FT} {p2 : Pos} (ha : PE X a (LT X.K ct b0 ta)) (hl : PE X b (LT X.K ct b0 tl)) : PE X (.Subscript a (.Slice (some b) none none p2) pos) (LT X.K ct b0 fun s h Q => ta s h fun x h1 => tl s h1 fun y h2 => match y with
    | .d (.int i) => slc h2 x (some i) none fun z => Q z h2
    | _ => False) :=
  peMono (pe_slice sl_any ha (po_some hl) po_none) fun σ H Q x => LT.bind x fun c0 c h s tv P v ex0 ex sr st tr tf k post => by
    refine ⟨c, h, s, _, rfl, ex0, sr, st, k, fun y h2 k2 c2 w ex2 sr2 tr2 tf2 => ?_⟩
    split at k2
    · exact ⟨_, tr2, slc_core (c0 := c0) (P := P) (ex.trans ex2) sr2 (tr.mono ex2) k2 fun z h3 p c3 u ex3 => post z h3 p c3 u (ex2.trans ex3)⟩
    · exact k2.elim
theorem e_slT {ta tl : FT} {p2 : Pos} (ha : PE X a (LT X.K ct b0 ta)) (hl : PE X b (LT X.K ct b0 tl)) : PE X (.Subscript a (.Slice none (some b) none p2) pos) (LT X.K ct b0 fun s h Q => ta s h fun x h1 => tl s h1 fun y h2 => match y with
    | .d (.int i) => slc h2 x none (some i) fun z => Q z h2
    | _ => False) :=
  peMono (pe_slice sl_any ha po_none (po_some hl)) fun σ H Q x => LT.bind x fun c0 c h s tv P v ex0 ex sr st tr tf k post => by
    refine ⟨c, h, s, _, rfl, ex0, sr, st, k, fun y h2 k2 c2 w ex2 sr2 tr2 tf2 => ?_⟩
    split at k2
    · exact ⟨_, tr2, slc_core (c0 := c0) (P := P) (ex.trans ex2) sr2 (tr.mono ex2) k2 fun z h3 p c3 u ex3 => post z h3 p c3 u (ex2.trans ex3)⟩
    · exact k2.elim
theorem e_slB {ta tl th : FT} {p2 : Pos} (ha : PE X a (LT X.K ct b0 ta)) (hl : PE X b (LT X.K ct b0 tl)) (hh : PE X c (LT X.K ct b0 th)) : PE X (.Subscript a (.Slice (some b) (some c) none p2) pos) (LT X.K ct b0 fun s h Q => ta s h fun x h1 => tl s h1 fun y h2 => match y with
    | .d (.int i) => th s h2 fun y2 h3 => (match y2 with
      | .d (.int j) => slc h3 x (some i) (some j) fun z => Q z h3
      | _ => False)
    | _ => False) :=
  peMono (pe_slice sl_any ha (po_some hl) (po_some hh)) fun σ H Q x => LT.bind x fun c0 c h s tv P v ex0 ex sr st tr tf k post => by
    refine ⟨c, h, s, _, rfl, ex0, sr, st, k, fun y h2 k2 c2 w ex2 sr2 tr2 tf2 => ?_⟩
    split at k2
    · refine ⟨_, tr2, c2, h2, s, _, rfl, ex0.trans ex2, sr2, st.mono ex2, k2, fun z h3 k3 c3 w3 ex3 sr3 tr3 tf3 => ?_⟩
      split at k3
      · exact ⟨_, tr3, slc_core (c0 := c0) (P := P) (ex.trans (ex2.trans ex3)) sr3 (tr.mono (ex2.trans ex3)) k3 fun z h4 p c4 u ex4 => post z h4 p c4 u ((ex2.trans ex3).trans ex4)⟩
      · exact k3.elim
    · exact k2.elim
end
end SL

set_option linter.all false
set_option autoImplicit false
set_option maxRecDepth 100000
set_option Elab.async false
/-! SLExp4: argument lists, displays, calls of built-in functions. -/
namespace SL
open PySem PySem.Spec PyProof.Rows L2
def TVRs (K : PySem.W.Frag) (c : Bs) : List TV → List V → Prop
  | [], vs => vs = []
  | t :: ts, vs => ∃ v r, vs = v :: r ∧ TVR K c t v ∧ TVRs K c ts r
theorem TVRs.mono {K : PySem.W.Frag} {b c : Bs} (x : Ex K b c) : ∀ {ts : List TV} {vs : List V}, TVRs K b ts vs → TVRs K c ts vs
  | [], _, h => h
  | t :: ts, vs, h => by
    obtain ⟨v, r, e, h1, h2⟩ := h
    exact ⟨v, r, e, h1.mono x, TVRs.mono x h2⟩
abbrev FA := Sto → SL.Hp → (List D → SL.Hp → Prop) → Prop
abbrev FV := Sto → SL.Hp → (List TV → SL.Hp → Prop) → Prop
def LV (K : PySem.W.Frag) (ct : Ct) (b0 : Bs) (t : FV) : L2.TA := fun σ H Q => ∃ (c : Bs) (h : SL.Hp) (s : Sto) (P : List TV → SL.Hp → Prop), c.H = H ∧ Ex K b0 c ∧ SRel K ct c h ∧ StoR K c s σ ∧ t s h P ∧
  ∀ xs h', P xs h' → ∀ c' vs, Ex K c c' → SRel K ct c' h' → TVRs K c' xs vs → Q vs c'.H
section
variable {X : L2.Cx} {ct : Ct} {b0 : Bs} {e a b c : Expr} {es : List Expr} {pos : Pos}
theorem a_nil : PA X [] (LA X.K ct b0 fun s h Q => Q [] h) := paMono pa_nil fun σ H Q x => by
  obtain ⟨c, h, s, P, rfl, ex, sr, st, t, post⟩ := x
  exact post _ h t c [] (Ex.refl c) sr rfl
theorem a_cons {ta : FT} {tr : FA} (ha : PE X e (LT X.K ct b0 ta)) (hr : PA X es (LA X.K ct b0 tr)) (hs : starEach (e :: es) X.env = (false, eval e X.env) :: starEach es X.env) :
    PA X (e :: es) (LA X.K ct b0 fun s h Q => ta s h (lay fun x h1 => tr s h1 fun xs h2 => Q (x :: xs) h2)) := paMono (pa_cons ha hr hs) fun σ H Q x => by
  obtain ⟨c, h, s, P, e, ex, sr, st, t, post⟩ := x
  refine ⟨c, h, s, _, e, ex, sr, st, t, fun tv h1 p c1 v ex1 sr1 tr1 tf1 => ?_⟩
  obtain ⟨c2, h2, d, ex2, sr2, dr, p2, e2⟩ := LT.laid ex1 sr1 tr1 tf1 p
  refine ⟨c2, h2, s, _, e2, ex.trans ex2, sr2, st.mono ex2, p2, fun xs h3 p3 c3 vs ex3 sr3 drs => post (d :: xs) h3 p3 c3 (v :: vs) (ex2.trans ex3) sr3 ⟨v, vs, rfl, DR.mono ex3 d v dr, drs⟩⟩
theorem v_nil : PA X [] (LV X.K ct b0 fun s h Q => Q [] h) := paMono pa_nil fun σ H Q x => by
  obtain ⟨c, h, s, P, rfl, ex, sr, st, t, post⟩ := x
  exact post _ h t c [] (Ex.refl c) sr rfl
theorem v_cons {ta : FT} {tr : FV} (ha : PE X e (LT X.K ct b0 ta)) (hr : PA X es (LV X.K ct b0 tr)) (hs : starEach (e :: es) X.env = (false, eval e X.env) :: starEach es X.env) :
    PA X (e :: es) (LV X.K ct b0 fun s h Q => ta s h fun x h1 => tr s h1 fun xs h2 => Q (x :: xs) h2) := paMono (pa_cons ha hr hs) fun σ H Q x => by
  obtain ⟨c, h, s, P, e, ex, sr, st, t, post⟩ := x
  exact ⟨c, h, s, _, e, ex, sr, st, t, fun tv h1 p c1 v ex1 sr1 tr1 tf1 =>
    ⟨c1, h1, s, _, rfl, ex.trans ex1, sr1, st.mono ex1, p, fun xs h3 p3 c3 vs ex3 sr3 drs => post (tv :: xs) h3 p3 c3 (v :: vs) (ex1.trans ex3) sr3 ⟨v, vs, rfl, tr1.mono ex3, drs⟩⟩⟩
theorem LA.bind {K : PySem.W.Frag} {ta : FA} {k : List D → Sto → SL.Hp → (TV → SL.Hp → Prop) → Prop} {σ : L2.St} {H : L2.Hp} {Q : VK} {R : List V → L2.Hp → Prop} (x : LT K ct b0 (fun s h Q => ta s h fun xs h1 => k xs s h1 Q) σ H Q)
    (step : ∀ (c0 c : Bs) (h : SL.Hp) (s : Sto) (xs : List D) (P : TV → SL.Hp → Prop) (vs : List V), Ex K b0 c → Ex K c0 c → SRel K ct c h → StoR K c s σ → DRs K c xs vs → k xs s h P →
      (∀ tv h', P tv h' → ∀ c' w, Ex K c c' → SRel K ct c' h' → TVR K c' tv w → TVF c0 tv w → Q w c'.H) → R vs c.H) : LA K ct b0 ta σ H R := by
  obtain ⟨c, h, s, P, e, ex, sr, st, t, post⟩ := x
  exact ⟨c, h, s, fun x h1 => k x s h1 P, e, ex, sr, st, t, fun xs h' hk c' vs ex' sr' drs => step c c' h' s xs P vs (ex.trans ex') ex' sr' (st.mono ex') drs hk
    fun tv2 h2 p2 c2 w ex2 sr2 tr2 tf2 => post tv2 h2 p2 c2 w (ex'.trans ex2) sr2 tr2 tf2⟩
theorem LV.bind {K : PySem.W.Frag} {ta : FV} {k : List TV → Sto → SL.Hp → (TV → SL.Hp → Prop) → Prop} {σ : L2.St} {H : L2.Hp} {Q : VK} {R : List V → L2.Hp → Prop} (x : LT K ct b0 (fun s h Q => ta s h fun xs h1 => k xs s h1 Q) σ H Q)
    (step : ∀ (c0 c : Bs) (h : SL.Hp) (s : Sto) (xs : List TV) (P : TV → SL.Hp → Prop) (vs : List V), Ex K b0 c → Ex K c0 c → SRel K ct c h → StoR K c s σ → TVRs K c xs vs → k xs s h P →
      (∀ tv h', P tv h' → ∀ c' w, Ex K c c' → SRel K ct c' h' → TVR K c' tv w → TVF c0 tv w → Q w c'.H) → R vs c.H) : LV K ct b0 ta σ H R := by
  obtain ⟨c, h, s, P, e, ex, sr, st, t, post⟩ := x
  exact ⟨c, h, s, fun x h1 => k x s h1 P, e, ex, sr, st, t, fun xs h' hk c' vs ex' sr' drs => step c c' h' s xs P vs (ex.trans ex') ex' sr' (st.mono ex') drs hk
    fun tv2 h2 p2 c2 w ex2 sr2 tr2 tf2 => post tv2 h2 p2 c2 w (ex'.trans ex2) sr2 tr2 tf2⟩
/-! ### displays -/
theorem e_tup {ta : FA} {x1} (ha : PA X es (LA X.K ct b0 ta)) : PE X (.Tuple es x1 pos) (LT X.K ct b0 fun s h Q => ta s h fun xs h1 => xs.length ≤ sz ∧ Q (.d (.tup xs)) h1) :=
  peMono (pe_tup ha) fun σ H Q x => LA.bind x fun c0 c h s xs P vs ex0 ex sr st drs k post => ⟨by rw [drs.length, ← sz_line]; exact k.1, fun p hp => done_tup sr drs hp k.2 post⟩
theorem e_lst {ta : FA} (ha : PA X es (LA X.K ct b0 ta)) : PE X (.List es pos) (LT X.K ct b0 fun s h Q => ta s h fun xs h1 => xs.length ≤ sz ∧ Q (.l xs) h1) :=
  peMono (pe_lst ha) fun σ H Q x => LA.bind x fun c0 c h s xs P vs ex0 ex sr st drs k post => ⟨by rw [drs.length, ← sz_line]; exact k.1, fun p hp => done_list ex sr drs hp k.2 post⟩
/-! ### built-in functions -/
def BiC (X : L2.Cx) (ct : Ct) (g : Bi) (r : List V → L2.Hp → VK → Prop) : Prop := ∀ {c0 c : Bs} {h : SL.Hp} {tvs : List TV} {vs : List V} {P : TV → SL.Hp → Prop} {Q : VK}, Ex X.K c0 c → SRel X.K ct c h → TVRs X.K c tvs vs → bi h g tvs P →
  (∀ tv h', P tv h' → ∀ c' w, Ex X.K c c' → SRel X.K ct c' h' → TVR X.K c' tv w → TVF c0 tv w → Q w c'.H) → r vs c.H Q
theorem e_bi {ta : FV} {g : Bi} {r : List V → L2.Hp → VK → Prop} (hp : ∀ {t : TA}, PA X es t → PE X e (tCB r t)) (core : BiC X ct g r) (ha : PA X es (LV X.K ct b0 ta)) : PE X e (LT X.K ct b0 fun s h Q => ta s h fun xs h1 => bi h1 g xs Q) :=
  peMono (hp ha) fun σ H Q x => LV.bind x fun c0 c h s xs P vs ex0 ex sr st drs k post => core ex sr drs k post
theorem CallR.or {f : Value} {r r' : List V → L2.Hp → VK → Prop} (h : CallR X f r) (h' : CallR X f r') : CallR X f (fun xs H Q => r xs H Q ∨ r' xs H Q) := fun pins s σ H xs us Q I rx q => by
  rcases q with q | q
  · exact h pins s σ H xs us Q I rx q
  · exact h' pins s σ H xs us Q I rx q
end
section
variable {X : L2.Cx} {ct : Ct}
def rLenB (K : PySem.W.Frag) : List V → L2.Hp → VK → Prop := fun xs H Q => (∃ x n, xs = [x] ∧ LenV K x H n ∧ Q (.int n) H) ∨ ∃ a kvs, xs = [V.ref a] ∧ H a = some (.dK kvs) ∧ Q (.int kvs.length) H
theorem call_lenB : CallR X (.builtin "len") (rLenB X.K) := CallR.or call_len call_lenD
theorem TVRs.one {K : PySem.W.Frag} {c : Bs} {t : TV} {vs : List V} (h : TVRs K c [t] vs) : ∃ v, vs = [v] ∧ TVR K c t v := by
  obtain ⟨v, r, rfl, h1, rfl⟩ := h
  exact ⟨v, rfl, h1⟩
theorem TVRs.two {K : PySem.W.Frag} {c : Bs} {t u : TV} {vs : List V} (h : TVRs K c [t, u] vs) : ∃ v w, vs = [v, w] ∧ TVR K c t v ∧ TVR K c u w := by
  obtain ⟨v, r, rfl, h1, w, r', rfl, h2, rfl⟩ := h
  exact ⟨v, w, rfl, h1, h2⟩
theorem bi_len : BiC X ct .len (rLenB X.K) := by
  intro c0 c h tvs vs P Q ex sr r k post
  cases tvs with
  | nil => exact k.elim
  | cons tv ts =>
    cases ts with
    | cons _ _ => exact k.elim
    | nil =>
      obtain ⟨v, rfl, tr⟩ := r.one
      simp only [bi, biLen] at k
      split at k
      · rename_i n hn
        have q : ∀ m : Nat, m = n → Q (.int m) c.H := fun m e => by
          subst e
          exact post _ h k c _ (Ex.refl c) sr rfl trivial
        unfold len at hn
        split at hn
        · rename_i x
          split at hn
          · rename_i hz
            cases hn
            rw [show v = .str (tS x) from tr]
            exact .inl ⟨_, _, rfl, ⟨by rw [tS_len, ← sz_line]; exact hz, rfl⟩, q _ (tS_len x)⟩
          · cases hn
        · cases hn
          obtain ⟨a, vs, rfl, t, rs⟩ := tr
          exact .inl ⟨_, _, rfl, .inr ⟨vs, t, rfl⟩, q _ rs.length⟩
        · split at hn
          · rename_i xs hx
            cases hn
            obtain ⟨hl, rfl⟩ := tr
            obtain ⟨vs, t, rs⟩ := sr.obj _ _ hx
            exact .inl ⟨_, _, rfl, .inl ⟨vs, SqL.of t, rfl⟩, q _ rs.length⟩
          · rename_i xs hx
            cases hn
            obtain ⟨hl, rfl⟩ := tr
            obtain ⟨vs, t, rs⟩ := sr.obj _ _ hx
            exact .inl ⟨_, _, rfl, .inl ⟨vs, SqL.ofRd t, rfl⟩, q _ rs.length⟩
          · rename_i xs hx
            split at hn
            · rename_i ha
              cases hn
              obtain ⟨hl, rfl⟩ := tr
              rcases sr.obj _ _ hx with ⟨ks, t, rs, _⟩ | ⟨ks, t, _, _, _, _, h3, h4⟩
              · have := rs.length
                rw [List.length_map, List.length_map] at this
                exact .inr ⟨_, ks, rfl, t, q _ this⟩
              · exact (mixed_no0 ha h3 h4).elim
            · cases hn
          · cases hn
        · cases hn
          obtain ⟨a, vs, rfl, t, rs, _⟩ := tr
          exact .inl ⟨_, _, rfl, .inl ⟨vs, SqL.of t, rfl⟩, q _ rs.length⟩
        · cases hn
      · exact k.elim
theorem TVRs.none {K : PySem.W.Frag} {c : Bs} {ts : List TV} {vs : List V} (h : TVRs K c ts vs) : vs.length = ts.length := by
  induction ts generalizing vs with
  | nil => rw [show vs = [] from h]; rfl
  | cons t ts ih =>
    obtain ⟨v, r, rfl, _, h2⟩ := h
    rw [List.length_cons, List.length_cons, ih h2]
theorem bi_int : BiC X ct .int (fun xs H Q => (∃ i, xs = [.int i] ∧ Q (.int i) H) ∨ ∃ k, xs = [.bl k] ∧ Q (.int (if k then 1 else 0)) H) := by
  intro c0 c h tvs vs P Q ex sr r k post
  simp only [bi] at k
  unfold biInt at k
  split at k
  · obtain ⟨v, rfl, tr⟩ := r.one
    exact .inl ⟨_, by rw [show v = _ from tr], post _ h k c _ (Ex.refl c) sr rfl trivial⟩
  · obtain ⟨v, rfl, tr⟩ := r.one
    exact .inr ⟨_, by rw [show v = _ from tr], post _ h k c _ (Ex.refl c) sr rfl trivial⟩
  · exact k.elim
theorem bi_min : BiC X ct .min (fun xs H Q => ∃ i j, xs = [.int i, .int j] ∧ Q (.int (if j < i then j else i)) H) := by
  intro c0 c h tvs vs P Q ex sr r k post
  simp only [bi] at k
  unfold biMin at k
  split at k
  · obtain ⟨v, w, rfl, t1, t2⟩ := r.two
    rw [show v = _ from t1, show w = _ from t2]
    exact ⟨_, _, rfl, post _ h k c _ (Ex.refl c) sr rfl trivial⟩
  · exact k.elim
theorem tvL_there {K : PySem.W.Frag} {c : Bs} {h : SL.Hp} {tv : TV} {xs : List D} {v : V} (sr : SRel K ct c h) (r : TVR K c tv v) (e : tvL h tv = some xs) : ∃ a vs, v = .ref a ∧ SqL K c.H a vs ∧ DRs K c xs vs := by
  unfold tvL at e
  split at e
  · cases e
    obtain ⟨a, vs, rfl, q, rs, _⟩ := r
    exact ⟨a, vs, rfl, SqL.of q, rs⟩
  · obtain ⟨hl, rfl⟩ := r
    simp only [items] at e
    split at e
    · rename_i hx
      obtain ⟨vs, q, rs⟩ := sr.obj _ _ hx
      cases e
      exact ⟨_, vs, rfl, SqL.of q, rs⟩
    · rename_i hx
      obtain ⟨vs, q, rs⟩ := sr.obj _ _ hx
      cases e
      exact ⟨_, vs, rfl, SqL.ofRd q, rs⟩
    · cases e
  · cases e
theorem bools_of {K : PySem.W.Frag} {c : Bs} : ∀ {xs : List D} {bs : List Bool} {vs : List V}, boolsOf xs = some bs → DRs K c xs vs → vs = bs.map V.bl
  | [], bs, vs, e, r => by
    cases e
    exact r
  | x :: xs, bs, vs, e, r => by
    obtain ⟨v, w, rfl, r1, r2⟩ := r
    cases x with
    | bl b =>
      obtain ⟨bs', e1, rfl⟩ := Option.map_eq_some_iff.mp (show (boolsOf xs).map _ = some bs from e)
      rw [show v = .bl b from r1, bools_of e1 r2]
      rfl
    | _ => cases e
theorem ints_of {K : PySem.W.Frag} {c : Bs} : ∀ {xs : List D} {bs : List Int} {vs : List V}, intsOf xs = some bs → DRs K c xs vs → vs = bs.map V.int
  | [], bs, vs, e, r => by
    cases e
    exact r
  | x :: xs, bs, vs, e, r => by
    obtain ⟨v, w, rfl, r1, r2⟩ := r
    cases x with
    | int b =>
      obtain ⟨bs', e1, rfl⟩ := Option.map_eq_some_iff.mp (show (intsOf xs).map _ = some bs from e)
      rw [show v = .int b from r1, ints_of e1 r2]
      rfl
    | _ => cases e
theorem bi_all : BiC X ct .all (rAll X.K) := by
  intro c0 c h tvs vs P Q ex sr r k post
  simp only [bi] at k
  unfold biAll at k
  split at k
  · obtain ⟨v, rfl, tr⟩ := r.one
    split at k
    · rename_i bs hb
      obtain ⟨xs, h1, h2⟩ := Option.bind_eq_some_iff.mp hb
      obtain ⟨a, vs, rfl, q, rs⟩ := tvL_there sr tr h1
      rw [bools_of h2 rs] at q
      exact ⟨a, bs, rfl, q, post _ h k c _ (Ex.refl c) sr rfl trivial⟩
    · exact k.elim
  · exact k.elim
theorem bi_any : BiC X ct .any (rAny X.K) := by
  intro c0 c h tvs vs P Q ex sr r k post
  simp only [bi] at k
  unfold biAny at k
  split at k
  · obtain ⟨v, rfl, tr⟩ := r.one
    split at k
    · rename_i bs hb
      obtain ⟨xs, h1, h2⟩ := Option.bind_eq_some_iff.mp hb
      obtain ⟨a, vs, rfl, q, rs⟩ := tvL_there sr tr h1
      rw [bools_of h2 rs] at q
      exact ⟨a, bs, rfl, q, post _ h k c _ (Ex.refl c) sr rfl trivial⟩
    · exact k.elim
  · exact k.elim
theorem bi_sum : BiC X ct .sum (rSum X.K) := by
  intro c0 c h tvs vs P Q ex sr r k post
  simp only [bi] at k
  unfold biSum at k
  split at k
  · obtain ⟨v, rfl, tr⟩ := r.one
    split at k
    · rename_i bs hb
      obtain ⟨xs, h1, h2⟩ := Option.bind_eq_some_iff.mp hb
      obtain ⟨a, vs, rfl, q, rs⟩ := tvL_there sr tr h1
      rw [ints_of h2 rs] at q
      exact ⟨a, bs, rfl, q, post _ h k c _ (Ex.refl c) sr rfl trivial⟩
    · exact k.elim
  · exact k.elim
/-! ### repr -/
mutual
theorem noDict_plain : ∀ p : PyData, p.plain = true → p.hasDict = false
  | .none, _ => rfl
  | .bool _, _ => rfl
  | .int _, _ => rfl
  | .str _, _ => rfl
  | .list xs, h => noDict_plainAll xs (by rw [PyData.plain] at h; exact h)
  | .tuple xs, h => noDict_plainAll xs (by rw [PyData.plain] at h; exact h)
  | .dict _, h => by rw [PyData.plain] at h; cases h
theorem noDict_plainAll : ∀ ps : List PyData, PyData.plainAll ps = true → PyData.hasDictAll ps = false
  | [], _ => rfl
  | p :: ps, h => by
    rw [PyData.plainAll, Bool.and_eq_true] at h
    rw [PyData.hasDictAll, noDict_plain p h.1, noDict_plainAll ps h.2]
    rfl
end
def rReprB (K : PySem.W.Frag) : List V → L2.Hp → VK → Prop := fun xs H Q => ∃ x d, xs = [x] ∧ Dp K H x d ∧ d.showable = true ∧ d.hasDict = false ∧ d.depth ≤ 61 ∧ d.shown.length ≤ sizeLine ∧ Q (.str d.shown) H
theorem call_reprB (hg : X.A.guards = some []) (hu : X.A.units + 200 < cLine) : CallR X (.builtin "repr") (rReprB X.K) := by
  intro pins s σ H xs us Q I rx t
  obtain ⟨x, d, rfl, dp, h1, h2, h3, h4, q⟩ := t
  obtain ⟨u, rfl, ru⟩ := Vals.one rx
  obtain ⟨as, rd⟩ := Dp.reads I d x u dp ru
  have fin : ∀ (h' : Heap) (u : Tok) (tk : Nat), (∀ b o, s.heap.get? b = some o → h'.get? b = some o) → EP X pins σ Q (.str d.shown u) { s with heap := h', toks := tk } := fun h' u tk hk => ⟨.str d.shown, H, I.kept hk, ⟨u, rfl⟩, q⟩
  have tok : ∀ (u : Tok) (tk : Nat), EP X pins σ Q (.str d.shown u) { s with toks := tk } := fun u tk => fin s.heap u tk fun _ _ e => e
  cases rd with
  | none => exact PySem.P.repr_of_none (tok _ _)
  | bool => exact PySem.P.repr_of_bool (tok _ _)
  | int => exact PySem.P.repr_of_int (of_decide_eq_true h1) (tok _ _)
  | str => exact PySem.P.repr_of_str (tok _ _) h4
  | list e1 e2 e3 e4 => exact repr_of_reads' (Reads.list e1 e2 e3 e4) h1 (PyData.noDict_hsm h2) hg (by omega) (fun _ _ e => e) (fun h' u tk hk => fin h' u tk hk) h4
  | tuple e1 e2 e3 e4 => exact repr_of_reads' (Reads.tuple e1 e2 e3 e4) h1 (PyData.noDict_hsm h2) hg (by omega) (fun _ _ e => e) (fun h' u tk hk => fin h' u tk hk) h4
  | dict => cases h2
theorem bi_repr : BiC X ct .repr (rReprB X.K) := by
  intro c0 c h tvs vs P Q ex sr r k post
  simp only [bi] at k
  unfold biRepr at k
  split at k
  · obtain ⟨v, rfl, tr⟩ := r.one
    split at k
    · rename_i p hp
      obtain ⟨h1, h2⟩ := rdT_ok hp
      exact ⟨v, p, rfl, dpT_of sr hp tr, k.1, noDict_plain p h1, h2, by rw [← sz_line]; exact k.2.1, post _ h k.2.2 c _ (Ex.refl c) sr rfl trivial⟩
    · exact k.elim
  · exact k.elim
end
end SL

set_option linter.all false
set_option autoImplicit false
set_option maxRecDepth 100000
set_option Elab.async false
/-! SLExp5: isinstance, list, tuple, methods. -/
namespace SL
open PySem PySem.Spec PyProof.Rows L2
def tyN : Ty → String
  | .int => "int"
  | .bool => "bool"
  | .str => "str"
  | .tuple => "tuple"
  | .list => "list"
  | .own c => c
def isOwnTy : Ty → Bool
  | .own _ => true
  | _ => false
theorem kits : ∀ a ∈ ["NoneType", "bool", "int", "str", "tuple", "list", "dict"], ∀ t ∈ [Ty.int, .bool, .str, .tuple, .list], kitB a (tyN t) = some (a == tyN t || (a == "bool" && tyN t == "int")) := by decide +kernel
theorem ty_mem {t : Ty} (h : isOwnTy t = false) : t ∈ [Ty.int, .bool, .str, .tuple, .list] := by
  cases t <;> first | decide | cases h
section
variable {X : L2.Cx} {ct : Ct} {b0 : Bs} {e a b c : Expr} {es : List Expr} {pos : Pos}
theorem tyx_of {K : PySem.W.Frag} {c : Bs} {h : SL.Hp} {tv : TV} {v : V} {t : Ty} {k : Bool} (ht : isOwnTy t = false) (sr : SRel K ct c h) (r : TVR K c tv v) (e : SL.isi h t tv = some k) :
    ∃ a, TyX K c.H v (.type a) ∧ kitB a (tyN t) = some k := by
  have hm := ty_mem ht
  have go : ∀ a, a ∈ ["NoneType", "bool", "int", "str", "tuple", "list", "dict"] → (a == tyN t || (a == "bool" && tyN t == "int")) = k → kitB a (tyN t) = some k := fun a ha hk => by rw [kits a ha t hm, hk]
  have lst : ∀ {p : Addr} {vs : List V}, Rd c.H p (.lst vs) → TyX K c.H (.ref p) (.type "list") := fun {p vs} q => by
    rcases q with q | ⟨o, q⟩
    · exact .base (.lst q)
    · exact .base (.frz q)
  unfold SL.isi at e
  split at e
  · cases e
    rw [show v = .non from r]
    exact ⟨_, .base .non, go _ (by decide) (by cases t <;> first | rfl | cases ht)⟩
  · cases e
    rw [show v = .bl _ from r]
    exact ⟨_, .base (.bl _), go _ (by decide) (by cases t <;> first | decide | cases ht)⟩
  · cases e
    rw [show v = .int _ from r]
    exact ⟨_, .base (.int _), go _ (by decide) (by cases t <;> first | decide | cases ht)⟩
  · cases e
    rw [show v = .str _ from r]
    exact ⟨_, .base (.str _), go _ (by decide) (by cases t <;> first | decide | cases ht)⟩
  · cases e
    obtain ⟨a, vs, rfl, q, rs⟩ := r
    refine ⟨"tuple", ?_, go _ (by decide) (by cases t <;> first | decide | cases ht)⟩
    rcases q with (q | ⟨o, q⟩) | ⟨o, its, n, q, qc, _⟩
    · exact .base (.tup q)
    · exact .fTuple q
    · exact .kTuple q qc
  · cases e
    obtain ⟨a, vs, rfl, q, rs, _⟩ := r
    exact ⟨"list", lst (.inl q), go _ (by decide) (by cases t <;> first | decide | cases ht)⟩
  · split at e
    · rename_i hx
      cases e
      obtain ⟨hl, rfl⟩ := r
      obtain ⟨vs, q, rs⟩ := sr.obj _ _ hx
      exact ⟨"list", lst (.inl q), go _ (by decide) (by cases t <;> first | decide | cases ht)⟩
    · rename_i hx
      cases e
      obtain ⟨hl, rfl⟩ := r
      obtain ⟨vs, q, rs⟩ := sr.obj _ _ hx
      exact ⟨"list", lst q, go _ (by decide) (by cases t <;> first | decide | cases ht)⟩
    · rename_i hx
      split at e
      · rename_i ha
        cases e
        obtain ⟨hl, rfl⟩ := r
        rcases sr.obj _ _ hx with ⟨ks, q, rs, _⟩ | ⟨ks, _, _, _, _, _, h3, h4⟩
        · exact ⟨"dict", .base (.dK q), go _ (by decide) (by cases t <;> first | decide | cases ht)⟩
        · exact (mixed_no0 ha h3 h4).elim
      · cases e
    · rename_i hx
      exact (sr.obj _ _ hx).elim
    · cases e
theorem e_isi {ta : FT} {t : Ty} {x tn : Str} {p p2 : Pos} (ht : isOwnTy t = false) (hx : x = "isinstance") (hg : Gl X x) (hm : X.mg x = none) (hg2 : Gl X tn) (hm2 : X.mg tn = none) (hv : bootBuiltins tn = some (.type (tyN t))) (hn : tn ≠ "__name__") (hd : (tn == ("__debug__" : Str)) = false)
    (ha : PE X a (LT X.K ct b0 ta)) (hs : starEach [a, .Name tn p2] X.env = (false, eval a X.env) :: starEach [.Name tn p2] X.env) : PE X (.Call (.Name x p) [a, .Name tn p2] [] pos) (LT X.K ct b0 fun s h Q => ta s h fun x h1 => match SL.isi h1 t x with
    | some b => Q (.d (.bl b)) h1
    | none => False) := by
  subst hx
  refine peMono (pe_callB call_isi hg hm (by decide +kernel) (pa_cons ha (pa_cons (pe_bltn (v := .ty (tyN t)) hg2 hm2 hv rfl hn hd) pa_nil) hs) (by decide) (by decide) hs) fun σ H Q x => LT.bind x fun c0 c h s tv P v ex0 ex sr st tr tf k post => ?_
  split at k
  · rename_i k' hk
    obtain ⟨ta, h1, h2⟩ := tyx_of ht sr tr hk
    exact ⟨v, .ty (tyN t), .type ta, .type (tyN t), k', rfl, .ty _, h1, kit_ty h2, post _ h k c _ (Ex.refl c) sr rfl trivial⟩
  · exact k.elim
/-! ### list(x), tuple(x) of a value -/
def rSigns : List V → L2.Hp → VK → Prop := fun xs H Q => ∃ x : Tx, xs = [.str (tS x)] ∧ x.length ≤ sizeLine ∧ ∀ p, H p = none → Q (.ref p) (upd H p (.lst (x.map fun c => V.str (tS [c]))))
theorem vals_ix : ∀ {xs : List V} {us : List Value}, xs.length = us.length → (∀ (j : Nat) (x : V) (u : Value), xs[j]? = some x → us[j]? = some u → RelV x u) → Vals xs us
  | [], [], _, _ => .nil
  | [], _ :: _, h, _ => by cases h
  | _ :: _, [], h, _ => by cases h
  | x :: xs, u :: us, h, k => .cons (k 0 x u rfl rfl) (vals_ix (Nat.succ.inj h) fun j y w e1 e2 => k (j + 1) y w (by simpa using e1) (by simpa using e2))
theorem signs_vals {x : Tx} {acc : Array Value} (h : ItemsOf (SignAt (tS x)) acc (tS x).cps.size) : Vals (x.map fun c => V.str (tS [c])) acc.toList := by
  have hsz : acc.size = x.length := h.1.trans (tS_len x)
  refine vals_ix (by rw [List.length_map, ← hsz]; simp) fun j y u e1 e2 => ?_
  rw [Array.getElem?_toList] at e2
  obtain ⟨ch, t, hc, rfl⟩ := h.2 j u e2
  rw [List.getElem?_map] at e1
  have e3 : x[j]? = some ch := by
    have : (tS x).cps[j]? = x[j]? := List.getElem?_toArray
    rw [← this]
    exact hc
  rw [e3] at e1
  cases e1
  exact ⟨t, rfl⟩
theorem call_signs (hc : X.calm = true) : CallR X (.type "list") rSigns := by
  intro pins s σ H xs us Q I rx t
  obtain ⟨x, rfl, hz, q⟩ := t
  obtain ⟨u, rfl, t, rfl⟩ := Vals.one rx
  refine call_list_str (I.ok.hd hc) (tS x) t (fun h' tk acc c' hk he hacc => ?_) (by rw [show (tS x).cps.size = x.length from tS_len x]; exact hz)
  have hv := signs_vals hacc
  exact ⟨.ref s.heap.objs.size, _, I.laid (t' := tk) hk (Nat.le_refl _) (show ObjOk X.prog X.w _ h' _ (.lst (x.map fun c => V.str (tS [c]))) from ⟨by rw [List.length_map]; exact hz, acc.toList, c', hv, he⟩), rfl, q _ (I.hok.fresh (Nat.le_refl _))⟩
end
end SL

set_option linter.all false
set_option autoImplicit false
set_option maxRecDepth 100000
set_option Elab.async false
/-! SLIt: what is walked. -/
namespace SL
open PySem PySem.Spec PyProof.Rows L2
structure Src (K : PySem.W.Frag) (ct : Ct) (c0 : Bs) (J : It) (xs : List D) (st : SL.Hp → Prop) : Prop where
  goes : ∀ (i : Nat) (c : Bs) (h : SL.Hp), Ex K c0 c → SRel K ct c h → st h → i < xs.length → J.go i c.H
  stops : ∀ (c : Bs) (h : SL.Hp), Ex K c0 c → SRel K ct c h → st h → J.stop xs.length c.H
  ylds : ∀ (i : Nat) (x : D) (c : Bs) (h : SL.Hp) (v : V) (H' : L2.Hp), Ex K c0 c → SRel K ct c h → st h → xs[i]? = some x → J.yld i c.H v H' → ∃ c' : Bs, c'.H = H' ∧ Ex K c c' ∧ SRel K ct c' h ∧ DR K c' x v
abbrev FI := Sto → SL.Hp → (List D → (SL.Hp → Prop) → SL.Hp → Prop) → Prop
def LI (K : PySem.W.Frag) (ct : Ct) (b0 : Bs) (t : FI) : L2.TI := fun σ H R => ∃ (c : Bs) (h : SL.Hp) (s : Sto) (P : List D → (SL.Hp → Prop) → SL.Hp → Prop), c.H = H ∧ Ex K b0 c ∧ SRel K ct c h ∧ StoR K c s σ ∧ t s h P ∧
  ∀ xs st h', P xs st h' → ∀ c' J, Ex K c c' → SRel K ct c' h' → st h' → Src K ct c' J xs st → R J c'.H
section
variable {K : PySem.W.Frag} {ct : Ct}
/-- the list at a -/
def Still (K : PySem.W.Frag) (ct : Ct) (c0 : Bs) (a : Addr) (xs : List D) (st : SL.Hp → Prop) (S : L2.Hp → Addr → List V → Prop) : Prop := ∀ (c : Bs) (h : SL.Hp), Ex K c0 c → SRel K ct c h → st h → ∃ vs, S c.H a vs ∧ DRs K c xs vs
theorem DRs.none_of {c : Bs} {xs : List D} {vs : List V} (r : DRs K c xs vs) {i : Nat} (h : i < xs.length) : ∃ v, vs[i]? = some v := ⟨vs[i]'(by rw [r.length]; exact h), List.getElem?_eq_getElem _⟩
theorem src_list {c0 : Bs} {a : Addr} {xs : List D} {st : SL.Hp → Prop} (s : Still K ct c0 a xs st (SqL K)) : Src K ct c0 (Itl K a) xs st where
  goes := fun i c h ex sr hst hi => by
    obtain ⟨vs, q, rs⟩ := s c h ex sr hst
    obtain ⟨v, hv⟩ := rs.none_of hi
    exact ⟨vs, v, q, hv⟩
  stops := fun c h ex sr hst => by
    obtain ⟨vs, q, rs⟩ := s c h ex sr hst
    exact ⟨vs, q, by rw [rs.length]; exact Nat.le_refl _⟩
  ylds := fun i x c h v H' ex sr hst hx y => by
    obtain ⟨rfl, y2⟩ := y
    obtain ⟨vs, q, rs⟩ := s c h ex sr hst
    obtain ⟨w, hw, r⟩ := DRs.get rs hx
    have e := y2 vs q
    rw [hw] at e
    cases e
    exact ⟨c, rfl, Ex.refl c, sr, r⟩
theorem src_tup {c0 : Bs} {a : Addr} {xs : List D} {st : SL.Hp → Prop} (s : Still K ct c0 a xs st (SqT K)) : Src K ct c0 (Itt K a) xs st where
  goes := fun i c h ex sr hst hi => by
    obtain ⟨vs, q, rs⟩ := s c h ex sr hst
    obtain ⟨v, hv⟩ := rs.none_of hi
    exact ⟨vs, v, q, hv⟩
  stops := fun c h ex sr hst => by
    obtain ⟨vs, q, rs⟩ := s c h ex sr hst
    exact ⟨vs, q, by rw [rs.length]; exact Nat.le_refl _⟩
  ylds := fun i x c h v H' ex sr hst hx y => by
    obtain ⟨rfl, y2⟩ := y
    obtain ⟨vs, q, rs⟩ := s c h ex sr hst
    obtain ⟨w, hw, r⟩ := DRs.get rs hx
    have e := y2 vs q
    rw [hw] at e
    cases e
    exact ⟨c, rfl, Ex.refl c, sr, r⟩
theorem src_str {c0 : Bs} {z : Tx} {st : SL.Hp → Prop} : Src K ct c0 (Its (tS z)) (z.map fun c => D.str [c]) st where
  goes := fun i c h ex sr hst hi => by
    rw [List.length_map] at hi
    rw [← tS_len] at hi
    exact hi
  stops := fun c h ex sr hst => by
    rw [List.length_map, ← tS_len]
    exact Nat.le_refl _
  ylds := fun i x c h v H' ex sr hst hx y => by
    obtain ⟨rfl, ch, hc, rfl⟩ := y
    rw [List.getElem?_map] at hx
    have e : z[i]? = some ch := by
      have : (tS z).cps[i]? = z[i]? := List.getElem?_toArray
      rw [← this]
      exact hc
    rw [e] at hx
    cases hx
    exact ⟨c, rfl, Ex.refl c, sr, rfl⟩
theorem src_rng {c0 : Bs} {lo : Int} {n : Nat} {st : SL.Hp → Prop} : Src K ct c0 (Itr lo n) ((List.range n).map fun (i : Nat) => D.int (lo + i)) st where
  goes := fun i c h ex sr hst hi => by
    rw [List.length_map, List.length_range] at hi
    exact hi
  stops := fun c h ex sr hst => by
    rw [List.length_map, List.length_range]
    exact Nat.le_refl _
  ylds := fun i x c h v H' ex sr hst hx y => by
    obtain ⟨rfl, rfl⟩ := y
    rw [List.getElem?_map] at hx
    obtain ⟨j, hj, rfl⟩ := Option.map_eq_some_iff.mp hx
    obtain ⟨hlt, rfl⟩ := List.getElem?_eq_some_iff.mp hj
    rw [List.getElem_range]
    exact ⟨c, rfl, Ex.refl c, sr, rfl⟩
/-- a new pair -/
theorem yld_pair {c : Bs} {h : SL.Hp} {x y : D} {v w : V} {T : Addr} (sr : SRel K ct c h) (hT : c.H T = none) (rx : DR K c x v) (ry : DR K c y w) :
    ∃ c' : Bs, c'.H = upd c.H T (.tup [v, w]) ∧ Ex K c c' ∧ SRel K ct c' h ∧ DR K c' (.tup [x, y]) (.ref T) := by
  have e1 : Ex K c (c.put T (.tup [v, w])) := Ex.new hT
  exact ⟨c.put T (.tup [v, w]), rfl, e1, sr.new hT, T, [v, w], rfl, .inl (.inl upd_same), v, [w], rfl, DR.mono e1 _ _ rx, w, [], rfl, DR.mono e1 _ _ ry, rfl⟩
theorem zip_at {xs ys : List D} {i : Nat} {x : D} (h : ((xs.zip ys).map fun p => D.tup [p.1, p.2])[i]? = some x) : ∃ a b, xs[i]? = some a ∧ ys[i]? = some b ∧ x = .tup [a, b] := by
  rw [List.getElem?_map] at h
  obtain ⟨⟨a, b⟩, h1, rfl⟩ := Option.map_eq_some_iff.mp h
  obtain ⟨h2, h3⟩ := List.getElem?_zip_eq_some.mp h1
  exact ⟨a, b, h2, h3, rfl⟩
theorem src_zipG {c0 : Bs} {a b : Addr} {xs ys : List D} {st : SL.Hp → Prop} {S : L2.Hp → Addr → List V → Prop} {J : It} (hgo : ∀ i H, (∃ (xs ys : List V) (x y : V), S H a xs ∧ S H b ys ∧ xs[i]? = some x ∧ ys[i]? = some y) → J.go i H)
    (hst : ∀ i H, (∃ xs ys : List V, S H a xs ∧ S H b ys ∧ (xs.length ≤ i ∨ ys.length ≤ i)) → J.stop i H) (hy : ∀ i H v H', J.yld i H v H' → ∃ T x y, v = .ref T ∧ H T = none ∧ H' = upd H T (.tup [x, y]) ∧ (∀ xs, S H a xs → xs[i]? = some x) ∧ ∀ ys, S H b ys → ys[i]? = some y)
    (s1 : Still K ct c0 a xs st S) (s2 : Still K ct c0 b ys st S) : Src K ct c0 J ((xs.zip ys).map fun p => .tup [p.1, p.2]) st where
  goes := fun i c h ex sr hs hi => by
    obtain ⟨vs, q, rs⟩ := s1 c h ex sr hs
    obtain ⟨ws, q2, rs2⟩ := s2 c h ex sr hs
    rw [List.length_map, List.length_zip] at hi
    obtain ⟨v, hv⟩ := rs.none_of (i := i) (by omega)
    obtain ⟨w, hw⟩ := rs2.none_of (i := i) (by omega)
    exact hgo i _ ⟨vs, ws, v, w, q, q2, hv, hw⟩
  stops := fun c h ex sr hs => by
    obtain ⟨vs, q, rs⟩ := s1 c h ex sr hs
    obtain ⟨ws, q2, rs2⟩ := s2 c h ex sr hs
    refine hst _ _ ⟨vs, ws, q, q2, ?_⟩
    rw [List.length_map, List.length_zip, rs.length, rs2.length]
    omega
  ylds := fun i x c h v H' ex sr hs hx y => by
    obtain ⟨T, p, q, rfl, hT, rfl, h1, h2⟩ := hy _ _ _ _ y
    obtain ⟨d1, d2, e1, e2, rfl⟩ := zip_at hx
    obtain ⟨vs, q1, rs⟩ := s1 c h ex sr hs
    obtain ⟨ws, q2, rs2⟩ := s2 c h ex sr hs
    obtain ⟨w1, hw1, r1⟩ := DRs.get rs e1
    obtain ⟨w2, hw2, r2⟩ := DRs.get rs2 e2
    have z1 := h1 vs q1
    rw [hw1] at z1
    cases z1
    have z2 := h2 ws q2
    rw [hw2] at z2
    cases z2
    exact yld_pair sr hT r1 r2
theorem src_zipL {c0 : Bs} {a b : Addr} {xs ys : List D} {st : SL.Hp → Prop} (s1 : Still K ct c0 a xs st (SqL K)) (s2 : Still K ct c0 b ys st (SqL K)) : Src K ct c0 (Itz K a b) ((xs.zip ys).map fun p => .tup [p.1, p.2]) st :=
  src_zipG (fun _ _ h => h) (fun _ _ h => h) (fun _ _ _ _ h => h) s1 s2
theorem src_zipT {c0 : Bs} {a b : Addr} {xs ys : List D} {st : SL.Hp → Prop} (s1 : Still K ct c0 a xs st (SqT K)) (s2 : Still K ct c0 b ys st (SqT K)) : Src K ct c0 (RZ.ItzT K a b) ((xs.zip ys).map fun p => .tup [p.1, p.2]) st :=
  src_zipG (fun _ _ h => h) (fun _ _ h => h) (fun _ _ _ _ h => h) s1 s2
theorem src_enu {c0 : Bs} {a : Addr} {xs : List D} {st : SL.Hp → Prop} (s : Still K ct c0 a xs st (SqL K)) : Src K ct c0 (Ite K a) (xs.zipIdx.map fun p => .tup [.int p.2, p.1]) st where
  goes := fun i c h ex sr hst hi => by
    obtain ⟨vs, q, rs⟩ := s c h ex sr hst
    rw [List.length_map, List.length_zipIdx] at hi
    obtain ⟨v, hv⟩ := rs.none_of hi
    exact ⟨vs, v, q, hv⟩
  stops := fun c h ex sr hst => by
    obtain ⟨vs, q, rs⟩ := s c h ex sr hst
    exact ⟨vs, q, by rw [rs.length, List.length_map, List.length_zipIdx]; exact Nat.le_refl _⟩
  ylds := fun i x c h v H' ex sr hst hx y => by
    obtain ⟨T, p, rfl, hT, rfl, h1⟩ := y
    rw [List.getElem?_map] at hx
    obtain ⟨⟨d, j⟩, h2, rfl⟩ := Option.map_eq_some_iff.mp hx
    rw [List.getElem?_zipIdx] at h2
    obtain ⟨d', h3, h4⟩ := Option.map_eq_some_iff.mp h2
    cases h4
    obtain ⟨vs, q, rs⟩ := s c h ex sr hst
    obtain ⟨w, hw, r⟩ := DRs.get rs h3
    have z := h1 vs q
    rw [hw] at z
    cases z
    rw [Nat.zero_add]
    exact yld_pair sr hT rfl r
/-! ### from a value -/
theorem still_l {c : Bs} {xs : List D} {v : V} {st : SL.Hp → Prop} (tr : TVR K c (.l xs) v) : ∃ a vs, v = .ref a ∧ SqL K c.H a vs ∧ Still K ct c a xs st (SqL K) := by
  obtain ⟨a, vs, rfl, q, rs, ap⟩ := tr
  exact ⟨a, vs, rfl, SqL.of q, fun c' h' ex sr _ => ⟨vs, SqL.of (ex.stay a _ q ap).1, DRs.mono ex _ _ rs⟩⟩
theorem still_t {c : Bs} {xs : List D} {v : V} {st : SL.Hp → Prop} (tr : DR K c (.tup xs) v) : ∃ a vs, v = .ref a ∧ SqT K c.H a vs ∧ Still K ct c a xs st (SqT K) := by
  obtain ⟨a, vs, rfl, q, rs⟩ := tr
  exact ⟨a, vs, rfl, q, fun c' h' ex sr _ => ⟨vs, ex.tup a _ q, DRs.mono ex _ _ rs⟩⟩
theorem still_r {c : Bs} {h : SL.Hp} {l : Nat} {xs : List D} {o : O} {v : V} {st : SL.Hp → Prop} (ho : o = .lst xs ∨ o = .fz xs) (hx : h[l]? = some o) (sr : SRel K ct c h) (tr : DR K c (.ref l) v) (hs : ∀ h', st h' → h'[l]? = some o) :
    ∃ a vs, v = .ref a ∧ SqL K c.H a vs ∧ Still K ct c a xs st (SqL K) := by
  obtain ⟨hl, rfl⟩ := tr
  have at_ : ∀ (c' : Bs) (h' : SL.Hp), SRel K ct c' h' → h'[l]? = some o → ∃ vs, SqL K c'.H (c'.μ l) vs ∧ DRs K c' xs vs := fun c' h' sr' e => by
    rcases ho with rfl | rfl
    · obtain ⟨vs, q, rs⟩ := sr'.obj _ _ e
      exact ⟨vs, SqL.of q, rs⟩
    · obtain ⟨vs, q, rs⟩ := sr'.obj _ _ e
      exact ⟨vs, SqL.ofRd q, rs⟩
  obtain ⟨vs, q, rs⟩ := at_ c h sr hx
  exact ⟨_, vs, rfl, q, fun c' h' ex sr' hst => by
    have := at_ c' h' sr' (hs h' hst)
    rw [ex.mu l hl] at this
    exact this⟩
theorem walkL_there {c : Bs} {h : SL.Hp} {tv : TV} {v : V} {xs : List D} {st st2 : SL.Hp → Prop} (sr : SRel K ct c h) (tr : TVR K c tv v) (e : walkL h tv = some (xs, st)) (hi : ∀ h, st2 h → st h) : st h ∧ ∃ a vs, v = .ref a ∧ SqL K c.H a vs ∧ Still K ct c a xs st2 (SqL K) := by
  unfold walkL at e
  split at e
  · cases e
    exact ⟨trivial, still_l tr⟩
  · split at e
    · rename_i hx
      cases e
      exact ⟨hx, still_r (.inl rfl) hx sr tr hi⟩
    · rename_i hx
      cases e
      exact ⟨hx, still_r (.inr rfl) hx sr tr hi⟩
    · cases e
  · cases e
end
end SL

set_option linter.all false
set_option autoImplicit false
set_option maxRecDepth 100000
set_option Elab.async false
/-! SLIt2: the sources of loops, comprehensions. -/
namespace SL
open PySem PySem.Spec PyProof.Rows L2
def kVal (K : PySem.W.Frag) (x : V) (H : L2.Hp) (R : It → L2.Hp → Prop) : Prop := (∃ a xs, x = .ref a ∧ SqL K H a xs ∧ R (Itl K a) H) ∨ (∃ a xs, x = .ref a ∧ SqT K H a xs ∧ R (Itt K a) H) ∨ ∃ z, x = .str z ∧ R (Its z) H
theorem pi_val {X : L2.Cx} {tg e : Expr} {te : TE} (he : PE X e te) : PI X tg e (fun σ H R => te σ H fun x H1 => kVal X.K x H1 R) := by
  refine ⟨fun pins s σ H R I h => thn (he.run pins s σ H _ I h) fun u s1 ⟨x, H1, I1, rx, q⟩ => ?_⟩
  rcases q with ⟨a, xs, rfl, hq, q⟩ | ⟨a, xs, rfl, hq, q⟩ | ⟨z, rfl, q⟩
  · cases rx
    obtain ⟨its, rv, p, hz⟩ := I1.list hq
    exact wpAny_pyIter_list p.isList (pi_one (tk := s1.toks) I1 _ (turn_list a _) ⟨_, Heap.get?_push_size _ rfl, rfl, rfl⟩ q)
  · cases rx
    obtain ⟨its, rv, p, hz⟩ := I1.tuple hq
    exact wpAny_pyIter_tuple (show s1.heap.IsTuple a its.toArray from p) (pi_one (tk := s1.toks) I1 _ (turn_tuple a _) ⟨_, Heap.get?_push_size _ rfl, rfl, rfl⟩ q)
  · obtain ⟨t, rfl⟩ := rx
    cases ha : z.cps.all (· < 128)
    · exact wpAny_pyIter_wide ha (pi_one (tk := s1.toks) I1 _ (turn_str _ z t _ (.inr rfl)) ⟨_, Heap.get?_push_size _ rfl, rfl, rfl⟩ q)
    · exact wpAny_pyIter_ascii ha (pi_one (tk := s1.toks) I1 _ (turn_str _ z t _ (.inl rfl)) ⟨_, Heap.get?_push_size _ rfl, rfl, rfl⟩ q)
theorem piMono {X : L2.Cx} {tg e : Expr} {t u : TI} (h : PI X tg e u) (k : ∀ σ H Q, t σ H Q → u σ H Q) : PI X tg e t := ⟨fun pins s σ H Q I x => h.run pins s σ H Q I (k _ _ _ x)⟩
section
variable {X : L2.Cx} {ct : Ct} {b0 : Bs} {e a b c tg : Expr} {es : List Expr} {pos : Pos}
abbrev PLI (X : L2.Cx) (ct : Ct) (c : Bs) (P : List D → (SL.Hp → Prop) → SL.Hp → Prop) (R : It → L2.Hp → Prop) : Prop := ∀ xs st h', P xs st h' → ∀ c' J, Ex X.K c c' → SRel X.K ct c' h' → st h' → Src X.K ct c' J xs st → R J c'.H
theorem walk_core {c : Bs} {h : SL.Hp} {tv : TV} {v : V} {xs : List D} {st : SL.Hp → Prop} {P : List D → (SL.Hp → Prop) → SL.Hp → Prop} {R : It → L2.Hp → Prop} (sr : SRel X.K ct c h) (tr : TVR X.K c tv v) (e : walk h tv = some (xs, st)) (p : P xs st h)
    (post : PLI X ct c P R) : kVal X.K v c.H R := by
  unfold walk at e
  split at e
  · cases e
    obtain ⟨a, vs, rfl, q, s⟩ := still_l (ct := ct) (st := fun _ => True) tr
    exact .inl ⟨a, vs, rfl, q, post _ _ h p c _ (Ex.refl c) sr trivial (src_list s)⟩
  · cases e
    obtain ⟨a, vs, rfl, q, s⟩ := still_t (ct := ct) (st := fun _ => True) tr
    exact .inr (.inl ⟨a, vs, rfl, q, post _ _ h p c _ (Ex.refl c) sr trivial (src_tup s)⟩)
  · cases e
    exact .inr (.inr ⟨_, tr, post _ _ h p c _ (Ex.refl c) sr trivial src_str⟩)
  · split at e
    · rename_i hx
      cases e
      obtain ⟨a, vs, rfl, q, s⟩ := still_r (.inl rfl) hx sr tr fun _ z => z
      exact .inl ⟨a, vs, rfl, q, post _ _ h p c _ (Ex.refl c) sr hx (src_list s)⟩
    · rename_i hx
      cases e
      obtain ⟨a, vs, rfl, q, s⟩ := still_r (.inr rfl) hx sr tr fun _ z => z
      exact .inl ⟨a, vs, rfl, q, post _ _ h p c _ (Ex.refl c) sr hx (src_list s)⟩
    · cases e
  · cases e
theorem i_val {ta : FT} (ha : PE X a (LT X.K ct b0 ta)) : PI X tg a (LI X.K ct b0 fun s h Q => ta s h fun x h1 => match walk h1 x with
    | some (xs, st) => Q xs st h1
    | none => False) :=
  piMono (pi_val ha) fun σ H R x => by
    obtain ⟨c, h, s, P, e, ex, sr, st, t, post⟩ := x
    refine ⟨c, h, s, _, e, ex, sr, st, t, fun tv h1 p c1 v ex1 sr1 tr1 tf1 => ?_⟩
    split at p
    · rename_i xs st hw
      exact walk_core sr1 tr1 hw p fun xs st h' p c' J e1 => post xs st h' p c' J (ex1.trans e1)
    · exact p.elim
theorem i_rng {ta : FT} {p : Pos} {x : Str} (hx : x = "range") (hg : Gl X x) (hm : X.mg x = none) (ha : PE X a (LT X.K ct b0 ta)) (hs : starEach [a] X.env = (false, eval a X.env) :: starEach [] X.env) : PI X tg (.Call (.Name x p) [a] [] pos) (LI X.K ct b0 fun s h Q => ta s h fun x h1 => match x with
    | .d (.int n) => n ≤ sz ∧ -(2 ^ 62) ≤ n ∧ Q ((List.range n.toNat).map fun (i : Nat) => D.int i) (fun _ => True) h1
    | _ => False) := by
  subst hx
  exact piMono (pi_range1 hg hm (pa_cons ha pa_nil hs) hs) fun σ H R x => by
    obtain ⟨c, h, s, P, e, ex, sr, st, t, post⟩ := x
    refine ⟨c, h, s, _, e, ex, sr, st, t, fun tv h1 p c1 v ex1 sr1 tr1 tf1 => ?_⟩
    split at p
    · rename_i n
      rw [show v = .int n from tr1]
      have hn : n ≤ 16777216 := p.1
      refine ⟨n, rfl, p.2.1, by omega, post _ _ h1 p.2.2 c1 _ ex1 sr1 trivial ?_⟩
      have := src_rng (K := X.K) (ct := ct) (c0 := c1) (lo := 0) (n := n.toNat) (st := fun _ => True)
      simp only [Int.zero_add] at this
      exact this
    · exact p.elim
theorem i_rg2 {ta tb : FT} {p : Pos} {x : Str} (hx : x = "range") (hg : Gl X x) (hm : X.mg x = none) (ha : PE X a (LT X.K ct b0 ta)) (hb : PE X b (LT X.K ct b0 tb)) (hs : starEach [a, b] X.env = (false, eval a X.env) :: starEach [b] X.env) (hs2 : starEach [b] X.env = (false, eval b X.env) :: starEach [] X.env) :
    PI X tg (.Call (.Name x p) [a, b] [] pos) (LI X.K ct b0 fun s h Q => ta s h fun x h1 => tb s h1 fun y h2 => match x, y with
    | .d (.int m), .d (.int n) => -(2 ^ 61) ≤ m ∧ m < 2 ^ 61 ∧ -(2 ^ 61) ≤ n ∧ n < 2 ^ 61 ∧ n - m ≤ sz ∧ Q ((List.range (n - m).toNat).map fun (i : Nat) => D.int (m + i)) (fun _ => True) h2
    | _, _ => False) := by
  subst hx
  exact piMono (pi_range2 hg hm (pa_cons ha (pa_cons hb pa_nil hs2) hs) (hs.trans (congrArg _ hs2)) hs2) fun σ H R x => by
    obtain ⟨c, h, s, P, e, ex, sr, st, t, post⟩ := x
    refine ⟨c, h, s, _, e, ex, sr, st, t, fun tv h1 p c1 v ex1 sr1 tr1 tf1 => ⟨c1, h1, s, _, rfl, ex.trans ex1, sr1, st.mono ex1, p, fun tv2 h2 p2 c2 v2 ex2 sr2 tr2 tf2 => ?_⟩⟩
    split at p2
    · rename_i m n
      rw [show v = .int m from tr1, show v2 = .int n from tr2]
      obtain ⟨k1, k2, k3, k4, k5, k6⟩ := p2
      exact ⟨m, n, rfl, ⟨by omega, by omega, by omega, by omega⟩, post _ _ h2 k6 c2 _ (ex1.trans ex2) sr2 trivial src_rng⟩
    · exact p2.elim
theorem i_zip {ta tb : FT} {p tpos : Pos} {x : Str} {elts : List Expr} {kk : Nat} (hx : x = "zip") (hg : Gl X x) (hm : X.mg x = none) (ha : PE X a (LT X.K ct b0 ta)) (hb : PE X b (LT X.K ct b0 tb)) (hs : starEach [a, b] X.env = (false, eval a X.env) :: starEach [b] X.env) (hs2 : starEach [b] X.env = (false, eval b X.env) :: starEach [] X.env) :
    PI X (.Tuple elts kk tpos) (.Call (.Name x p) [a, b] [] pos) (LI X.K ct b0 fun s h Q => ta s h fun x h1 => tb s h1 fun y h2 => match walk2 h2 x y with
    | some (xs, ys, st) => Q ((xs.zip ys).map fun p => .tup [p.1, p.2]) st h2
    | none => False) := by
  subst hx
  exact piMono (RZ.pi_zipA hg hm (pa_cons ha (pa_cons hb pa_nil hs2) hs) hs (by rw [hs2]; rfl)) fun σ H R x => by
    obtain ⟨c, h, s, P, e, ex, sr, st, t, post⟩ := x
    refine ⟨c, h, s, _, e, ex, sr, st, t, fun tv h1 p c1 v ex1 sr1 tr1 tf1 => ⟨c1, h1, s, _, rfl, ex.trans ex1, sr1, st.mono ex1, p, fun tv2 h2 p2 c2 v2 ex2 sr2 tr2 tf2 => ?_⟩⟩
    split at p2
    · rename_i xs ys st2 hw
      have tr1' := tr1.mono ex2
      unfold walk2 at hw
      split at hw
      · cases hw
        obtain ⟨a1, vs, rfl, q, s1⟩ := still_t (ct := ct) (st := fun _ => True) tr1'
        obtain ⟨a2, ws, rfl, q2, s2⟩ := still_t (ct := ct) (st := fun _ => True) tr2
        exact ⟨a1, a2, vs, ws, rfl, .inr ⟨q, q2, post _ _ h2 p2 c2 _ (ex1.trans ex2) sr2 trivial (src_zipT s1 s2)⟩⟩
      · split at hw
        · rename_i xa sa ya sb e1 e2
          cases hw
          obtain ⟨t1, a1, vs, rfl, q, s1⟩ := walkL_there (ct := ct) (st2 := fun h' => sa h' ∧ sb h') sr2 tr1' e1 (fun h' z => z.1)
          obtain ⟨t2, a2, ws, rfl, q2, s2⟩ := walkL_there (ct := ct) (st2 := fun h' => sa h' ∧ sb h') sr2 tr2 e2 (fun h' z => z.2)
          exact ⟨a1, a2, vs, ws, rfl, .inl ⟨q, q2, post _ _ h2 p2 c2 _ (ex1.trans ex2) sr2 ⟨t1, t2⟩ (src_zipL s1 s2)⟩⟩
        · cases hw
    · exact p2.elim
theorem i_enu {ta : FT} {p tpos : Pos} {x : Str} {elts : List Expr} {kk : Nat} (hx : x = "enumerate") (hg : Gl X x) (hm : X.mg x = none) (ha : PE X a (LT X.K ct b0 ta)) (hs : starEach [a] X.env = (false, eval a X.env) :: starEach [] X.env) :
    PI X (.Tuple elts kk tpos) (.Call (.Name x p) [a] [] pos) (LI X.K ct b0 fun s h Q => ta s h fun x h1 => match walkL h1 x with
    | some (xs, st) => Q (xs.zipIdx.map fun p => .tup [.int p.2, p.1]) st h1
    | none => False) := by
  subst hx
  exact piMono (pi_enum hg hm (pa_cons ha pa_nil hs) hs) fun σ H R x => by
    obtain ⟨c, h, s, P, e, ex, sr, st, t, post⟩ := x
    refine ⟨c, h, s, _, e, ex, sr, st, t, fun tv h1 p c1 v ex1 sr1 tr1 tf1 => ?_⟩
    split at p
    · rename_i xs st2 hw
      obtain ⟨t1, a1, vs, rfl, q, s1⟩ := walkL_there (ct := ct) (st2 := st2) sr1 tr1 hw (fun h' z => z)
      exact ⟨a1, vs, rfl, q, post _ _ h1 p c1 _ ex1 sr1 t1 (src_enu s1)⟩
    · exact p.elim
/-! ### targets of loops: names and tuples of names -/
abbrev FG := D → Sto → SL.Hp → (Sto → SL.Hp → Prop) → Prop
def LGw (K : PySem.W.Frag) (ct : Ct) (b0 : Bs) (own : List Nat) (t : FG) : L2.TG := fun v σ H Q => ∃ (c : Bs) (h : SL.Hp) (s : Sto) (x : D) (P : Sto → SL.Hp → Prop), c.H = H ∧ Ex K b0 c ∧ SRel K ct c h ∧ StoR K c s σ ∧ DR K c x v ∧ t x s h P ∧
  ∀ s' h', P s' h' → ∀ c' σ', Ex K c c' → SRel K ct c' h' → StoR K c' s' σ' → L2.wipe σ' own = L2.wipe σ own → Q σ' c'.H
abbrev FGs := List D → Sto → SL.Hp → (Sto → SL.Hp → Prop) → Prop
def LGsw (K : PySem.W.Frag) (ct : Ct) (b0 : Bs) (own : List Nat) (t : FGs) : L2.TGs := fun vs σ H Q => ∃ (c : Bs) (h : SL.Hp) (s : Sto) (xs : List D) (P : Sto → SL.Hp → Prop), c.H = H ∧ Ex K b0 c ∧ SRel K ct c h ∧ StoR K c s σ ∧ DRs K c xs vs ∧ t xs s h P ∧
  ∀ s' h', P s' h' → ∀ c' σ', Ex K c c' → SRel K ct c' h' → StoR K c' s' σ' → L2.wipe σ' own = L2.wipe σ own → Q σ' c'.H
theorem StoR.set {K : PySem.W.Frag} {c : Bs} {s : Sto} {σ : L2.St} (st : StoR K c s σ) {x : D} {v : V} (r : DR K c x v) (i : Nat) : StoR K c (s.set i (some x)) (σ.set i (some v)) := by
  refine ⟨by rw [List.length_set, List.length_set]; exact st.1, fun j y e => ?_⟩
  by_cases z : j = i
  · subst z
    have hl : j < s.length := by
      have := (List.getElem?_eq_some_iff.mp e).1
      rw [List.length_set] at this
      exact this
    rw [List.getElem?_set_self hl] at e
    cases e
    exact ⟨v, List.getElem?_set_self (by rw [← st.1]; exact hl), r⟩
  · rw [List.getElem?_set_ne (fun q => z q.symm)] at e
    obtain ⟨w, h1, h2⟩ := st.2 j y e
    exact ⟨w, by rw [List.getElem?_set_ne (fun q => z q.symm)]; exact h1, h2⟩
theorem StoR.drop {K : PySem.W.Frag} {c : Bs} {s : Sto} {σ : L2.St} (st : StoR K c s σ) (i : Nat) : StoR K c (s.set i none) (σ.set i none) := by
  refine ⟨by rw [List.length_set, List.length_set]; exact st.1, fun j y e => ?_⟩
  by_cases z : j = i
  · subst z
    have hl : j < s.length := by
      have := (List.getElem?_eq_some_iff.mp e).1
      rw [List.length_set] at this
      exact this
    rw [List.getElem?_set_self hl] at e
    cases e
  · rw [List.getElem?_set_ne (fun q => z q.symm)] at e
    obtain ⟨w, h1, h2⟩ := st.2 j y e
    exact ⟨w, by rw [List.getElem?_set_ne (fun q => z q.symm)]; exact h1, h2⟩
theorem StoR.wipe {K : PySem.W.Frag} {c : Bs} {s : Sto} {σ : L2.St} (st : StoR K c s σ) : ∀ own : List Nat, StoR K c (SL.wipe s own) (L2.wipe σ own)
  | [] => st
  | v :: vs => StoR.drop (StoR.wipe st vs) v
theorem wipe_set {σ : L2.St} {i : Nat} {v : Option V} : ∀ {own : List Nat}, i ∈ own → L2.wipe (σ.set i v) own = L2.wipe σ own
  | a :: own, h => by
    show (L2.wipe (σ.set i v) own).set a none = (L2.wipe σ own).set a none
    by_cases z : i ∈ own
    · rw [wipe_set z]
    · have e : i = a := by
        rcases List.mem_cons.mp h with q | q
        · exact q
        · exact absurd q z
      subst e
      have go : ∀ (own : List Nat) (σ : L2.St), (L2.wipe (σ.set i v) own).set i none = (L2.wipe σ own).set i none := fun own => by
        induction own with
        | nil => intro σ; show (σ.set i v).set i none = σ.set i none; rw [List.set_set]
        | cons b own ih =>
          intro σ
          show ((L2.wipe (σ.set i v) own).set b none).set i none = ((L2.wipe σ own).set b none).set i none
          by_cases q : b = i
          · subst q
            rw [List.set_set, List.set_set]
            exact ih σ
          · rw [List.set_comm _ _ q, List.set_comm _ _ q, ih σ]
      exact go own σ
theorem g_nm {own : List Nat} {i : Nat} {x : Str} (hN : X.N.Nodup) (hi : X.N[i]? = some x) (hx : Loc X.env.scope x) (hf : X.fn x = true ∨ X.env.scope.names.lookup x = some .local) (ho : i ∈ own) : PG X (.Name x pos) (LGw X.K ct b0 own fun x s h Q => Q (s.set i (some x)) h) :=
  pgMono (pg_name hN hi hx hf) fun v σ H Q t => by
    obtain ⟨c, h, s, x, P, rfl, ex, sr, st, r, t, post⟩ := t
    exact post _ h t c _ (Ex.refl c) sr (st.set r i) (wipe_set ho)
theorem gs_nil {own : List Nat} : PGs X [] (LGsw X.K ct b0 own fun xs s h Q => match xs with
    | [] => Q s h
    | _ :: _ => False) :=
  pgsMono pgs_nil fun vs σ H Q t => by
    obtain ⟨c, h, s, xs, P, rfl, ex, sr, st, r, t, post⟩ := t
    cases xs with
    | nil => exact ⟨r, post _ h t c _ (Ex.refl c) sr st rfl⟩
    | cons _ _ => exact t.elim
theorem gs_cons {own : List Nat} {t : FG} {u : FGs} (h1 : PG X e (LGw X.K ct b0 own t)) (h2 : PGs X es (LGsw X.K ct b0 own u)) (hs : (assignEach (e :: es) X.env).map (·.2) = assign e X.env :: (assignEach es X.env).map (·.2)) : PGs X (e :: es) (LGsw X.K ct b0 own fun xs s h Q => match xs with
    | x :: xs => t x s h fun s1 h1 => u xs s1 h1 Q
    | [] => False) :=
  pgsMono (pgs_cons h1 h2 hs) fun vs σ H Q t => by
    obtain ⟨c, h, s, xs, P, e, ex, sr, st, r, t, post⟩ := t
    cases xs with
    | nil => exact t.elim
    | cons x xs =>
      obtain ⟨v, w, rfl, r1, r2⟩ := r
      exact ⟨v, w, rfl, c, h, s, x, _, e, ex, sr, st, r1, t, fun s' h' p c' σ' ex' sr' st' hw => ⟨c', h', s', xs, P, rfl, ex.trans ex', sr', st', DRs.mono ex' _ _ r2, p,
        fun s2 h2 p2 c2 σ2 ex2 sr2 st2 hw2 => post s2 h2 p2 c2 σ2 (ex'.trans ex2) sr2 st2 (hw2.trans hw)⟩⟩
/-- (a, b, ..) = a tuple (or a list) -/
theorem g_tp {own : List Nat} {t : FGs} {k n : Nat} (hc : X.calm = true) (h : PGs X es (LGsw X.K ct b0 own t)) (hn : (assignEach es X.env).length = n) (hst : (assignEach es X.env).findIdx? (·.1) = none) : PG X (.Tuple es k pos) (LGw X.K ct b0 own fun x s h Q => match x with
    | .tup xs => xs.length = n ∧ t xs s h Q
    | _ => False) :=
  pgMono (pg_tup hc h hn hst) fun v σ H Q z => by
    obtain ⟨c, h, s, x, P, e, ex, sr, st, r, t, post⟩ := z
    subst e
    cases x with
    | tup xs =>
      obtain ⟨a, vs, rfl, q, rs⟩ := r
      exact ⟨a, vs, rfl, q, by rw [rs.length]; exact t.1, c, h, s, xs, P, rfl, ex, sr, st, rs, t.2, post⟩
    | _ => exact t.elim
end
end SL

set_option linter.all false
set_option autoImplicit false
set_option maxRecDepth 100000
set_option Elab.async false
/-! SLCom: list comprehensions. -/
namespace SL
open PySem PySem.Spec PyProof.Rows L2
theorem wipe_idem (σ : L2.St) (own : List Nat) : L2.wipe (L2.wipe σ own) own = L2.wipe σ own := by
  have get : ∀ (own : List Nat) (σ : L2.St) (i : Nat), (L2.wipe σ own)[i]? = if i ∈ own ∧ i < σ.length then some none else σ[i]? := fun own => by
    induction own with
    | nil => intro σ i; simp [L2.wipe]
    | cons a own ih =>
      intro σ i
      show ((L2.wipe σ own).set a none)[i]? = _
      by_cases z : i = a
      · subst z
        by_cases hl : i < σ.length
        · rw [List.getElem?_set_self (by rw [wipe_length]; exact hl), if_pos ⟨List.mem_cons_self .., hl⟩]
        · rw [if_neg (fun q => hl q.2), List.getElem?_eq_none (by rw [List.length_set, wipe_length]; omega), List.getElem?_eq_none (by omega)]
      · rw [List.getElem?_set_ne (fun q => z q.symm), ih]
        simp [z]
  apply List.ext_getElem?
  intro i
  rw [get own (L2.wipe σ own) i, get own σ i, wipe_length]
  split <;> rfl
section
variable {K : PySem.W.Frag} {ct : Ct}
/-- a list of one's own is written -/
theorem sqT_own {H : L2.Hp} {p a : Addr} {vs : List V} {o : HO} {xs : List V} (hp : H p = some (.lst vs)) (h : SqT K H a xs) : SqT K (upd H p o) a xs := sqT_upd (fun ys z => by rcases z with z | ⟨u, z⟩ <;> rw [hp] at z <;> cases z) h
mutual
theorem DR.put {c : Bs} {p : Addr} {o : HO} (hT : ∀ a xs, SqT K c.H a xs → SqT K (c.put p o).H a xs) : ∀ (d : D) (v : V), DR K c d v → DR K (c.put p o) d v
  | .non, _, h => h
  | .bl _, _, h => h
  | .int _, _, h => h
  | .str _, _, h => h
  | .tup xs, v, h => by
    obtain ⟨a, vs, e, t, r⟩ := h
    exact ⟨a, vs, e, hT a vs t, DRs.put hT xs vs r⟩
  | .ref l, v, h => h
theorem DRs.put {c : Bs} {p : Addr} {o : HO} (hT : ∀ a xs, SqT K c.H a xs → SqT K (c.put p o).H a xs) : ∀ (xs : List D) (vs : List V), DRs K c xs vs → DRs K (c.put p o) xs vs
  | [], _, h => h
  | y :: ys, vs, h => by
    obtain ⟨v, r, e, h1, h2⟩ := h
    exact ⟨v, r, e, DR.put hT y v h1, DRs.put hT ys r h2⟩
end
theorem OR.put {c : Bs} {p a : Addr} {o : HO} {u : O} (hT : ∀ a xs, SqT K c.H a xs → SqT K (c.put p o).H a xs) (hp : a ≠ p) (h : OR K ct c a u) : OR K ct (c.put p o) a u := by
  have up : ∀ w, c.H a = some w → (c.put p o).H a = some w := fun w q => by
    rw [show (c.put p o).H a = c.H a from upd_ne hp]
    exact q
  cases u with
  | lst xs =>
    obtain ⟨vs, q, r⟩ := h
    exact ⟨vs, up _ q, DRs.put hT _ _ r⟩
  | fz xs =>
    obtain ⟨vs, q, r⟩ := h
    refine ⟨vs, ?_, DRs.put hT _ _ r⟩
    rcases q with q | ⟨w, q⟩
    · exact .inl (up _ q)
    · exact .inr ⟨w, up _ q⟩
  | dic kvs =>
    rcases h with ⟨ks, q, r1, r2⟩ | ⟨fz, ks, q, r1, r2, r3⟩
    · exact .inl ⟨ks, up _ q, DRs.put hT _ _ r1, DRs.put hT _ _ r2⟩
    · exact .inr ⟨fz, ks, up _ q, DRs.put hT _ _ r1, DRs.put hT _ _ r2, r3⟩
  | lck o kvs =>
    obtain ⟨ks, q, r1, r2, r3⟩ := h
    exact ⟨ks, up _ q, DRs.put hT _ _ r1, DRs.put hT _ _ r2, r3⟩
  | ins cn fs =>
    obtain ⟨dx, vs, q, l, r⟩ := h
    refine ⟨dx, vs, up _ q, l, fun f => ?_⟩
    have rf := r f
    split at rf
    · rename_i d hd
      obtain ⟨v, e1, e2⟩ := rf
      exact ⟨v, e1, DR.put hT _ _ e2⟩
    · exact rf
  | exc cn fs => exact h.elim
theorem SRel.own {c : Bs} {h : SL.Hp} {p : Addr} {vs ws : List V} (sr : SRel K ct c h) (hp : c.H p = some (.lst vs)) (ap : ∀ i, i < c.n → c.μ i ≠ p) : SRel K ct (c.put p (.lst ws)) h :=
  ⟨sr.len, sr.inj, fun i u e => OR.put (fun a xs z => sqT_own hp z) (ap i (by rw [sr.len]; exact (List.getElem?_eq_some_iff.mp e).1)) (sr.obj i u e)⟩
theorem Ex.own {b c : Bs} {p : Addr} {vs ws : List V} (ex : Ex K b c) (hb : b.H p = none) (hp : c.H p = some (.lst vs)) (ap : ∀ i, i < c.n → c.μ i ≠ p) : Ex K b (c.put p (.lst ws)) where
  le := ex.le
  mu := ex.mu
  tup := fun a xs h => sqT_own hp (ex.tup a xs h)
  stay := fun a o h k => by
    have hne : a ≠ p := fun e => by rw [e, hb] at h; cases h
    obtain ⟨h1, k1⟩ := ex.stay a o h k
    exact ⟨by rw [show (c.put p (.lst ws)).H a = c.H a from upd_ne hne]; exact h1, k1⟩
  old := fun a h => by
    by_cases e : a = p
    · rw [e]; exact hb
    · rw [show (c.put p (.lst ws)).H a = c.H a from upd_ne e] at h
      exact ex.old a h
end
abbrev FB := Sto → SL.Hp → (Bool → SL.Hp → Prop) → Prop
def LF (K : PySem.W.Frag) (ct : Ct) (b0 : Bs) (t : FB) : L2.TT := fun σ H Q => ∃ (c : Bs) (h : SL.Hp) (s : Sto) (P : Bool → SL.Hp → Prop), c.H = H ∧ Ex K b0 c ∧ SRel K ct c h ∧ StoR K c s σ ∧ t s h P ∧
  ∀ k h', P k h' → ∀ c', Ex K c c' → SRel K ct c' h' → Q k c'.H
theorem ptsMono {X : L2.Cx} {e : List Expr} {t u : TT} (h : PTs X e u) (k : ∀ σ H Q, t σ H Q → u σ H Q) : PTs X e t := ⟨fun pins s σ H Q I x => h.run pins s σ H Q I (k _ _ _ x)⟩
section
variable {X : L2.Cx} {ct : Ct} {b0 : Bs}
theorem f_nil : PTs X [] (LF X.K ct b0 fun s h Q => Q true h) := ptsMono pts_nil fun σ H Q x => by
  obtain ⟨c, h, s, P, rfl, ex, sr, st, t, post⟩ := x
  exact post true h t c (Ex.refl c) sr
theorem f_one {e : Expr} {t : FT} (h : PT X e (LB X.K ct b0 t)) : PTs X [e] (LF X.K ct b0 fun s h Q => t s h (tst Q)) := ptsMono (pts_one h) fun σ H Q x => x
def turnOf (g : FG) (tt : FB) (te : FT) (own : List Nat) (s : Sto) : D → SL.Hp → (Option D → SL.Hp → Prop) → Prop := fun x h q => g x (SL.wipe s own) h fun s2 h2 => tt s2 h2 fun b h3 => if b = true then te s2 h3 (lay fun y h4 => q (some y) h4) else q none h3
theorem lc_lift {wi : FI} {g : FG} {tt : FB} {te : FT} {own : List Nat} {σ : L2.St} {H : L2.Hp} {Q : VK}
    (x : LT X.K ct b0 (fun s h Q => wi s h fun xs st h1 => compGo st (turnOf g tt te own s) xs h1 [] fun ys h2 => Q (.l ys) h2) σ H Q) : tLc (LI X.K ct b0 wi) (LGw X.K ct b0 own g) (LF X.K ct b0 tt) (LT X.K ct b0 te) own σ H Q := by
  obtain ⟨c, h, s, P, e, ex, sr, st, t, post⟩ := x
  refine ⟨c, h, s, _, e, ex, sr, st, t, fun xs stt h1 p c1 J ex1 sr1 hst src D hD => ?_⟩
  let G : Nat → L2.Hp → Prop := fun i H' => ∃ (c2 : Bs) (h2 : SL.Hp) (acc : List SL.D) (vs : List V), c2.H = H' ∧ Ex X.K c1 c2 ∧ SRel X.K ct c2 h2 ∧ c2.H D = some (.lst vs) ∧ DRs X.K c2 acc vs ∧ (∀ i, i < c2.n → c2.μ i ≠ D) ∧
    compGo stt (turnOf g tt te own s) (xs.drop i) h2 acc fun ys h2 => P (.l ys) h2
  refine ⟨fun i m H' => m = xs.length - i ∧ i ≤ xs.length ∧ G i H', ⟨xs.length, rfl, Nat.zero_le _, c1.put D (.lst []), h1, [], [], rfl, Ex.new hD, sr1.new hD, upd_same, rfl, sr1.apart hD, p⟩, ?_⟩
  rintro i m H' ⟨rfl, hi, c2, h2, acc, vs, rfl, ex2, sr2, hD2, drs, ap, go⟩
  by_cases hlt : i < xs.length
  · rw [List.drop_eq_getElem_cons hlt] at go
    obtain ⟨g1, g2, g3⟩ := go
    refine .inr ⟨src.goes i c2 h2 ex2 sr2 g1 hlt, G (i + 1), fun H' z => ⟨xs.length - (i + 1), by omega, rfl, hlt, z⟩, fun v H' y => ?_⟩
    obtain ⟨c3, rfl, ex3, sr3, r3⟩ := src.ylds i xs[i] c2 h2 v H' ex2 sr2 g1 (List.getElem?_eq_getElem hlt) y
    have exA : Ex X.K c c3 := (ex1.trans ex2).trans ex3
    refine ⟨c3, h2, SL.wipe s own, xs[i], _, rfl, ex.trans exA, sr3, (st.mono exA).wipe own, r3, g3, fun s4 h4 p4 c4 σ4 ex4 sr4 st4 hw => ⟨hw.trans (wipe_idem σ own), c4, h4, s4, _, rfl, ex.trans (exA.trans ex4), sr4, st4, p4, fun b h5 p5 c5 ex5 sr5 => ?_⟩⟩
    have ex25 : Ex X.K c2 c5 := ex3.trans (ex4.trans ex5)
    cases b with
    | true =>
      show (if true = true then _ else _)
      rw [if_pos rfl] at p5 ⊢
      refine ⟨c5, h5, s4, _, rfl, ex.trans (exA.trans (ex4.trans ex5)), sr5, st4.mono ex5, p5, fun tv h6 p6 c6 w ex6 sr6 tr6 tf6 => ?_⟩
      obtain ⟨c7, h7, d, ex7, sr7, dr7, p7, e7⟩ := LT.laid ex6 sr6 tr6 tf6 p6
      have ex27 : Ex X.K c2 c7 := ex25.trans ex7
      obtain ⟨q1, q2⟩ := ex27.stay D _ hD2 ap
      have tupk : ∀ a xs, SqT X.K c7.H a xs → SqT X.K (c7.put D (.lst (vs ++ [w]))).H a xs := fun a xs z => sqT_own q1 z
      refine ⟨vs, by rw [← e7]; exact q1, by rw [drs.length, ← sz_line]; exact g2, c7.put D (.lst (vs ++ [w])), h7, acc ++ [d], vs ++ [w], by rw [← e7], (ex2.trans ex27).own hD q1 q2, sr7.own q1 q2, upd_same, ?_, q2, p7⟩
      exact DRs.append (DRs.put tupk _ _ (DRs.mono ex27 _ _ drs)) ⟨w, [], rfl, DR.put tupk _ _ dr7, rfl⟩
    | false =>
      show (if false = true then _ else _)
      rw [if_neg Bool.false_ne_true] at p5 ⊢
      obtain ⟨q1, q2⟩ := ex25.stay D _ hD2 ap
      exact ⟨c5, h5, acc, vs, rfl, ex2.trans ex25, sr5, q1, DRs.mono ex25 _ _ drs, q2, p5⟩
  · have e0 : i = xs.length := by omega
    subst e0
    rw [List.drop_length] at go
    exact .inl ⟨src.stops c2 h2 ex2 sr2 go.1, post _ h2 go.2 c2 (.ref D) (ex1.trans ex2) sr2 ⟨D, vs, rfl, hD2, drs, ap⟩ fun a q => by cases q; exact ex1.old D hD⟩
theorem e_comp {elt tg iter : Expr} {ifs : List Expr} {scope : Scope} {own : List (Str × Nat)} {pos : Pos} {wi : FI} {g : FG} {tt : FB} {te : FT} (hc : X.calm = true) (hN : X.N.Nodup) (hi : PI X tg iter (LI X.K ct b0 wi)) (ok : BlkOk X.N X.env.scope scope own)
    (hg : ∀ s H C cl fp, PG (X.blk s H scope (compEnvC scope cl C X.env) fp) tg (LGw X.K ct b0 (own.map (·.2)) g)) (ht : ∀ s H C cl fp, PTs (X.blk s H scope (compEnvC scope cl C X.env) fp) ifs (LF X.K ct b0 tt))
    (he : ∀ s H C cl fp, PE (X.blk s H scope (compEnvC scope cl C X.env) fp) elt (LT X.K ct b0 te)) (hs : ∀ x, foldedSetIterable iter X.env x = pure x) :
    PE X (.ListComp elt [⟨tg, iter, ifs, 0⟩] scope pos) (LT X.K ct b0 fun s h Q => wi s h fun xs st h1 => compGo st (turnOf g tt te (own.map (·.2)) s) xs h1 [] fun ys h2 => Q (.l ys) h2) :=
  peMono (pe_lc hc hN hi ok hg ht he hs) fun σ H Q x => lc_lift x
end
end SL

set_option linter.all false
set_option autoImplicit false
set_option maxRecDepth 100000
set_option Elab.async false
/-! SLSt: statements. -/
namespace SL
open PySem PySem.Spec PyProof.Rows L2
def noX : XS := fun _ _ _ _ => False
abbrev R0 : XR := fun _ _ _ => False
abbrev FS := En → Sto → SL.Hp → Prop
section
variable {X : L2.Cx} {ct : Ct} {b0 : Bs} {e a b c tg : Expr} {es : List Expr} {pos : Pos} {st : Stmt} {sts : List Stmt}
theorem LG.w {own : List Nat} {g : FG} (h : PG X tg (LGw X.K ct b0 own g)) : PG X tg (LG X.K ct b0 g) := pgMono h fun v σ H Q t => by
  obtain ⟨c, h, s, x, P, e, ex, sr, st, r, t, post⟩ := t
  exact ⟨c, h, s, x, P, e, ex, sr, st, r, t, fun s' h' p c' σ' e1 e2 e3 _ => post s' h' p c' σ' e1 e2 e3⟩
/-- o[i] = x of a list -/
def fSub (o i : FT) : FG := fun x s h Q => o s h fun ov h1 => i s h1 fun iv h2 => match ov, iv with
  | .d (.ref l), .d k => (match h2[l]? with
    | some (.lst xs) => (match k with
      | .int j => 0 ≤ j ∧ j.toNat < xs.length ∧ Q s (h2.set l (.lst (xs.set j.toNat x)))
      | _ => False)
    | some (.dic kvs) => fitK kvs k = true ∧ kvs.length < sz ∧ Q s (h2.set l (.dic (kput kvs k x)))
    | _ => False)
  | _, _ => False
def rSetD (K : PySem.W.Frag) (ct : Ct) : V → V → V → L2.Hp → (L2.Hp → Prop) → Prop := fun ov iv v H Q => ∃ (c : Bs) (h : SL.Hp) (l : Nat) (kvs : List (D × D)) (k x : D), c.H = H ∧ SRel K ct c h ∧ h[l]? = some (.dic kvs) ∧ ov = .ref (c.μ l) ∧ DR K c k iv ∧ DR K c x v ∧ fitK kvs k = true ∧ kvs.length < sz ∧
  ∀ c' : Bs, Ex K c c' → SRel K ct c' (h.set l (.dic (kput kvs k x))) → Q c'.H
theorem mut_dic {K : PySem.W.Frag} {c : Bs} {a : Addr} {kvs : List (D × D)} (o : ORd K ct c a kvs) : ∃ w, c.H a = some w ∧ (∀ ys, w ≠ .tup ys) ∧ (∀ u ys, w ≠ .frz u (.tup ys)) ∧ Mut (some w) := by
  rcases o with ⟨ks, q, _⟩ | ⟨_, ks, q, _⟩
  · exact ⟨_, q, (fun _ z => by cases z), (fun _ _ z => by cases z), trivial⟩
  · exact ⟨_, q, (fun _ z => by cases z), (fun _ _ z => by cases z), trivial⟩
theorem set_dic (hp : ct.pr = X.prog) (hw : ct.w = X.w) (hu : X.A.units + 200 < cLine) : PSet X (rSetD X.K ct) := by
  intro pins s σ H ov iv v uo ui uv Q I ro ri rv t
  obtain ⟨c, h, l, kvs, k, x, rfl, sr, hx, rfl, dk, dx, f, hz, q⟩ := t
  cases ro
  have hl : l < c.n := by rw [sr.len]; exact (List.getElem?_eq_some_iff.mp hx).1
  have o : ORd X.K ct c (c.μ l) kvs := sr.obj _ _ hx
  obtain ⟨w, e1, e2, e3, _⟩ := mut_dic o
  refine dic_put hp hw hu I o f hz dk ri dx rv fun o' s' ho ht I' => ⟨_, I', ?_⟩
  have ex : Ex X.K c (c.put (c.μ l) o') := Ex.write hl e1 e2 e3
  exact q _ ex (sr.write (w := w) (u := .dic (kput kvs k x)) hl ex (ho _ (fun d v r => DR.mono ex d v r) (fun ds vs r => DRs.mono ex ds vs r) upd_same))
theorem set_any (hp : ct.pr = X.prog) (hw : ct.w = X.w) (hu : X.A.units + 200 < cLine) : PSet X (fun o i v H Q => rSetL o i v H Q ∨ rSetD X.K ct o i v H Q) := by
  intro pins s σ H ov iv v uo ui uv Q I ro ri rv t
  rcases t with t | t
  · exact set_list pins s σ H ov iv v uo ui uv Q I ro ri rv t
  · exact set_dic hp hw hu pins s σ H ov iv v uo ui uv Q I ro ri rv t
theorem g_sub {to ti : FT} (hp : ct.pr = X.prog) (hw : ct.w = X.w) (hu : X.A.units + 200 < cLine) (ho : PE X a (LT X.K ct b0 to)) (hi : PE X b (LT X.K ct b0 ti)) (hs : ∀ v, assign (.Subscript a b pos) X.env v = (do
      let ov ← holding [v] (eval a X.env)
      let iv ← holding [v, ov] (eval b X.env)
      standAt pos
      holding [v, ov, iv] (setItem ov iv v)
      release [v, ov, iv] [])) : PG X (.Subscript a b pos) (LG X.K ct b0 (fSub to ti)) :=
  pgMono (pg_sub ho hi (set_any hp hw hu) hs) fun v σ H Q t => by
    obtain ⟨c, h, s, x, P, e, ex, sr, st, r, t, post⟩ := t
    refine ⟨c, h, s, _, e, ex, sr, st, t, fun tv h1 p c1 w1 ex1 sr1 tr1 tf1 => ⟨c1, h1, s, _, rfl, ex.trans ex1, sr1, st.mono ex1, p, fun tv2 h2 p2 c2 w2 ex2 sr2 tr2 tf2 => ?_⟩⟩
    split at p2
    · rename_i l k
      obtain ⟨hl, rfl⟩ := (show DR X.K c2 (.ref l) w1 from DR.mono ex2 _ _ tr1)
      split at p2
      · rename_i xs hx
        split at p2
        · rename_i j
          obtain ⟨k1, k2, k3⟩ := p2
          obtain ⟨vs, q, rs⟩ := sr2.obj _ _ hx
          have len := rs.length
          obtain ⟨ex3, sr3⟩ := write_list (xs := xs) sr2 hl q (DRs.set (DR.mono (ex1.trans ex2) _ _ r) j.toNat rs)
          refine .inl ⟨c2.μ l, vs, j, j.toNat, rfl, tr2, q, ?_, post _ _ k3 _ _ ((ex1.trans ex2).trans ex3) sr3 (st.mono ((ex1.trans ex2).trans ex3))⟩
          unfold ixN
          rw [if_pos k1, if_pos (by omega)]
        · exact p2.elim
      · rename_i kvs hx
        obtain ⟨f, hz, k3⟩ := p2
        exact .inr ⟨c2, h2, l, kvs, k, x, rfl, sr2, hx, rfl, tr2, DR.mono (ex1.trans ex2) _ _ r, f, hz, fun c3 ex3 sr3 => post _ _ k3 _ _ ((ex1.trans ex2).trans ex3) sr3 (st.mono ((ex1.trans ex2).trans ex3))⟩
      · exact p2.elim
    · exact p2.elim
/-! ### small statements -/
abbrev LS0 (K : PySem.W.Frag) (ct : Ct) (b0 : Bs) (t : FS) : L2.TS := LS K ct b0 noX t
theorem s_asgC {te : TE} {gg : TG} {ta : FT} {g : FG} (hp : PS X st (tAsg te gg)) (he : ∀ σ H Q, LT X.K ct b0 ta σ H Q → te σ H Q) (hg : ∀ v σ H Q, LG X.K ct b0 g v σ H Q → gg v σ H Q) :
    PS X st (LS0 X.K ct b0 fun n s h => ta s h (lay fun x h1 => g x s h1 n.nx)) :=
  psMono hp fun W σ H t => by
    obtain ⟨c, h, s, n, hx, e, ex, sr, st, t, nx, rt, bk, ctn⟩ := t
    refine he _ _ _ ⟨c, h, s, _, e, ex, sr, st, t, fun tv h1 p c1 w ex1 sr1 tr1 tf1 => ?_⟩
    obtain ⟨c2, h2, d, ex2, sr2, dr, p2, e2⟩ := LT.laid ex1 sr1 tr1 tf1 p
    exact hg _ _ _ _ ⟨c2, h2, s, d, n.nx, e2, ex.trans ex2, sr2, st.mono ex2, dr, p2, fun s' h' p3 c3 σ3 ex3 sr3 st3 => nx s' h' p3 c3 σ3 ((ex.trans ex2).trans ex3) sr3 st3⟩
theorem s_asg {ta : FT} {g : FG} (he : PE X e (LT X.K ct b0 ta)) (hg : PG X tg (LG X.K ct b0 g)) (hs : swapsWithSole [tg] e pos.line X.env = pure false) (hw : swappedStores [tg] e X.env = pure none) (h1 : (assignEach [tg] X.env).map (·.2) = [assign tg X.env]) :
    PS X (.Assign [tg] e pos) (LS0 X.K ct b0 fun n s h => ta s h (lay fun x h1 => g x s h1 n.nx)) := s_asgC (ps_asg he hg hs hw h1) (fun _ _ _ t => t) fun _ _ _ _ t => t
theorem s_setC {elt iter : Expr} {ifs : List Expr} {scope : Scope} {own : List (Str × Nat)} {spos py : Pos} {wi : FI} {g : FG} {tt : FB} {te : FT} {i : Nat} {y : Str} (hc : X.calm = true) (hN : X.N.Nodup) (hy : X.N[i]? = some y) (hyl : X.env.scope.names.lookup y = some .local)
    (hsw : swapsWith (.ListComp elt [⟨tg, iter, ifs, 0⟩] scope pos) (some (.Name y py)) spos.line X.env = pure true) (hi : PI X tg iter (LI X.K ct b0 wi)) (ok : BlkOk X.N X.env.scope scope own)
    (hg : ∀ s H C cl fp, PG (X.blk s H scope (compEnvC scope cl C X.env) fp) tg (LGw X.K ct b0 (own.map (·.2)) g)) (ht : ∀ s H C cl fp, PTs (X.blk s H scope (compEnvC scope cl C X.env) fp) ifs (LF X.K ct b0 tt))
    (he : ∀ s H C cl fp, PE (X.blk s H scope (compEnvC scope cl C X.env) fp) elt (LT X.K ct b0 te)) (hs : ∀ x, foldedSetIterable iter X.env x = pure x) :
    PS X (.Assign [.Name y py] (.ListComp elt [⟨tg, iter, ifs, 0⟩] scope pos) spos) (LS0 X.K ct b0 fun n s h => (fun s h Q => wi s h fun xs st h1 => compGo st (turnOf g tt te (own.map (·.2)) s) xs h1 [] fun ys h2 => Q (.l ys) h2) s h (lay fun x h1 => (fun x s h Q => Q (s.set i (some x)) h) x s h1 n.nx)) :=
  s_asgC (ta := fun s h Q => wi s h fun xs st h1 => compGo st (turnOf g tt te (own.map (·.2)) s) xs h1 [] fun ys h2 => Q (.l ys) h2) (g := fun x s h Q => Q (s.set i (some x)) h) (ps_setLc hc hN hy hyl hsw hi ok hg ht he hs) (fun _ _ _ t => lc_lift t) fun v σ H Q t => by
    obtain ⟨c, h, s, x, P, rfl, ex, sr, st, r, t, post⟩ := t
    exact post _ h t c _ (Ex.refl c) sr (st.set r i)
/-- a tuple of targets = a tuple of values, by a tuple -/
theorem s_par {ta : FA} {g : FGs} {n k2 : Nat} {pt : Pos} (ha : PA X es (LA X.K ct b0 ta)) (hg : PG X tg (LG X.K ct b0 fun x s h Q => match x with
    | .tup xs => xs.length = n ∧ g xs s h Q
    | _ => False)) (hn : n ≤ sz) (hs : swapsWithSole [tg] (.Tuple es k2 pt) pos.line X.env = pure false) (hw : swappedStores [tg] (.Tuple es k2 pt) X.env = pure none) (h1 : (assignEach [tg] X.env).map (·.2) = [assign tg X.env]) :
    PS X (.Assign [tg] (.Tuple es k2 pt) pos) (LS0 X.K ct b0 fun m s h => ta s h fun xs h1 => xs.length = n ∧ g xs s h1 m.nx) :=
  psMono (ps_asg (pe_tup ha) hg hs hw h1) fun W σ H t => by
    obtain ⟨c, h, s, m, hx, e, ex, sr, st, t, nx, rt, bk, ctn⟩ := t
    refine ⟨c, h, s, _, e, ex, sr, st, t, fun xs h1 p c1 vs ex1 sr1 drs => ⟨by rw [drs.length, ← sz_line, p.1]; exact hn, fun q hq => ?_⟩⟩
    have ex2 : Ex X.K c1 (c1.put q (.tup vs)) := Ex.new hq
    exact ⟨c1.put q (.tup vs), h1, s, .tup xs, m.nx, rfl, ex.trans (ex1.trans ex2), sr1.new hq, st.mono (ex1.trans ex2), ⟨q, vs, rfl, .inl (.inl upd_same), DRs.mono ex2 _ _ drs⟩, p,
      fun s' h' p3 c3 σ3 ex3 sr3 st3 => nx s' h' p3 c3 σ3 (ex.trans ((ex1.trans ex2).trans ex3)) sr3 st3⟩
theorem s_par2 {i j : Nat} {x y : Str} {ta : FA} {px py pt pt2 : Pos} {kt k2} (hc : X.calm = true) (hN : X.N.Nodup) (hi : X.N[i]? = some x) (hj : X.N[j]? = some y) (hij : i ≠ j) (hx : X.env.scope.names.lookup x = some .local) (hy : X.env.scope.names.lookup y = some .local) (ha : PA X [a, b] (LA X.K ct b0 ta))
    (hw : swappedStores [.Tuple [.Name x px, .Name y py] kt pt] (.Tuple [a, b] k2 pt2) X.env = pure (some [x, y])) (hs : swapsWithSole [.Tuple [.Name x px, .Name y py] kt pt] (.Tuple [a, b] k2 pt2) pos.line X.env = pure false) :
    PS X (.Assign [.Tuple [.Name x px, .Name y py] kt pt] (.Tuple [a, b] k2 pt2) pos) (LS0 X.K ct b0 fun m s h => ta s h fun xs h1 => match xs with
      | [u, v] => m.nx ((s.set i (some u)).set j (some v)) h1
      | _ => False) :=
  psMono (ps_par hc hN hi hj hij hx hy ha hw hs) fun W σ H t => by
    obtain ⟨c, h, s, m, hx, e, ex, sr, st, t, nx, rt, bk, ctn⟩ := t
    refine ⟨c, h, s, _, e, ex, sr, st, t, fun xs h1 p c1 vs ex1 sr1 drs => ?_⟩
    split at p
    · obtain ⟨v, r, rfl, r1, w, r', rfl, r2, rfl⟩ := drs
      exact ⟨v, w, rfl, nx _ _ p c1 _ (ex.trans ex1) sr1 (((st.mono ex1).set r1 i).set r2 j)⟩
    · exact p.elim
theorem s_par3 {i j l : Nat} {x y z : Str} {ta : FA} {px py pz pt pt2 : Pos} {kt k2} (hc : X.calm = true) (hN : X.N.Nodup) (hi : X.N[i]? = some x) (hj : X.N[j]? = some y) (hl : X.N[l]? = some z) (hij : i ≠ j) (hil : i ≠ l) (hjl : j ≠ l)
    (hx : X.env.scope.names.lookup x = some .local) (hy : X.env.scope.names.lookup y = some .local) (hz : X.env.scope.names.lookup z = some .local) (ha : PA X [a, b, c] (LA X.K ct b0 ta))
    (hw : swappedStores [.Tuple [.Name x px, .Name y py, .Name z pz] kt pt] (.Tuple [a, b, c] k2 pt2) X.env = pure (some [x, y, z])) (hs : swapsWithSole [.Tuple [.Name x px, .Name y py, .Name z pz] kt pt] (.Tuple [a, b, c] k2 pt2) pos.line X.env = pure false) :
    PS X (.Assign [.Tuple [.Name x px, .Name y py, .Name z pz] kt pt] (.Tuple [a, b, c] k2 pt2) pos) (LS0 X.K ct b0 fun m s h => ta s h fun xs h1 => match xs with
      | [u, v, w] => m.nx (((s.set i (some u)).set j (some v)).set l (some w)) h1
      | _ => False) :=
  psMono (ps_par3 hc hN hi hj hl hij hil hjl hx hy hz ha hw hs) fun W σ H t => by
    obtain ⟨c, h, s, m, hx, e, ex, sr, st, t, nx, rt, bk, ctn⟩ := t
    refine ⟨c, h, s, _, e, ex, sr, st, t, fun xs h1 p c1 vs ex1 sr1 drs => ?_⟩
    split at p
    · obtain ⟨u, _, rfl, r1, v, _, rfl, r2, w, _, rfl, r3, rfl⟩ := drs
      exact ⟨u, v, w, rfl, nx _ _ p c1 _ (ex.trans ex1) sr1 ((((st.mono ex1).set r1 i).set r2 j).set r3 l)⟩
    · exact p.elim
theorem s_exp {ta : FT} (he : PE X e (LT X.K ct b0 ta)) (hs : swapsWith e none pos.line X.env = pure false) : PS X (.Expr e pos) (LS0 X.K ct b0 fun n s h => ta s h fun _ h1 => n.nx s h1) :=
  psMono (ps_expr he hs) fun W σ H t => by
    obtain ⟨c, h, s, n, hx, e, ex, sr, st, t, nx, rt, bk, ctn⟩ := t
    exact ⟨c, h, s, _, e, ex, sr, st, t, fun tv h1 p c1 w ex1 sr1 tr1 tf1 => nx s h1 p c1 σ (ex.trans ex1) sr1 (st.mono ex1)⟩
theorem s_ret {ta : FT} (he : PE X e (LT X.K ct b0 ta)) : PS X (.Return (some e) pos) (LS0 X.K ct b0 fun n s h => ta s h (lay n.rt)) :=
  psMono (ps_ret he) fun W σ H t => by
    obtain ⟨c, h, s, n, hx, e, ex, sr, st, t, nx, rt, bk, ctn⟩ := t
    refine ⟨c, h, s, _, e, ex, sr, st, t, fun tv h1 p c1 w ex1 sr1 tr1 tf1 => ?_⟩
    obtain ⟨c2, h2, d, ex2, sr2, dr, p2, e2⟩ := LT.laid ex1 sr1 tr1 tf1 p
    rw [← e2]
    exact rt d h2 p2 c2 w (ex.trans ex2) sr2 dr
theorem s_retN : PS X (.Return none pos) (LS0 X.K ct b0 fun n _ h => n.rt .non h) :=
  psMono ps_retN fun W σ H t => by
    obtain ⟨c, h, s, n, hx, rfl, ex, sr, st, t, nx, rt, bk, ctn⟩ := t
    exact rt _ h t c _ ex sr rfl
theorem s_pas : PS X (.Pass pos) (LS0 X.K ct b0 fun n s h => n.nx s h) :=
  psMono ps_pass fun W σ H t => by
    obtain ⟨c, h, s, n, hx, rfl, ex, sr, st, t, nx, rt, bk, ctn⟩ := t
    exact nx s h t c σ ex sr st
theorem s_brk : PS X (.Break pos) (LS0 X.K ct b0 fun n s h => n.bk s h) :=
  psMono ps_break fun W σ H t => by
    obtain ⟨c, h, s, n, hx, rfl, ex, sr, st, t, nx, rt, bk, ctn⟩ := t
    exact bk s h t c σ ex sr st
theorem s_cnt : PS X (.Continue pos) (LS0 X.K ct b0 fun n s h => n.ct s h) :=
  psMono ps_continue fun W σ H t => by
    obtain ⟨c, h, s, n, hx, rfl, ex, sr, st, t, nx, rt, bk, ctn⟩ := t
    exact ctn s h t c σ ex sr st
theorem s_doc {x j p} : PS X (.Expr (.Constant (.str x) j p) pos) (LS0 X.K ct b0 fun n s h => n.nx s h) :=
  psMono ps_doc fun W σ H t => by
    obtain ⟨c, h, s, n, hx, rfl, ex, sr, st, t, nx, rt, bk, ctn⟩ := t
    exact nx s h t c σ ex sr st
theorem s_no {t : FS} (h : ∀ n s h, n.xr = noX → ¬ t n s h) : PS X st (LS0 X.K ct b0 t) :=
  psMono ps_never fun W σ H z => by
    obtain ⟨c, hh, s, n, hx, rfl, ex, sr, st, t, _⟩ := z
    exact h n s hh hx t
/-! ### blocks -/
theorem ss_nil : PSs X [] (LS0 X.K ct b0 fun n s h => n.nx s h) :=
  pssMono pss_nil fun W σ H t => by
    obtain ⟨c, h, s, n, hx, rfl, ex, sr, st, t, nx, rt, bk, ctn⟩ := t
    exact nx s h t c σ ex sr st
theorem ss_cons {t u : FS} (h1 : PS X st (LS0 X.K ct b0 t)) (h2 : PSs X sts (LS0 X.K ct b0 u)) : PSs X (st :: sts) (LS0 X.K ct b0 fun n s h => t { n with nx := fun s1 h1 => u n s1 h1 } s h) :=
  pssMono (pss_cons h1 h2) fun W σ H t => by
    obtain ⟨c, h, s, n, hx, e, ex, sr, st, t, nx, rt, bk, ctn⟩ := t
    exact ⟨c, h, s, { n with nx := fun s1 h1 => u n s1 h1 }, hx, e, ex, sr, st, t, fun s' h' p c' σ' ex' sr' st' => ⟨c', h', s', n, hx, rfl, ex', sr', st', p, nx, rt, bk, ctn⟩, rt, bk, ctn⟩
theorem s_if {ta : FT} {t u : FS} {p q : List Stmt} (hc : PT X c (LB X.K ct b0 ta)) (ha : PSs X p (LS0 X.K ct b0 t)) (hb : PSs X q (LS0 X.K ct b0 u)) : PS X (.If c p q pos) (LS0 X.K ct b0 fun n s h => ta s h (tst fun k h1 => if k = true then t n s h1 else u n s h1)) :=
  psMono (ps_if hc ha hb) fun W σ H t => by
    obtain ⟨c, h, s, n, hx, e, ex, sr, st, t, nx, rt, bk, ctn⟩ := t
    refine ⟨c, h, s, _, e, ex, sr, st, t, fun k h1 p c1 ex1 sr1 => ?_⟩
    cases k with
    | true =>
      show (if true = true then _ else _)
      rw [if_pos rfl] at p ⊢
      exact ⟨c1, h1, s, n, hx, rfl, ex.trans ex1, sr1, st.mono ex1, p, nx, rt, bk, ctn⟩
    | false =>
      show (if false = true then _ else _)
      rw [if_neg Bool.false_ne_true] at p ⊢
      exact ⟨c1, h1, s, n, hx, rfl, ex.trans ex1, sr1, st.mono ex1, p, nx, rt, bk, ctn⟩
theorem ss_any {u : FS} (hb : ∀ b0, PSs X sts (LS0 X.K ct b0 u)) : PSs X sts (fun W σ H => ∃ b0, LS0 X.K ct b0 u W σ H) := ⟨fun pins s σ H W I x => x.elim fun b0 x => (hb b0).run pins s σ H W I x⟩
theorem s_for {iter : Expr} {body : List Stmt} {wi : FI} {g : FG} {u : FS} (hp : PassesOwn (model X.prog X.w) X.A X.env X.xe) (hc : X.calm = true) (hi : PI X tg iter (LI X.K ct b0 wi)) (hg : PG X tg (LG X.K ct b0 g)) (hb : ∀ b0, PSs X body (LS0 X.K ct b0 u))
    (hs : ∀ x, foldedSetIterable iter X.env x = pure x) : PS X (.For tg iter body [] pos) (LS0 X.K ct b0 fun n s h => wi s h fun xs st h1 => forGo st (fun x N s h => g x s h fun s2 h2 => u { n with nx := N, ct := N, bk := n.nx } s2 h2) n.nx xs s h1) :=
  psMono (ps_for hp hc hi hg (ss_any hb) hs) fun W σ H t => by
    obtain ⟨c, h, s, n, hx, e, ex, sr, st, t, nx, rt, bk, ctn⟩ := t
    refine ⟨c, h, s, _, e, ex, sr, st, t, fun xs stt h1 p c1 J ex1 sr1 hst src => ?_⟩
    let G : Nat → L2.St → L2.Hp → Prop := fun i σ' H' => ∃ (c2 : Bs) (h2 : SL.Hp) (s2 : Sto), c2.H = H' ∧ Ex X.K c1 c2 ∧ SRel X.K ct c2 h2 ∧ StoR X.K c2 s2 σ' ∧
      forGo stt (fun x N s h => g x s h fun s2 h2 => u { n with nx := N, ct := N, bk := n.nx } s2 h2) n.nx (xs.drop i) s2 h2
    have exb : Ex X.K b0 c1 := ex.trans ex1
    refine ⟨fun i m σ' H' => m = xs.length - i ∧ i ≤ xs.length ∧ G i σ' H', ⟨xs.length, rfl, Nat.zero_le _, c1, h1, s, rfl, Ex.refl c1, sr1, st.mono ex1, p⟩, ?_⟩
    rintro i m σ' H' ⟨rfl, hi, c2, h2, s2, rfl, ex2, sr2, st2, go⟩
    by_cases hlt : i < xs.length
    · rw [List.drop_eq_getElem_cons hlt] at go
      obtain ⟨g1, g2⟩ := go
      refine .inr ⟨src.goes i c2 h2 ex2 sr2 g1 hlt, G (i + 1), fun σ' H' z => ⟨xs.length - (i + 1), by omega, rfl, hlt, z⟩, fun v H' y => ?_⟩
      obtain ⟨c3, rfl, ex3, sr3, r3⟩ := src.ylds i xs[i] c2 h2 v H' ex2 sr2 g1 (List.getElem?_eq_getElem hlt) y
      refine ⟨c3, h2, s2, xs[i], _, rfl, exb.trans (ex2.trans ex3), sr3, st2.mono ex3, r3, g2, fun s4 h4 p4 c4 σ4 ex4 sr4 st4 => ⟨c1, c4, h4, s4, { n with nx := forGo stt (fun x N s h => g x s h fun s2 h2 => u { n with nx := N, ct := N, bk := n.nx } s2 h2) n.nx (xs.drop (i + 1)), ct := forGo stt (fun x N s h => g x s h fun s2 h2 => u { n with nx := N, ct := N, bk := n.nx } s2 h2) n.nx (xs.drop (i + 1)), bk := n.nx }, hx, rfl, ex2.trans (ex3.trans ex4), sr4, st4, p4, ?_, ?_, ?_, ?_⟩⟩
      · exact fun s' h' p' c' σ' ex' sr' st' => ⟨c', h', s', rfl, ex', sr', st', p'⟩
      · exact fun x h' p' c' v ex' sr' r' => rt x h' p' c' v (exb.trans ex') sr' r'
      · exact fun s' h' p' c' σ' ex' sr' st' => nx s' h' p' c' σ' (exb.trans ex') sr' st'
      · exact fun s' h' p' c' σ' ex' sr' st' => ⟨c', h', s', rfl, ex', sr', st', p'⟩
    · have e0 : i = xs.length := by omega
      subst e0
      rw [List.drop_length] at go
      exact .inl ⟨src.stops c2 h2 ex2 sr2 go.1, nx _ _ go.2 c2 σ' (exb.trans ex2) sr2 st2⟩
theorem s_whl {body : List Stmt} {ta : FT} {u : FS} (hp : PassesOwn (model X.prog X.w) X.A X.env X.xe) (hc : PT X c (LB X.K ct b0 ta)) (hb : PSs X body (LS0 X.K ct b0 u)) : PS X (.While c body [] pos)
    (LS0 X.K ct b0 fun n s h => whlGo (fun s h q => ta s h (tst q)) (fun N s h => u { n with nx := N, ct := N, bk := n.nx } s h) n.nx s h) :=
  psMono (ps_while hp hc hb) fun W σ H t => by
    obtain ⟨c, h, s, n, hx, e, ex, sr, st, t, nx, rt, bk, ctn⟩ := t
    obtain ⟨Wd, ⟨m0, w0⟩, step⟩ := t
    refine ⟨fun m σ' H' => ∃ (c2 : Bs) (h2 : SL.Hp) (s2 : Sto), c2.H = H' ∧ Ex X.K b0 c2 ∧ SRel X.K ct c2 h2 ∧ StoR X.K c2 s2 σ' ∧ Wd m s2 h2, ⟨m0, c, h, s, e, ex, sr, st, w0⟩, ?_⟩
    rintro m σ' H' ⟨c2, h2, s2, rfl, ex2, sr2, st2, w⟩
    refine ⟨c2, h2, s2, _, rfl, ex2, sr2, st2, step m s2 h2 w, fun k h3 p3 c3 ex3 sr3 => ?_⟩
    cases k with
    | true =>
      show (if true = true then _ else _)
      rw [if_pos rfl] at p3 ⊢
      obtain ⟨N, hN, go⟩ := p3
      refine ⟨fun σ4 H4 => ∃ (c4 : Bs) (h4 : SL.Hp) (s4 : Sto), c4.H = H4 ∧ Ex X.K b0 c4 ∧ SRel X.K ct c4 h4 ∧ StoR X.K c4 s4 σ4 ∧ N s4 h4, ?_, c3, h3, s2, { n with nx := N, ct := N, bk := n.nx }, hx, rfl, ex2.trans ex3, sr3, st2.mono ex3, go, ?_, rt, nx, ?_⟩
      · rintro σ4 H4 ⟨c4, h4, s4, rfl, ex4, sr4, st4, z⟩
        obtain ⟨m2, l, w2⟩ := hN s4 h4 z
        exact ⟨m2, l, c4, h4, s4, rfl, ex4, sr4, st4, w2⟩
      · exact fun s' h' p' c' σ' ex' sr' st' => ⟨c', h', s', rfl, ex', sr', st', p'⟩
      · exact fun s' h' p' c' σ' ex' sr' st' => ⟨c', h', s', rfl, ex', sr', st', p'⟩
    | false =>
      show (if false = true then _ else _)
      rw [if_neg Bool.false_ne_true] at p3 ⊢
      exact nx s2 h3 p3 c3 σ' (ex2.trans ex3) sr3 (st2.mono ex3)
end
end SL

set_option linter.all false
set_option autoImplicit false
set_option maxRecDepth 100000
set_option Elab.async false
/-! SLFn: defs and their calls, where no guard is held. -/
namespace SL
open PySem PySem.Spec PyProof.Rows L2
abbrev E0 : XK := fun _ _ _ => False
abbrev Sq := List V → L2.Hp → VK → Prop
/-- a def's promise, wherever no repr runs -/
structure FnG (P : Program) (w : World) (K : PySem.W.Frag) (mg : Str → Option Value) (base : Heap) (k : Nat) (f : Addr) (fd : FuncData) (ps : List Str) (sp : Sq) : Prop where
  len : ∀ vs H Q, sp vs H Q → vs.length = ps.length
  run : ∀ (A : Around) (outer : List Env) (s : Shared) (H : L2.Hp) (args : Args) (us : List Value) (vs : List V) (Q : VK), A.guards = some [] → Room k A → Env0 P w K mg base A outer s H → BindsTo s fd args (ps.zip us) → Vals vs us → sp vs H Q →
    codeAny (model P w) A (.call (.ref f) args) (CR CX0 outer P w H s Q E0) s
section
variable {P : Program} {w : World} {K : PySem.W.Frag} {mg : Str → Option Value} {base : Heap} {x qual : Str} {params : Arguments} {body : List Stmt} {scope : Scope} {f : Addr} {fd : FuncData} {N ps : List Str} {k : Nat} {sp : Sq}
theorem FnG.of (F : FunD K x qual params body scope [] [] f fd) (S : FnScope N ps scope) (len : ∀ vs H Q, sp vs H Q → vs.length = ps.length)
    (hbody : ∀ (cdv : Value) (A : Around) (outer : List Env) (s : Shared) (H : L2.Hp) (vs : List V) (Q : VK), A.guards = some [] → Room k (A.deeper (envOfC qual scope s.heap.objs.size f cdv)) → sp vs H Q →
      ∃ t, PSs (cxOf CX0 P w K mg base N qual scope f cdv A outer s H E0) body t ∧ t { nx := fun _ H' => Q .non H', rt := Q } (start N vs) H) : FnG P w K mg base (k + 1) f fd ps sp := by
  obtain ⟨oc, od, dV, kV, doc, pm, an, cdv, ct, osl, rfl, lk, hcd, _, _⟩ := F.ex
  refine ⟨len, fun A outer s H args us vs Q hgd hr e0 hb r hsp => ?_⟩
  have lenv := len _ _ _ hsp
  have KX : K.In s.heap := e0.mod.kin.keeps fun b o z => (e0.bs b o z).1
  have lim : s.heap.NoLimit := e0.mod.nolimit.keeps fun b o z => (e0.bs b o z).1
  have kinds : ∀ y ∈ ps.zip us, scope.names.lookup y.1 = some .local ∨ (scope.names.lookup y.1 = some .cell ∧ ((cellsFrom (s.heap.objs.size + 1) scope.names []).lookup y.1).isSome = true) := fun ⟨n, v⟩ hy =>
    (S.par n (List.of_mem_zip hy).1).elim .inl fun q => .inr ⟨q, PySem.W.cellsFrom_some _ _ _ (.inl q)⟩
  refine codeAny_call_function hr.depth (KX _ _ lk) rfl S.co S.gen rfl (PySem.W.codeRec_of KX hcd) (hb _ _ _ _ (wpAny_newFunctionEnv_cells S.kind kinds fun env he s1 inc => ?_))
  subst he
  obtain ⟨t, ht, hq⟩ := hbody cdv A outer s H vs Q hgd (hr.deeper _) hsp
  have I : L2.Inv (cxOf CX0 P w K mg base N qual scope f cdv A outer s H E0) [] (start N vs) H s1 := inv_start S hr.hd e0 lenv r inc
  refine ⟨lim.keeps inc.toInCall.keep, codeAny_func (wpAny_mono (ht.run [] s1 (start N vs) H _ I hq) (fun fl s' hs => ?_) fun z s' hs => hs)⟩
  cases fl with
  | ret u =>
    obtain ⟨v, σ', H', J, rv, q⟩ := hs
    exact ⟨v, H', J.os, J.bare, J.base, J.hok, rv, q⟩
  | next =>
    obtain ⟨σ', H', J, q⟩ := hs
    exact ⟨.non, H', J.os, J.bare, J.base, J.hok, rfl, q⟩
  | brk =>
    obtain ⟨_, _, _, q⟩ := hs
    exact q.elim
  | cont =>
    obtain ⟨_, _, _, q⟩ := hs
    exact q.elim
end
/-- f(..) of a def -/
def tCallG (sp : Sq) (t : TA) : TE := fun σ H Q => t σ H fun vs H1 => sp vs H1 Q
section
variable {X : L2.Cx} {k : Nat} {f : Addr} {fd : FuncData} {ps : List Str} {sp : Sq} {x : Str} {p pos : Pos} {e : Expr} {es : List Expr} {t : TA}
theorem run_G {pins : List (Addr × Obj)} {σ : L2.St} {H : L2.Hp} {s : Shared} {Q : VK} {us : List Value} {vs : List V} (F : FnG X.prog X.w X.K X.mg X.base k f fd ps sp) (hgd : X.A.guards = some []) (hr : Room k X.A) (hb : Binds X.K fd ps [])
    (I : L2.Inv X pins σ H s) (r : Vals vs us) (h : sp vs H Q) : wpAny (model X.prog X.w) X.A (call (.ref f) us) (EP X pins σ Q) X.xe s := by
  have hl : (us ++ []).length = ps.length := by rw [List.append_nil, ← r.length]; exact F.len _ _ _ h
  have bb := hb s us I.kIn hl
  rw [List.append_nil] at bb
  refine wpAny_call (codeAny_mono (F.run X.A X.stack s H ⟨us, []⟩ us vs Q hgd hr I.env0 bb r h) fun z s' hq => ?_)
  cases z with
  | error e => exact False.elim hq
  | ok fl =>
    cases fl with
    | ret u => exact I.after hq
    | _ => exact False.elim hq
theorem pe_callG (F : FnG X.prog X.w X.K X.mg X.base k f fd ps sp) (hgd : X.A.guards = some []) (hr : Room k X.A) (hg : Gl X x) (hm : X.mg x = some (.ref f)) (hk : PySem.W.keepIn X.K (.ref f) = true) (hb : Binds X.K fd ps [])
    (ha : PA X (e :: es) t) (hdb : (x == ("__debug__" : Str)) = false) (he : starEach (e :: es) X.env = (false, eval e X.env) :: starEach es X.env) (hpl : (backTo pos (starEach es X.env)).any (·.1) = false) :
    PE X (.Call (.Name x p) (e :: es) [] pos) (tCallG sp t) :=
  ⟨fun pins s σ H Q I h => wpAny_Call_Name_kw (ld_glob I hg hm (PySem.W.callWith_K (h₀ := X.base) I.ok.mod.kin hk (thn (ha.run pos pins s σ H _ I h) fun us s1 ⟨vs, H1, I1, r, q⟩ => ⟨I1.kIn, run_G F hgd hr hb I1 r q⟩) he hpl) hdb)⟩
theorem pe_callG0 (F : FnG X.prog X.w X.K X.mg X.base k f fd ps sp) (hgd : X.A.guards = some []) (hr : Room k X.A) (hg : Gl X x) (hm : X.mg x = some (.ref f)) (hk : PySem.W.keepIn X.K (.ref f) = true) (hb : Binds X.K fd ps [])
    (hdb : (x == ("__debug__" : Str)) = false) : PE X (.Call (.Name x p) [] [] pos) (tCallG sp tNil) :=
  ⟨fun pins s σ H Q I h => wpAny_Call_Name_kw (ld_glob I hg hm (PySem.W.callWith_K0 I.kIn hk (run_G (us := []) F hgd hr hb I .nil h)) hdb)⟩
end
/-! ### what a def promises on trees -/
def spF (K : PySem.W.Frag) (ct : Ct) (fn : String → List D → SL.Hp → (D → SL.Hp → Prop) → XR → Prop) (f : String) (np : Nat) : Sq := fun vs H Q => ∃ (c : Bs) (h : SL.Hp) (args : List D) (P : D → SL.Hp → Prop), c.H = H ∧ SRel K ct c h ∧ DRs K c args vs ∧ args.length = np ∧ fn f args h P R0 ∧
  ∀ d h', P d h' → ∀ c' v, Ex K c c' → SRel K ct c' h' → DR K c' d v → Q v c'.H
def CallOk (X : L2.Cx) (ct : Ct) (Kf : Kx) (f : String) (np : Nat) : Prop := (∀ xs h Q R, Kf.fn f xs h Q R → xs.length = np) ∧ ∃ fa fd k ps, X.mg (Str.ofString f) = some (.ref fa) ∧ PySem.W.keepIn X.K (.ref fa) = true ∧ Binds X.K fd ps [] ∧ ps.length = np ∧ FnG X.prog X.w X.K X.mg X.base k fa fd ps (spF X.K ct Kf.fn f np) ∧ Room k X.A ∧ X.A.guards = some []
section
variable {X : L2.Cx} {ct : Ct} {b0 : Bs} {Kf : Kx} {f : String} {np : Nat} {x : Str} {p pos : Pos} {e : Expr} {es : List Expr}
theorem call_core {ta : FA} {σ : L2.St} {H : L2.Hp} {Q : VK} (hl : ∀ xs h Q R, Kf.fn f xs h Q R → xs.length = np) (x : LT X.K ct b0 (fun s h Q => ta s h fun xs h1 => Kf.fn f xs h1 (fun v h2 => Q (.d v) h2) R0) σ H Q) : tCallG (spF X.K ct Kf.fn f np) (LA X.K ct b0 ta) σ H Q :=
  LA.bind (k := fun xs s h1 Q => Kf.fn f xs h1 (fun v h2 => Q (.d v) h2) R0) x fun c0 c h s xs P vs ex0 ex sr st drs k post => ⟨c, h, xs, fun v h2 => P (.d v) h2, rfl, sr, drs, hl _ _ _ _ k, k, fun d h' p c' v ex' sr' r' => post (.d d) h' p c' v ex' sr' r' trivial⟩
theorem e_call {ta : FA} (C : CallOk X ct Kf f np) (hx : x = Str.ofString f) (hg : Gl X x) (ha : PA X (e :: es) (LA X.K ct b0 ta)) (hdb : (x == ("__debug__" : Str)) = false) (he : starEach (e :: es) X.env = (false, eval e X.env) :: starEach es X.env) (hpl : (backTo pos (starEach es X.env)).any (·.1) = false) :
    PE X (.Call (.Name x p) (e :: es) [] pos) (LT X.K ct b0 fun s h Q => ta s h fun xs h1 => Kf.fn f xs h1 (fun v h2 => Q (.d v) h2) R0) := by
  obtain ⟨hln, fa, fd, k, ps, h1, h2, h3, h4, F, hr, hgd⟩ := C
  subst hx
  exact peMono (pe_callG F hgd hr hg h1 h2 h3 ha hdb he hpl) fun σ H Q x => call_core hln x
end
/-! ### what was made and is no longer needed -/
section
variable {K : PySem.W.Frag} {ct : Ct}
abbrev Bs.cut (c : Bs) (m : Nat) : Bs := { c with n := m }
mutual
theorem DR.clo {c : Bs} : ∀ (d : D) (v : V), DR K c d v → SL.clo c.n d = true
  | .non, _, _ => rfl
  | .bl _, _, _ => rfl
  | .int _, _, _ => rfl
  | .str _, _, _ => rfl
  | .tup xs, v, h => by
    obtain ⟨a, vs, e, t, r⟩ := h
    exact DRs.clo xs vs r
  | .ref l, v, h => decide_eq_true h.1
theorem DRs.clo {c : Bs} : ∀ (xs : List D) (vs : List V), DRs K c xs vs → SL.clo.cloL c.n xs = true
  | [], _, _ => rfl
  | y :: ys, vs, h => by
    obtain ⟨v, r, e, h1, h2⟩ := h
    show (SL.clo c.n y && SL.clo.cloL c.n ys) = true
    rw [DR.clo y v h1, DRs.clo ys r h2]
    rfl
end
mutual
theorem DR.cut {c : Bs} {m : Nat} : ∀ (d : D) (v : V), DR K c d v → SL.clo m d = true → DR K (c.cut m) d v
  | .non, _, h, _ => h
  | .bl _, _, h, _ => h
  | .int _, _, h, _ => h
  | .str _, _, h, _ => h
  | .tup xs, v, h, k => by
    obtain ⟨a, vs, e, t, r⟩ := h
    exact ⟨a, vs, e, t, DRs.cutL xs vs r k⟩
  | .ref l, v, h, k => ⟨of_decide_eq_true k, h.2⟩
theorem DRs.cutL {c : Bs} {m : Nat} : ∀ (xs : List D) (vs : List V), DRs K c xs vs → SL.clo.cloL m xs = true → DRs K (c.cut m) xs vs
  | [], _, h, _ => h
  | y :: ys, vs, h, k => by
    obtain ⟨v, r, e, h1, h2⟩ := h
    have k' : (SL.clo m y && SL.clo.cloL m ys) = true := k
    rw [Bool.and_eq_true] at k'
    exact ⟨v, r, e, DR.cut y v h1 k'.1, DRs.cutL ys r h2 k'.2⟩
end
theorem cloL_all {m : Nat} : ∀ xs : List D, SL.clo.cloL m xs = xs.all (SL.clo m)
  | [] => rfl
  | x :: xs => by
    show (SL.clo m x && SL.clo.cloL m xs) = _
    rw [cloL_all xs]
    rfl
theorem cloO_of {c : Bs} {a : Addr} {o : O} (h : OR K ct c a o) (hi : ∀ cn fs, o ≠ .ins cn fs) : cloO c.n o = true := by
  cases o with
  | lst xs =>
    obtain ⟨vs, q, r⟩ := h
    show xs.all (SL.clo c.n) = true
    rw [← cloL_all]
    exact DRs.clo xs vs r
  | fz xs =>
    obtain ⟨vs, q, r⟩ := h
    show xs.all (SL.clo c.n) = true
    rw [← cloL_all]
    exact DRs.clo xs vs r
  | dic kvs =>
    have hh : SL.clo.cloL c.n (kvs.map (·.1)) = true ∧ SL.clo.cloL c.n (kvs.map (·.2)) = true := by
      rcases h with ⟨ks, q, r1, r2⟩ | ⟨fz, ks, q, r1, r2, r3⟩ <;> exact ⟨DRs.clo _ _ r1, DRs.clo _ _ r2⟩
    obtain ⟨h1, h2⟩ := hh
    rw [cloL_all, List.all_map] at h1 h2
    show (kvs.all fun p => SL.clo c.n p.1 && SL.clo c.n p.2) = true
    rw [List.all_eq_true] at h1 h2 ⊢
    intro p hp
    rw [show SL.clo c.n p.1 = true from h1 p hp, show SL.clo c.n p.2 = true from h2 p hp]
    rfl
  | lck o kvs =>
    have hh : SL.clo.cloL c.n (kvs.map (·.1)) = true ∧ SL.clo.cloL c.n (kvs.map (·.2)) = true := by
      obtain ⟨ks, q, r1, r2, r3⟩ := h
      exact ⟨DRs.clo _ _ r1, DRs.clo _ _ r2⟩
    obtain ⟨h1, h2⟩ := hh
    rw [cloL_all, List.all_map] at h1 h2
    show (kvs.all fun p => SL.clo c.n p.1 && SL.clo c.n p.2) = true
    rw [List.all_eq_true] at h1 h2 ⊢
    intro p hp
    rw [show SL.clo c.n p.1 = true from h1 p hp, show SL.clo c.n p.2 = true from h2 p hp]
    rfl
  | ins cn fs => exact absurd rfl (hi cn fs)
  | exc _ _ => exact h.elim
theorem OR.cut {c c1 : Bs} {m : Nat} {a a1 : Addr} {o : O} (h : OR K ct c a o) (k : cloO m o = true ∨ (OR K ct c1 a1 o ∧ c1.n = m)) : OR K ct (c.cut m) a o := by
  have main : (∀ cn fs, o ≠ .ins cn fs) → cloO m o = true := fun hi => k.elim id fun z => by rw [← z.2]; exact cloO_of z.1 hi
  cases o with
  | lst xs =>
    obtain ⟨vs, q, r⟩ := h
    exact ⟨vs, q, DRs.cutL _ _ r (by rw [cloL_all]; exact main fun _ _ z => by cases z)⟩
  | fz xs =>
    obtain ⟨vs, q, r⟩ := h
    exact ⟨vs, q, DRs.cutL _ _ r (by rw [cloL_all]; exact main fun _ _ z => by cases z)⟩
  | dic kvs =>
    have z : (kvs.all fun p => SL.clo m p.1 && SL.clo m p.2) = true := main fun _ _ z => by cases z
    rw [List.all_eq_true] at z
    have z1 : SL.clo.cloL m (kvs.map (·.1)) = true := by
      rw [cloL_all, List.all_map, List.all_eq_true]
      exact fun p hp => (Bool.and_eq_true_iff.mp (z p hp)).1
    have z2 : SL.clo.cloL m (kvs.map (·.2)) = true := by
      rw [cloL_all, List.all_map, List.all_eq_true]
      exact fun p hp => (Bool.and_eq_true_iff.mp (z p hp)).2
    rcases h with ⟨ks, q, r1, r2⟩ | ⟨fz, ks, q, r1, r2, r3⟩
    · exact .inl ⟨ks, q, DRs.cutL _ _ r1 z1, DRs.cutL _ _ r2 z2⟩
    · exact .inr ⟨fz, ks, q, DRs.cutL _ _ r1 z1, DRs.cutL _ _ r2 z2, r3⟩
  | lck o kvs =>
    have z : (kvs.all fun p => SL.clo m p.1 && SL.clo m p.2) = true := main fun _ _ z => by cases z
    rw [List.all_eq_true] at z
    have z1 : SL.clo.cloL m (kvs.map (·.1)) = true := by
      rw [cloL_all, List.all_map, List.all_eq_true]
      exact fun p hp => (Bool.and_eq_true_iff.mp (z p hp)).1
    have z2 : SL.clo.cloL m (kvs.map (·.2)) = true := by
      rw [cloL_all, List.all_map, List.all_eq_true]
      exact fun p hp => (Bool.and_eq_true_iff.mp (z p hp)).2
    obtain ⟨ks, q, r1, r2, r3⟩ := h
    exact ⟨ks, q, DRs.cutL _ _ r1 z1, DRs.cutL _ _ r2 z2, r3⟩
  | ins cn fs =>
    obtain ⟨dx, vs, q, l, r⟩ := h
    refine ⟨dx, vs, q, l, fun f => ?_⟩
    have rf := r f
    split at rf
    · rename_i d hd
      obtain ⟨v, e1, e2⟩ := rf
      refine ⟨v, e1, DR.cut _ _ e2 ?_⟩
      rcases k with k | ⟨⟨dx1, vs1, q1, l1, r1⟩, hn⟩
      · have k' : (fs.all fun p => SL.clo m p.2) = true := k
        rw [List.all_eq_true] at k'
        have mem : ∀ {fs : List (String × D)}, fs.lookup f = some d → ∃ g, (g, d) ∈ fs := fun {fs} => by
          induction fs with
          | nil => intro z; cases z
          | cons p fs ih =>
            obtain ⟨g, y⟩ := p
            intro z
            rw [List.lookup_cons] at z
            split at z
            · cases z
              exact ⟨g, List.mem_cons_self ..⟩
            · obtain ⟨g', hg'⟩ := ih z
              exact ⟨g', List.mem_cons_of_mem _ hg'⟩
        obtain ⟨g, hg⟩ := mem hd
        exact k' _ hg
      · have rf1 := r1 f
        rw [hd] at rf1
        obtain ⟨v1, _, e3⟩ := rf1
        rw [← hn]
        exact DR.clo _ _ e3
    · exact rf
  | exc _ _ => exact h.elim
theorem Ex.cut {c c' : Bs} (ex : Ex K c c') {m : Nat} (h1 : c.n ≤ m) (h2 : m ≤ c'.n) : Ex K c (c'.cut m) :=
  ⟨h1, ex.mu, ex.tup, fun a o h k => (ex.stay a o h k).elim fun z1 z2 => ⟨z1, fun i hi => z2 i (Nat.lt_of_lt_of_le hi h2)⟩, ex.old⟩
theorem SRel.cut {c c' : Bs} {h h1 : SL.Hp} {g : List O} (sr : SRel K ct c h) (sr' : SRel K ct c' (h1 ++ g)) (hk : kept h h1) : SRel K ct (c'.cut h.length) h1 where
  len := hk.1.symm
  inj := fun i j hi hj e => sr'.inj i j (by rw [sr'.len, List.length_append, hk.1]; exact Nat.lt_of_lt_of_le hi (Nat.le_add_right _ _)) (by rw [sr'.len, List.length_append, hk.1]; exact Nat.lt_of_lt_of_le hj (Nat.le_add_right _ _)) e
  obj := fun i o e => by
    have hi : i < h1.length := (List.getElem?_eq_some_iff.mp e).1
    have e' : (h1 ++ g)[i]? = some o := by rw [List.getElem?_append_left hi]; exact e
    refine OR.cut (c1 := c) (a1 := c.μ i) (sr'.obj i o e') ?_
    rcases hk.2 i o e with z | z
    · exact .inr ⟨sr.obj i o z, sr.len⟩
    · exact .inl z
/-- behind a call -/
theorem gcq_out {c c' : Bs} {h h2 : SL.Hp} {P : D → SL.Hp → Prop} {d : D} {v : V} {Q : VK} (sr : SRel K ct c h) (ex : Ex K c c') (sr' : SRel K ct c' h2) (r : DR K c' d v) (g : gcq h P d h2)
    (post : ∀ d h', P d h' → ∀ c' v, Ex K c c' → SRel K ct c' h' → DR K c' d v → Q v c'.H) : Q v c'.H := by
  rcases g with g | ⟨h1, g, rfl, hk, hc, p⟩ | ⟨h1, g, l, o, rfl, hk, rfl, hl, ho, hc, p⟩
  · exact post d h2 g c' v ex sr' r
  · have n1 : h.length ≤ c'.n := by rw [sr'.len, List.length_append, hk.1]; omega
    exact post d h1 p (c'.cut h.length) v (ex.cut (by rw [sr.len]; exact Nat.le_refl _) n1) (sr.cut sr' hk) (DR.cut _ _ r hc)
  · have n1 : h.length ≤ c'.n := by rw [sr'.len, List.length_append, hk.1]; omega
    obtain ⟨hl2, rfl⟩ := r
    have ap : ∀ i, i < (c'.cut h.length).n → (c'.cut h.length).μ i ≠ c'.μ l := fun i hi e => by
      have hi' : i < h.length := hi
      have := sr'.inj i l (by omega) hl2 e
      omega
    have ex1 : Ex K c (c'.cut h.length) := ex.cut (by rw [sr.len]; exact Nat.le_refl _) n1
    have o1 : OR K ct (c'.cut h.length) (c'.μ l) o := OR.cut (c1 := c') (a1 := c'.μ l) (sr'.obj l o ho) (.inl hc)
    have ex2 : Ex K c ((c'.cut h.length).lay (c'.μ l)) := ⟨Nat.le_succ_of_le ex1.le, fun i hi => by rw [lay_old (show i < h.length by rw [← sr.len]; exact hi)]; exact ex.mu i hi, ex.tup, fun a o z k => by
      obtain ⟨z1, z2⟩ := ex.stay a o z k
      refine ⟨z1, fun i hi => ?_⟩
      by_cases q : i < (c'.cut h.length).n
      · rw [lay_old q]
        exact z2 i (by have : i < h.length := q; omega)
      · have hi' : i < h.length + 1 := hi
        have q' : ¬ i < h.length := q
        have : i = (c'.cut h.length).n := by show i = h.length; omega
        rw [this, lay_last]
        exact z2 l hl2, ex.old⟩
    refine post (.ref h.length) (h1 ++ [o]) p ((c'.cut h.length).lay (c'.μ l)) (.ref (c'.μ l)) ex2 ((sr.cut sr' hk).lay ap (OR.lay o1)) ⟨Nat.lt_succ_self _, ?_⟩
    show V.ref (c'.μ l) = V.ref (((c'.cut h.length).lay (c'.μ l)).μ (c'.cut h.length).n)
    rw [lay_last]
end
end SL

set_option linter.all false
set_option autoImplicit false
set_option maxRecDepth 100000
set_option Elab.async false
/-! SLMt: methods of built-in types, list(..), tuple(..). -/
namespace SL
open PySem PySem.Spec PyProof.Rows L2
section
variable {X : L2.Cx} {ct : Ct} {b0 : Bs} {e a b c : Expr} {es : List Expr} {pos : Pos}
theorem tyV_list {K : PySem.W.Frag} {H : L2.Hp} {a : Addr} {xs : List V} (h : SqL K H a xs) : tyV K "list" (.ref a) H := .inl ⟨rfl, xs, h⟩
/-- a method of a list, by values -/
def MtC (X : L2.Cx) (ct : Ct) (m : Lm) (r : V → List V → L2.Hp → VK → Prop) : Prop := ∀ {c0 c : Bs} {h : SL.Hp} {tv : TV} {v : V} {ys : List D} {vs : List V} {P : TV → SL.Hp → Prop} {Q : VK}, Ex X.K c0 c → SRel X.K ct c h → TVR X.K c tv v → DRs X.K c ys vs → lm h m tv ys P →
  (∀ tv h', P tv h' → ∀ c' w, Ex X.K c c' → SRel X.K ct c' h' → TVR X.K c' tv w → TVF c0 tv w → Q w c'.H) → r v vs c.H Q
theorem lstOk_ty {c : Bs} {h : SL.Hp} {tv : TV} {v : V} (sr : SRel X.K ct c h) (tr : TVR X.K c tv v) (k : (lstOf h tv).isSome = true) : tyV X.K "list" v c.H := by
  obtain ⟨xs, hx⟩ := Option.isSome_iff_exists.mp k
  obtain ⟨a, vs, rfl, q, rs⟩ := lst_there sr tr hx
  exact tyV_list (SqL.of q)
theorem e_lm {m : Lm} {to : FT} {ta : FA} {T : String} {r : V → List V → L2.Hp → VK → Prop} (hp : ∀ {to : TE} {t : TA}, PE X a to → PA X es t → PE X e (tBM X.K T r to t)) (ho : PE X a (LT X.K ct b0 to)) (ha : PA X es (LA X.K ct b0 ta)) (core : MtC X ct m r)
    (ty : ∀ {c h tv v}, SRel X.K ct c h → TVR X.K c tv v → lmOk h m tv = true → tyV X.K T v c.H) : PE X e (LT X.K ct b0 fun s h Q => to s h fun x h1 => lmOk h1 m x = true ∧ ta s h1 fun ys h2 => lm h2 m x ys Q) :=
  peMono (hp ho ha) fun σ H Q x => LT.bind (k := fun x s h1 Q => lmOk h1 m x = true ∧ ta s h1 fun ys h2 => lm h2 m x ys Q) x fun c0 c h s tv P v ex0 ex sr st tr tf k post =>
    ⟨ty sr tr k.1, c, h, s, _, rfl, ex0, sr, st, k.2, fun ys h2 p c2 vs ex2 sr2 drs => core (ex.trans ex2) sr2 (tr.mono ex2) drs p fun tv2 h3 p3 c3 w ex3 => post tv2 h3 p3 c3 w (ex2.trans ex3)⟩
theorem m_append : MtC X ct .append rAppend := by
  intro c0 c h tv v ys vs P Q ex sr tr drs k post
  simp only [lm] at k
  unfold lmAppend at k
  split at k
  · rename_i l y
    split at k
    · rename_i xs hx
      obtain ⟨w, _, rfl, r1, rfl⟩ := drs
      obtain ⟨hl, rfl⟩ := tr
      obtain ⟨us, q, rs⟩ := sr.obj _ _ hx
      obtain ⟨ex2, sr2⟩ := write_list (xs := xs) sr hl q (DRs.append rs (ys := [y]) (ws := [w]) ⟨w, [], rfl, r1, rfl⟩)
      exact ⟨c.μ l, us, w, rfl, rfl, q, by rw [rs.length, ← sz_line]; exact k.1, post _ _ k.2 _ .non ex2 sr2 rfl trivial⟩
    · exact k.elim
  · exact k.elim
theorem e_append {to : FT} {ta : FA} {apos : Pos} {nm : Str} (hn : nm = "append") (ho : PE X a (LT X.K ct b0 to)) (ha : PA X [b] (LA X.K ct b0 ta)) (hb : attributeBase a nm X.env (eval a X.env) = eval a X.env) (hl : (apos.endLine == pos.line) = true) (hs : starEach [b] X.env = (false, eval b X.env) :: starEach [] X.env) :
    PE X (.Call (.Attribute a nm apos) [b] [] pos) (LT X.K ct b0 fun s h Q => to s h fun x h1 => lmOk h1 .append x = true ∧ ta s h1 fun ys h2 => lm h2 .append x ys Q) := by
  subst hn
  exact e_lm (fun ho ha => pe_bm PySem.F.plainAttrs_list PySem.F.slot_list_append PySem.F.type_list_append mt_append ho ha hb (by rw [hs]; rfl) hl hs rfl) ho ha m_append fun sr tr k => lstOk_ty sr tr k
/-! ### the place of a sign -/
def idxOk (z : Tx) : Bool := z.all fun c => match Builtin.Str.occurrences (tS z) (tS [c]) 0 (tS z).length 1 with
  | i :: _ => i == z.idxOf c
  | [] => false
theorem e_sindex {z : Tx} {ta : FT} {apos : Pos} {nm : Str} (hn : nm = "index") (hz : idxOk z = true) (ho : PE X a (tC (.str (tS z)))) (hb2 : PE X b (LT X.K ct b0 ta)) (hb : attributeBase a nm X.env (eval a X.env) = eval a X.env) (hl : (apos.endLine == pos.line) = true) (hs : starEach [b] X.env = (false, eval b X.env) :: starEach [] X.env) :
    PE X (.Call (.Attribute a nm apos) [b] [] pos) (LT X.K ct b0 fun s h Q => ta s h (lay fun y h1 => lm h1 .index (.d (.str z)) [y] Q)) := by
  subst hn
  refine peMono (pe_m1 PySem.F.slot_str_index PySem.F.type_str_index mt_sindex ho hb2 hs hb hl) fun σ H Q x => ⟨⟨_, rfl⟩, ?_⟩
  obtain ⟨c, h, s, P, e, ex, sr, st, t, post⟩ := x
  refine ⟨c, h, s, _, e, ex, sr, st, t, fun tv h1 p c1 w ex1 sr1 tr1 tf1 => ?_⟩
  obtain ⟨c2, h2, d, ex2, sr2, dr, p2, e2⟩ := LT.laid ex1 sr1 tr1 tf1 p
  simp only [lm] at p2
  unfold lmIndex at p2
  split at p2
  · rename_i z' ch e1 e3
    cases e1
    cases e3
    rw [show w = .str (tS [ch]) from dr]
    have z1 := List.all_eq_true.mp hz ch p2.1
    split at z1
    · rename_i i rest ho
      have hi : i = z.idxOf ch := beq_iff_eq.mp z1
      refine ⟨tS z, tS [ch], i, rest, rfl, rfl, ho, ?_⟩
      rw [← e2, hi]
      exact post _ h2 p2.2 c2 _ ex2 sr2 rfl trivial
    · cases z1
  · rename_i e1 e3
    cases e1
  · rename_i e1 e3
    cases e1
  · exact p2.elim
/-! ### list, tuple -/
def rListB (K : PySem.W.Frag) : List V → L2.Hp → VK → Prop := fun xs H Q => (∃ p ys, xs = [.ref p] ∧ (SqL K H p ys ∨ SqT K H p ys) ∧ ∀ l, H l = none → Q (.ref l) (upd H l (.lst ys))) ∨ rSigns xs H Q
theorem call_listB (hc : X.calm = true) : CallR X (.type "list") (rListB X.K) := SL.CallR.or call_list_of (call_signs hc)
theorem e_toL {ta : FT} {p : Pos} {x : Str} (hx : x = "list") (hc : X.calm = true) (hg : Gl X x) (hm : X.mg x = none) (ha : PE X a (LT X.K ct b0 ta)) (hs : starEach [a] X.env = (false, eval a X.env) :: starEach [] X.env) :
    PE X (.Call (.Name x p) [a] [] pos) (LT X.K ct b0 fun s h Q => ta s h fun x h1 => match walk h1 x with
      | some (xs, _) => xs.length ≤ sz ∧ Q (.l xs) h1
      | none => False) := by
  subst hx
  refine peMono (pe_callTy (call_listB hc) hg hm (by decide +kernel) (pa_cons ha pa_nil hs) (by decide) (by decide) hs rfl) fun σ H Q x => LT.bind x fun c0 c h s tv P v ex0 ex sr st tr tf k post => ?_
  have fin : ∀ (xs : List D) (vs : List V) (p : Addr), DRs X.K c xs vs → P (.l xs) h → ∀ l, c.H l = none → Q (.ref l) (upd c.H l (.lst vs)) := fun xs vs p r q l hl => done_list ex sr r hl q post
  split at k
  · rename_i xs stt hw
    unfold walk at hw
    split at hw
    · cases hw
      obtain ⟨p, vs, rfl, q, rs, _⟩ := tr
      exact .inl ⟨p, vs, rfl, .inl (SqL.of q), fin _ vs p rs k.2⟩
    · cases hw
      obtain ⟨p, vs, rfl, q, rs⟩ := tr
      exact .inl ⟨p, vs, rfl, .inr q, fin _ vs p rs k.2⟩
    · rename_i z
      cases hw
      rw [show v = .str (tS z) from tr]
      refine .inr ⟨z, rfl, by rw [← sz_line]; have := k.1; rw [List.length_map] at this; exact this, fun l hl => done_list ex sr ?_ hl k.2 post⟩
      have go : ∀ z : Tx, DRs X.K c (z.map fun c => D.str [c]) (z.map fun c => V.str (tS [c])) := fun z => by
        induction z with
        | nil => rfl
        | cons ch z ih => exact ⟨_, _, rfl, rfl, ih⟩
      exact go z
    · split at hw
      · rename_i hx
        cases hw
        obtain ⟨hl, rfl⟩ := tr
        obtain ⟨vs, q, rs⟩ := sr.obj _ _ hx
        exact .inl ⟨_, vs, rfl, .inl (SqL.of q), fin _ vs 0 rs k.2⟩
      · rename_i hx
        cases hw
        obtain ⟨hl, rfl⟩ := tr
        obtain ⟨vs, q, rs⟩ := sr.obj _ _ hx
        exact .inl ⟨_, vs, rfl, .inl (SqL.ofRd q), fin _ vs 0 rs k.2⟩
      · cases hw
    · cases hw
  · exact k.elim
theorem e_toT {ta : FT} {p : Pos} {x : Str} (hx : x = "tuple") (hg : Gl X x) (hm : X.mg x = none) (ha : PE X a (LT X.K ct b0 ta)) (hs : starEach [a] X.env = (false, eval a X.env) :: starEach [] X.env) :
    PE X (.Call (.Name x p) [a] [] pos) (LT X.K ct b0 fun s h Q => ta s h fun x h1 => match items h1 x with
      | some xs => xs.length ≤ sz ∧ Q (.d (.tup xs)) h1
      | none => False) := by
  subst hx
  refine peMono (pe_callTy call_tuple_of hg hm (by decide +kernel) (pa_cons ha pa_nil hs) (by decide) (by decide) hs rfl) fun σ H Q x => LT.bind x fun c0 c h s tv P v ex0 ex sr st tr tf k post => ?_
  split at k
  · rename_i xs hw
    have fin : ∀ (vs : List V), DRs X.K c xs vs → ∀ l, c.H l = none → Q (.ref l) (upd c.H l (.tup vs)) := fun vs r l hl => done_tup sr r hl k.2 post
    unfold items at hw
    split at hw
    · cases hw
      obtain ⟨p, vs, rfl, q, rs, _⟩ := tr
      exact ⟨p, vs, rfl, .inl ⟨SqL.of q, fin vs rs⟩⟩
    · cases hw
      obtain ⟨p, vs, rfl, q, rs⟩ := id tr
      exact ⟨p, vs, rfl, .inr ⟨q, post _ h k.2 c _ (Ex.refl c) sr tr trivial⟩⟩
    · split at hw
      · rename_i hx
        cases hw
        obtain ⟨hl, rfl⟩ := tr
        obtain ⟨vs, q, rs⟩ := sr.obj _ _ hx
        exact ⟨_, vs, rfl, .inl ⟨SqL.of q, fin vs rs⟩⟩
      · rename_i hx
        cases hw
        obtain ⟨hl, rfl⟩ := tr
        obtain ⟨vs, q, rs⟩ := sr.obj _ _ hx
        exact ⟨_, vs, rfl, .inl ⟨SqL.ofRd q, fin vs rs⟩⟩
      · cases hw
    · cases hw
  · exact k.elim
theorem drs_rg {c : Bs} (n : Int) : DRs X.K c ((List.range n.toNat).map fun (i : Nat) => D.int i) (rgV 0 n) := by
  unfold rgV
  rw [show (n - 0).toNat = n.toNat by omega]
  generalize List.range n.toNat = l
  induction l with
  | nil => rfl
  | cons a l ih => exact ⟨_, _, rfl, by show V.int _ = V.int _; rw [Int.zero_add], ih⟩
theorem rgok {n : Int} (h1 : n ≤ sz) (h2 : -(2 ^ 62) ≤ n) : RgOk 0 n := by
  have h3 : n ≤ 16777216 := h1
  exact ⟨by omega, by omega, h2, by omega, by omega⟩
theorem e_toLr {ta : FT} {p p2 pos2 : Pos} {x y : Str} (hx : x = "list") (hy : y = "range") (hc : X.calm = true) (hg : Gl X x) (hm : X.mg x = none) (hg2 : Gl X y) (hm2 : X.mg y = none) (ha : PE X a (LT X.K ct b0 ta)) (hs : starEach [a] X.env = (false, eval a X.env) :: starEach [] X.env) :
    PE X (.Call (.Name x p) [.Call (.Name y p2) [a] [] pos2] [] pos) (LT X.K ct b0 fun s h Q => ta s h fun x h1 => match x with
      | .d (.int n) => n ≤ sz ∧ -(2 ^ 62) ≤ n ∧ ((List.range n.toNat).map fun (i : Nat) => D.int i).length ≤ sz ∧ Q (.l ((List.range n.toNat).map fun (i : Nat) => D.int i)) h1
      | _ => False) := by
  subst hx hy
  refine peMono (pe_listRg hc hg hm (prg_1 hg2 hm2 ha hs) rfl) fun σ H Q x => (show LT X.K ct b0 ta σ H (fun x H1 => ∃ n, x = .int n ∧ RgOk 0 n ∧ ∀ q, H1 q = none → Q (.ref q) (upd H1 q (.lst (rgV 0 n)))) from LT.bind x fun c0 c h s tv P v ex0 ex sr st tr tf k post => ?_)
  split at k
  · rename_i n
    exact ⟨n, tr, rgok k.1 k.2.1, fun q hq => done_list ex sr (drs_rg n) hq k.2.2.2 post⟩
  · exact k.elim
theorem e_toTr {ta : FT} {p p2 pos2 : Pos} {x y : Str} (hx : x = "tuple") (hy : y = "range") (hc : X.calm = true) (hg : Gl X x) (hm : X.mg x = none) (hg2 : Gl X y) (hm2 : X.mg y = none) (ha : PE X a (LT X.K ct b0 ta)) (hs : starEach [a] X.env = (false, eval a X.env) :: starEach [] X.env) :
    PE X (.Call (.Name x p) [.Call (.Name y p2) [a] [] pos2] [] pos) (LT X.K ct b0 fun s h Q => ta s h fun x h1 => match x with
      | .d (.int n) => n ≤ sz ∧ -(2 ^ 62) ≤ n ∧ ((List.range n.toNat).map fun (i : Nat) => D.int i).length ≤ sz ∧ Q (.d (.tup ((List.range n.toNat).map fun (i : Nat) => D.int i))) h1
      | _ => False) := by
  subst hx hy
  refine peMono (pe_tupRg hc hg hm (prg_1 hg2 hm2 ha hs) rfl) fun σ H Q x => (show LT X.K ct b0 ta σ H (fun x H1 => ∃ n, x = .int n ∧ RgOk 0 n ∧ ∀ q, H1 q = none → Q (.ref q) (upd H1 q (.tup (rgV 0 n)))) from LT.bind x fun c0 c h s tv P v ex0 ex sr st tr tf k post => ?_)
  split at k
  · rename_i n
    exact ⟨n, tr, rgok k.1 k.2.1, fun q hq => done_tup sr (drs_rg n) hq k.2.2.2 post⟩
  · exact k.elim
/-! ### "".join -/
theorem strs_of {K : PySem.W.Frag} {c : Bs} : ∀ {xs : List D} {ss : List Tx} {vs : List V}, strsOf xs = some ss → DRs K c xs vs → vs = (ss.map tS).map V.str
  | [], ss, vs, e, r => by
    cases e
    exact r
  | x :: xs, ss, vs, e, r => by
    obtain ⟨v, w, rfl, r1, r2⟩ := r
    cases x with
    | str b =>
      obtain ⟨bs', e1, rfl⟩ := Option.map_eq_some_iff.mp (show (strsOf xs).map _ = some ss from e)
      rw [show v = .str (tS b) from r1, strs_of e1 r2]
      rfl
    | _ => cases e
theorem joinL_nil : ∀ ys : List Tx, TL.joinL [] ys = ys.flatten
  | [] => rfl
  | [p] => by simp [TL.joinL]
  | p :: q :: r => by
    show p ++ ([] ++ TL.joinL [] (q :: r)) = _
    rw [joinL_nil (q :: r), List.nil_append]
    simp
theorem e_join {ta : FT} {apos : Pos} {nm : Str} (hn : nm = "join") (ho : PE X a (tC (.str (tS [])))) (hb2 : PE X b (LT X.K ct b0 ta)) (hb : attributeBase a nm X.env (eval a X.env) = eval a X.env) (hl : (apos.endLine == pos.line) = true) (hs : starEach [b] X.env = (false, eval b X.env) :: starEach [] X.env) :
    PE X (.Call (.Attribute a nm apos) [b] [] pos) (LT X.K ct b0 fun s h Q => ta s h fun y h1 => lmT h1 .join (.d (.str [])) y Q) := by
  subst hn
  refine peMono (pe_m1 PySem.F.slot_str_join PySem.F.type_str_join mt_join ho hb2 hs hb hl) fun σ H Q x => ⟨⟨_, rfl⟩, ?_⟩
  refine (show LT X.K ct b0 ta σ H _ from LT.bind (k := fun y s h1 Q => lmT h1 .join (.d (.str [])) y Q) x fun c0 c h s tv P v ex0 ex sr st tr tf k post => ?_)
  simp only [lmT] at k
  split at k
  · rename_i ss hss
    obtain ⟨xs, h1, h2⟩ := Option.bind_eq_some_iff.mp hss
    obtain ⟨p, vs, rfl, q, rs⟩ := tvL_there sr tr h1
    rw [strs_of h2 rs] at q
    refine ⟨tS [], p, ss.map tS, rfl, rfl, .inl q, ?_, ?_⟩
    · have e1 : ((ss.map tS).map (·.length)).sum = ss.flatten.length := by
        rw [List.map_map, List.length_flatten]
        exact congrArg List.sum (List.map_congr_left fun x _ => tS_len x)
      rw [e1, show (tS []).length = 0 from rfl, Nat.mul_zero, Nat.add_zero]
      exact k.2.1
    · have e2 : Txt.join (tS []) (ss.map tS) = tS ss.flatten := by
        have := SX.join_S [] ss
        rw [joinL_nil] at this
        exact this
      rw [e2]
      exact post _ h k.2.2 c _ (Ex.refl c) sr rfl trivial
  · exact k.elim
end
end SL

set_option linter.all false
set_option autoImplicit false
set_option maxRecDepth 100000
set_option Elab.async false
/-! SLNew: dict displays, starred items, extend. -/
namespace SL
open PySem PySem.Spec PyProof.Rows L2 StX
section
variable {K : PySem.W.Frag} {ct : Ct}
/-- no tuple -/
structure NoT (w : HO) : Prop where
  t : ∀ ys, w ≠ .tup ys
  f : ∀ u ys, w ≠ .frz u (.tup ys)
theorem sqT_no {H : L2.Hp} {p a : Addr} {w o : HO} {xs : List V} (hp : H p = some w) (n : NoT w) (h : SqT K H a xs) : SqT K (upd H p o) a xs := sqT_upd (fun ys z => by
  rcases z with z | ⟨u, z⟩
  · rw [hp] at z; exact n.t ys (Option.some.inj z)
  · rw [hp] at z; exact n.f u ys (Option.some.inj z)) h
theorem SRel.ownG {c : Bs} {h : SL.Hp} {p : Addr} {w o : HO} (sr : SRel K ct c h) (hp : c.H p = some w) (n : NoT w) (ap : ∀ i, i < c.n → c.μ i ≠ p) : SRel K ct (c.put p o) h :=
  ⟨sr.len, sr.inj, fun i u e => OR.put (fun a xs z => sqT_no hp n z) (ap i (by rw [sr.len]; exact (List.getElem?_eq_some_iff.mp e).1)) (sr.obj i u e)⟩
theorem Ex.ownG {b c : Bs} {p : Addr} {w o : HO} (ex : Ex K b c) (hb : b.H p = none) (hp : c.H p = some w) (n : NoT w) (ap : ∀ i, i < c.n → c.μ i ≠ p) : Ex K b (c.put p o) where
  le := ex.le
  mu := ex.mu
  tup := fun a xs h => sqT_no hp n (ex.tup a xs h)
  stay := fun a u h k => by
    have hne : a ≠ p := fun e => by rw [e, hb] at h; cases h
    obtain ⟨h1, k1⟩ := ex.stay a u h k
    exact ⟨by rw [show (c.put p o).H a = c.H a from upd_ne hne]; exact h1, k1⟩
  old := fun a h => by
    by_cases e : a = p
    · rw [e]; exact hb
    · rw [show (c.put p o).H a = c.H a from upd_ne e] at h
      exact ex.old a h
/-- from the heap in which the new object stood for the time being, unmapped, to the one in which it is laid -/
theorem Ex.born {c c4 : Bs} {p : Addr} {w w' : HO} (hp : c.H p = none) (ap0 : ∀ i, i < c.n → c.μ i ≠ p) (ex : Ex K (c.put p w) c4) : c4.H p = some w ∧ (∀ i, i < c4.n → c4.μ i ≠ p) ∧ Ex K c c4 := by
  obtain ⟨z1, z2⟩ := ex.stay p w upd_same ap0
  exact ⟨z1, z2, (Ex.new hp).trans ex⟩
end
section
variable {X : L2.Cx} {ct : Ct} {b0 : Bs} {e a b : Expr} {es : List Expr} {pos : Pos}
/-! ### {} -/
theorem e_dic0 : PE X (.Dict [] [] pos) (LT X.K ct b0 fun s h Q => Q (.d (.ref h.length)) (h ++ [.dic []])) :=
  peMono (t := _) (u := tDNewK) ⟨fun pins s σ H Q I h => wpAny_Dict_empty ⟨.ref s.heap.objs.size, _, I.laid (a := s.heap.objs.size) (o := .dK []) (t' := s.toks) (fun _ _ q => Heap.get?_push_of_some _ q) (Nat.le_refl _) (dk_empty s.heap I.big), rfl, h _ (I.hok.fresh (Nat.le_refl _))⟩⟩
    fun σ H Q x => by
      obtain ⟨c, h, s, P, rfl, ex, sr, st, t, post⟩ := x
      intro p hp
      have e1 : Ex X.K c (c.put p (.dK [])) := Ex.new hp
      refine post (.d (.ref h.length)) _ t ((c.put p (.dK [])).lay p) (.ref p) (e1.lay hp) ((sr.new hp).lay (u := .dic []) (sr.apart hp) (.inl ⟨[], upd_same, rfl, rfl⟩)) ⟨?_, ?_⟩ trivial
      · show h.length < c.n + 1
        rw [sr.len]
        omega
      · rw [← sr.len]
        exact congrArg V.ref lay_last.symm
/-! ### {k: v} -/
abbrev FT1 := FT
def fDic1 (ok : D → Bool) (tk tv : FT) : FT := fun s h Q => tk s h (lay fun x h1 => tv s h1 (lay fun y h2 => ok x = true ∧ Q (.d (.ref h2.length)) (h2 ++ [.dic [(x, y)]])))
/-- two values are made while a new dict stands empty; then it is laid -/
theorem dic1_core {tk tv : FT} {ok : D → Bool} {σ : L2.St} {H : L2.Hp} {Q : VK} (x : LT X.K ct b0 (fDic1 ok tk tv) σ H Q) {R : Addr → V → V → HO → Prop} {rd : Addr → V → V → L2.Hp → Prop}
    (fin : ∀ (c : Bs) (p : Addr) (k d : D) (x y : V), ok k = true → DR X.K c k x → DR X.K c d y → c.H p = some (.dK []) → (∀ o, (∀ c' : Bs, (∀ d v, DR X.K c d v → DR X.K c' d v) → c'.H p = some o → ORd X.K ct c' p [(k, d)]) → Q (.ref p) (upd c.H p o)) → rd p x y c.H) :
    ∀ p, H p = none → LT X.K ct b0 tk σ (upd H p (.dK [])) fun x H1 => LT X.K ct b0 tv σ H1 fun y H2 => rd p x y H2 := by
  intro p hp
  obtain ⟨c, h, s, P, rfl, ex, sr, st, t, post⟩ := x
  have en : Ex X.K c (c.put p (.dK [])) := Ex.new hp
  have ap := sr.apart hp
  refine ⟨c.put p (.dK []), h, s, _, rfl, ex.trans en, sr.new hp, st.mono en, t, fun tv1 h1 p1 c1 v ex1 sr1 tr1 tf1 => ?_⟩
  obtain ⟨c2, h2, d, ex2, sr2, dr, p2, e2⟩ := LT.laid ex1 sr1 tr1 tf1 p1
  rw [← e2]
  refine ⟨c2, h2, s, _, rfl, ex.trans (en.trans ex2), sr2, st.mono (en.trans ex2), p2, fun tv3 h3 p3 c3 w ex3 sr3 tr3 tf3 => ?_⟩
  obtain ⟨c4, h4, d', ex4, sr4, dr', p4, e4⟩ := LT.laid ex3 sr3 tr3 tf3 p3
  rw [← e4]
  obtain ⟨z1, z2, z3⟩ := Ex.born (w' := .dK []) hp ap (ex2.trans ex4)
  have nt : NoT (HO.dK []) := ⟨fun _ z => (by cases z), fun _ _ z => (by cases z)⟩
  refine fin c4 p d d' v w p4.1 (DR.mono ex4 _ _ dr) dr' z1 fun o ho => ?_
  have s5 : SRel X.K ct (c4.put p o) h4 := sr4.ownG z1 nt z2
  have m5 : ∀ d v, DR X.K c4 d v → DR X.K (c4.put p o) d v := fun d v r => DR.put (fun a xs z => sqT_no z1 nt z) d v r
  have e5 : Ex X.K c (c4.put p o) := z3.ownG hp z1 nt z2
  refine post (.d (.ref h4.length)) _ p4.2 ((c4.put p o).lay p) (.ref p) (e5.lay hp) (s5.lay (u := .dic [(d, d')]) z2 (ho _ (fun d v r => (m5 d v r).lay) upd_same)) ⟨?_, ?_⟩ trivial
  · show h4.length < c4.n + 1
    rw [sr4.len]
    omega
  · rw [← sr4.len]
    exact congrArg V.ref lay_last.symm
theorem e_dicA {tk tv : FT} (ha : PE X a (LT X.K ct b0 tk)) (hb : PE X b (LT X.K ct b0 tv)) : PE X (.Dict [some a] [b] pos) (LT X.K ct b0 (fDic1 atomK tk tv)) :=
  peMono (pe_disp (pps_cons ha hb pps_nil) rfl rfl (by simp) (by simp)) fun σ H Q x =>
    dic1_core (rd := fun p x y H2 => H2 p = some (.dK []) ∧ ∃ kvs : List (L2.Key × V), [(x, y)] = kvs.map (fun kv => (kV kv.1, kv.2)) ∧ kvs.length ≤ 15 ∧ Q (.ref p) (upd H2 p (.dK (mergeK [] kvs)))) (R := fun _ _ _ _ => True) x fun c p k d x y hk dk dd hp q => by
      have ex := atom_kV hk dk
      subst ex
      refine ⟨hp, [(ak k, y)], rfl, by simp, ?_⟩
      show Q (.ref p) (upd c.H p (.dK [(ak k, y)]))
      exact q _ fun c' m e' => .inl ⟨[(ak k, y)], e', ⟨_, _, rfl, m _ _ dk, rfl⟩, ⟨_, _, rfl, m _ _ dd, rfl⟩⟩
/-- a dict of one pair, whose key is a tuple -/
def tDispN (X : L2.Cx) (tk tv : TE) : TE := fun σ H Q => ∀ p, H p = none → tk σ (upd H p (.dK [])) fun x H1 => tv σ H1 fun y H2 => H2 p = some (.dK []) ∧ ∃ (n : NestedKey) (b : Addr), x = .ref b ∧ (∀ pins σ s, L2.Inv X pins σ H2 s → (nKind X).is s.heap n b) ∧ Q (.ref p) (upd H2 p (dN X.prog X.w none p [(n, b, y)]))
theorem pe_dispN {tk tv : TE} (hu : X.A.units + 200 < cLine) (ha : PE X a tk) (hb : PE X b tv) : PE X (.Dict [some a] [b] pos) (tDispN X tk tv) := by
  refine ⟨fun pins s σ H Q I q => ?_⟩
  have hn := I.hok.fresh (Nat.le_refl s.heap.objs.size)
  have I1 := I.laid (a := s.heap.objs.size) (o := .dK []) (h' := s.heap.push { cls := .type "dict", data := .dict #[] }) (t' := s.toks) (fun _ _ q => Heap.get?_push_of_some _ q) (Nat.le_refl _) (dk_empty s.heap I.big)
  have hr : (nKind X).room X.A := by show X.A.units + 8 < cLine; omega
  rw [arm_eval_Dict, zip_pairTrees _ _ _ _ rfl rfl, dictDisplay_pairs _ (by simp [pairTrees]) (by simp [pairTrees])]
  refine wpAny_bind (wpAny_standAt (wpAny_bind (wpAny_subDictH (knd := nKind X) (Q := fun d s' => wpAny (model X.prog X.w) X.A (pure (Value.ref d)) (EP X pins σ Q) X.xe s') hr (by simp [pairTrees]) ?_)))
  refine pairTrees_cons_walk (thn (ha.run pins _ σ _ _ I1 (q _ hn)) fun u s1 ⟨x, H1, I2, rx, q1⟩ => thn (hb.run pins s1 σ H1 _ I2 q1) fun w s2 ⟨y, H2, I3, ry, e, n, b, ex, hk, q2⟩ => pairTrees_nil_walk ?_)
  subst ex
  cases rx
  have key := hk pins σ s2 I3
  obtain ⟨hd, D⟩ := empty_raw (c := ⟨fun _ => 0, 0, H2⟩) I3 e
  refine ⟨[(n, b, w)], ⟨rfl, rfl, key, trivial⟩, D, fun h' tk D' hs => wpAny_pure ⟨.ref s.heap.objs.size, _, ?_, rfl, q2⟩⟩
  have D2 : h'.DictOfH (nKind X) s.heap.objs.size [(n, b, w)] := D'
  have hz : (1 : Nat) ≤ sizeLine := by decide
  obtain ⟨o', es, ep, g1, g2⟩ := D2
  exact d_write I3 (by rw [e]; exact True.intro) hs ⟨o', g1⟩ (dN_new hd hz (.cons ⟨rfl, rfl, ry⟩ .nil) ⟨o', es, ep, g1, g2⟩)
theorem e_dicT {tk tv : FT} (hp : ct.pr = X.prog) (hw : ct.w = X.w) (hu : X.A.units + 200 < cLine) (ha : PE X a (LT X.K ct b0 tk)) (hb : PE X b (LT X.K ct b0 tv)) : PE X (.Dict [some a] [b] pos) (LT X.K ct b0 (fDic1 tupK tk tv)) :=
  peMono (pe_dispN hu ha hb) fun σ H Q x =>
    dic1_core (rd := fun p x y H2 => H2 p = some (.dK []) ∧ ∃ (n : NestedKey) (b : Addr), x = .ref b ∧ (∀ pins σ s, L2.Inv X pins σ H2 s → (nKind X).is s.heap n b) ∧ Q (.ref p) (upd H2 p (dN X.prog X.w none p [(n, b, y)]))) (R := fun _ _ _ _ => True) x fun c p k d x y hk dk dd hp0 q => by
      obtain ⟨xs, ek, k8⟩ := tupK_of hk
      obtain ⟨b', vs, ex, _⟩ := (show DR X.K c (.tup xs) x by rw [← ek]; exact dk)
      subst ex
      refine ⟨hp0, nk k, b', rfl, fun pins σ s I => key_is I hk dk, q _ fun c' m e' => .inr ⟨none, [(nk k, b', y)], by rw [hp, hw]; exact e', ⟨_, _, rfl, m _ _ dk, rfl⟩, ⟨_, _, rfl, m _ _ dd, rfl⟩, rfl, fun p' hp' => ?_, by simp⟩⟩
      rw [List.mem_singleton.mp hp']
      exact hk
/-! ### starred items -/
theorem a_star {ta : FT} {tr : FA} {p : Pos} (ha : PE X e (LT X.K ct b0 ta)) (hr : PA X es (LA X.K ct b0 tr)) (hs : starEach (.Starred e p :: es) X.env = (true, eval e X.env) :: starEach es X.env) :
    PA X (.Starred e p :: es) (LA X.K ct b0 fun s h Q => ta s h fun tv h1 => match items h1 tv with
      | some xs => tr s h1 fun ys h2 => xs.length ≤ sz ∧ Q (xs ++ ys) h2
      | none => False) := paMono (pa_star ha hr hs) fun σ H Q x => by
  obtain ⟨c, h, s, P, e, ex, sr, st, t, post⟩ := x
  refine ⟨c, h, s, _, e, ex, sr, st, t, fun tv h1 p1 c1 v ex1 sr1 tr1 tf1 => ?_⟩
  split at p1
  · rename_i xs hx
    obtain ⟨a, vs, rfl, rs, q⟩ := seq_there sr1 tr1 hx
    refine ⟨a, vs, rfl, q.symm, c1, h1, s, _, rfl, ex.trans ex1, sr1, st.mono ex1, p1, fun ys h3 p3 c3 ws ex3 sr3 drs => post _ h3 p3.2 c3 _ (ex1.trans ex3) sr3 (DRs.append (DRs.mono ex3 _ _ rs) drs)⟩
  · exact p1.elim
/-! ### xs.extend(ys) -/
theorem e_extend {to ta : FT} {apos : Pos} {nm : Str} (hn : nm = "extend") (ho : PE X a (LT X.K ct b0 to)) (hb2 : PE X b (LT X.K ct b0 ta)) (hb : attributeBase a nm X.env (eval a X.env) = eval a X.env) (hl : (apos.endLine == pos.line) = true) (hs : starEach [b] X.env = (false, eval b X.env) :: starEach [] X.env) :
    PE X (.Call (.Attribute a nm apos) [b] [] pos) (LT X.K ct b0 fun s h Q => to s h fun x h1 => lmOk h1 .extend x = true ∧ ta s h1 fun y h2 => lmT h2 .extend x y Q) := by
  subst hn
  refine peMono (pe_bm PySem.F.plainAttrs_list PySem.F.slot_list_extend PySem.F.type_list_extend mt_extend ho (v_cons hb2 v_nil hs) hb (by rw [hs]; rfl) hl hs rfl) fun σ H Q x => LT.bind (k := fun x s h1 Q => lmOk h1 .extend x = true ∧ ta s h1 fun y h2 => lmT h2 .extend x y Q) x fun c0 c h s tv P v ex0 ex sr st tr tf k post => ?_
  refine ⟨lstOk_ty sr tr k.1, c, h, s, fun tvs h2 => match tvs with
    | [y] => lmT h2 .extend tv y P
    | _ => False, rfl, ex0, sr, st, k.2, fun tvs h2 p c2 vs ex2 sr2 drs => ?_⟩
  dsimp only at p
  split at p
  · rename_i y
    obtain ⟨u, rfl, tr2⟩ := drs.one
    unfold lmT at p
    split at p
    · rename_i l y
      split at p
      · rename_i xs ys hx hy
        obtain ⟨hne, hz, p⟩ := p
        obtain ⟨hl, rfl⟩ := tr.mono ex2
        obtain ⟨us, q, rs⟩ := sr2.obj _ _ hx
        obtain ⟨b', ws, rfl, q2, rs2⟩ := lst_there sr2 tr2 (by rw [hy])
        obtain ⟨ex3, sr3⟩ := write_list (xs := xs) sr2 hl q (DRs.append rs rs2)
        exact ⟨c2.μ l, b', us, ws, rfl, rfl, q, q2, by rw [rs.length, rs2.length, ← sz_line]; exact hz, post _ _ p _ .non (ex2.trans ex3) sr3 rfl trivial⟩
      · exact p.elim
    · exact absurd ‹Lm.extend = Lm.join› (by decide)
    · exact p.elim
  · exact p.elim
end
end SL

set_option linter.all false
set_option autoImplicit false
set_option maxRecDepth 100000
set_option Elab.async false
/-! SLSort: sorted(..). -/
namespace SL
open PySem PySem.Spec PySem.W PySem.SeqAt PyProof.Rows
section
variable {prog : Program} {w : World} {A : Around} {E : Value → Shared → Prop} {s : Shared}
/-- one tuple against another one, as sorting compares things of one type -/
theorem one_tup {da db : PyData} {a b : Value} {as bs : List Addr} {Q : Bool → Shared → Prop} (ta : isTupP da = true) (ra : Reads s.heap a da as) (rb : Reads s.heap b db bs) (h : alike da db = true) (hu : A.units + min da.depth db.depth < cLine) (hq : Q (dataLt da db) s) : wpAny (model prog w) A (oneLt' true a b) Q E s := by
  cases da with
  | tuple xs =>
    cases db with
    | tuple ys =>
      have hal : alikeAll xs ys = true := by simpa [alike] using h
      cases ra with
      | @tuple l o vs n _ as₁ h1 h2 h3 h4 =>
        cases rb with
        | @tuple l' o' vs' n' _ bs₁ k1 k2 k3 k4 =>
          have n1 : vs.size = xs.length := by simpa using ReadsAll.length _ _ _ h4
          have n2 : vs'.size = ys.length := by simpa using ReadsAll.length _ _ _ k4
          rw [dataLt_tuple, ← firstLt_toks xs ys hal, ← n1, ← n2] at hq
          obtain ⟨cl, dd, data, sl⟩ := o
          obtain ⟨cl2, dd2, data2, sl2⟩ := o'
          simp only at h2 h3 k2 k3
          subst h2 h3 k2 k3
          rw [oneLt'_eq]
          simp only [if_true]
          refine wpAny_bind (wpAny_cRoomFor (room_here hu) ?_)
          refine wpAny_bind (wpAny_callSpecialIfBound?_slot (T := "tuple") ⟨_, h1, rfl⟩ PySem.F.slot_tuple_lt (call_meets PySem.F.slot_tuple_lt ⟨_, h1, rfl⟩ PySem.F.entry_tuple_lt (PySem.F.args_tuple_lt_2 _ _) (tuple_ltAt l l' vs vs' n n' dd dd2 sl sl2 (pairEq xs ys) fun j => dataLt (xs.getD j .none) (ys.getD j .none)) ⟨h1, k1, fun j j1 j2 => ?_, fun j j1 j2 hj => ?_, wpAny_truthy_bool hq⟩))
          · have := eqAt_alikeAll xs ys A.in1 s vs.toList vs'.toList _ _ h4 k4 hal (room_in hu) j (by simpa using j1) (by simpa using j2)
            simpa using this
          · have := rcLt_alikeAll xs ys A.in1 s vs.toList vs'.toList _ _ h4 k4 hal (room_in hu) j (by simpa using j1) (by simpa using j2) hj
            simpa using this
    | _ => exact absurd h (by simp [alike])
  | _ => cases ta
/-- the firsts of tuples -/
theorem firsts_go {M : Model} : ∀ (vs : List Value) (ds : List PyData) {Q : List (Option Value) → Shared → Prop}, EachIs (fun v d => ∃ as, Reads s.heap v d as) vs ds → ds.all isTupP = true → (∀ os : List (Option Value), os.length = vs.length → (head0 ds = true → ∃ r, os = none :: r) → Q os s) → wpAny M A (vs.mapM firstOfTuple') Q E s
  | [], ds, Q, e, _, h => by
    rw [List.mapM_nil]
    cases e
    exact wpAny_pure (h [] rfl fun z => by cases z)
  | v :: vs, ds, Q, e, ht, h => by
    cases e with
    | @cons _ d _ ds' e1 t =>
      obtain ⟨as, r⟩ := e1
      rw [List.all_cons, Bool.and_eq_true] at ht
      cases d with
      | tuple xs =>
        cases r with
        | @tuple l o ws n _ _ h1 h2 h3 h4 =>
          rw [List.mapM_cons]
          refine wpAny_bind ?_
          rw [kas_first_eq]
          refine wpAny_bind (Looks.here (show Looks M s.heap (typeOf (.ref l)) o.cls from (Looks.ld h1).andThen .now) ?_)
          rw [h2, if_neg (by first | decide | simp)]
          refine wpAny_bind (listItems_at h1 h3 (wpAny_pure ?_))
          refine wpAny_bind (firsts_go vs ds' t ht.2 fun os hl _ => wpAny_pure (h (ws[0]? :: os) (by rw [List.length_cons, List.length_cons, hl]) fun hz => ⟨os, ?_⟩))
          cases xs with
          | nil =>
            have : ws.size = 0 := by simpa using ReadsAll.length _ _ _ h4
            rw [Array.getElem?_eq_none (by omega)]
          | cons _ _ => cases hz
      | _ => cases ht.1
/-- tuples, the first of which is empty, can be sorted -/
theorem sorts0 {vs : List Value} {ds : List PyData} (e : EachIs (fun v d => ∃ as, Reads s.heap v d as) vs ds) (hal : AllAlike ds) (h0 : head0 ds = true) (ht : ds.all isTupP = true) (hu : ∀ d, d ∈ ds → A.units + d.depth < cLine) : SortsAt prog w A s (dataKind s.heap ds) vs := by
  refine ⟨fun v hv => ?_, oneType', ?_, fun h2 E Q hq => ?_⟩
  · obtain ⟨d, hd, as, r⟩ := e.left v hv
    exact ⟨_, dataKind_some hal hd r⟩
  · intro E x y a b Q ha hb hq
    obtain ⟨d, as, hd, ra, rfl⟩ := dataKind_inv ha
    obtain ⟨d', as', hd', rb, rfl⟩ := dataKind_inv hb
    rw [keyLt'_oneType]
    exact one_tup (List.all_eq_true.mp ht d hd) ra rb (hal d hd d' hd') (Nat.lt_of_le_of_lt (Nat.add_le_add_left (Nat.min_le_left _ _) _) (hu d hd)) hq
  · rw [keyKind'_eq, List.mapM_toArray, map_eq_pure_bind]
    refine wpAny_bind (wpAny_bind (firsts_go vs ds e ht fun os hl hh => wpAny_pure ?_))
    obtain ⟨r, rfl⟩ := hh h0
    rw [if_neg (by simp), if_neg (by simp)]
    rw [oneTypeOnly'_eq, List.mapM_toArray, map_eq_pure_bind]
    refine wpAny_bind (wpAny_bind (wpAny_bind (kas_mapM (r := Value.type "tuple") _ (fun v hv Q' hq => ?_) (wpAny_pure ?_))))
    · obtain ⟨d, hd, as, r⟩ := e.left v hv
      have hd2 := List.all_eq_true.mp ht d hd
      cases d with
      | tuple xs => exact (looks_reads r).here hq
      | _ => cases hd2
    · have hall : ((List.map (fun _ => Value.type "tuple") vs).toArray.all fun x => x == Value.type "tuple") = true := by
        simp only [List.all_toArray, List.all_map, List.all_eq_true]
        intro _ _
        show (Value.type "tuple" == Value.type "tuple") = true
        decide
      have h0 : (List.map (fun _ => Value.type "tuple") vs).toArray[0]? = some (Value.type "tuple") := by
        cases vs with
        | nil => simp at h2
        | cons _ _ => simp
      rw [h0]
      simp only [hall, if_true]
      exact wpAny_pure (wpAny_pure hq)
end
open L2
/-! ### by values -/
abbrev VP := V × PyData
def leV (a b : VP) : Bool := !dataLt b.2 a.2
def sortV (xs : List V) (ps : List PyData) : List V := ((xs.zip ps).mergeSort leV).map (·.1)
def rSortD (K : PySem.W.Frag) : List V → L2.Hp → VK → Prop := fun vs H Q => ∃ (a : Addr) (xs : List V) (ps : List PyData), vs = [.ref a] ∧ SqL K H a xs ∧ DpAll K H xs ps ∧ sortable ps = true ∧ (∀ p, p ∈ ps → p.depth ≤ 61) ∧
  ∀ q, H q = none → Q (.ref q) (upd H q (.lst (sortV xs ps)))
theorem each_zip {h : Heap} : ∀ {xs : List V} {ps : List PyData} {its : List Value}, Vals xs its → (∃ as, ReadsAll h its ps as) → EachIs (fun v (b : VP) => RelV b.1 v) its (xs.zip ps) ∧ EachIs (fun v (b : VP) => ∃ as, Reads h v b.2 as) its (xs.zip ps) ∧ (xs.zip ps).map (·.2) = ps
  | [], ps, its, rv, ⟨as, r⟩ => by
    cases rv
    cases r
    exact ⟨.nil, .nil, rfl⟩
  | x :: xs, ps, its, rv, ⟨as, r⟩ => by
    cases rv with
    | cons h1 t =>
    cases r with
    | cons r1 r2 =>
      obtain ⟨a, b, c⟩ := each_zip t ⟨_, r2⟩
      exact ⟨.cons h1 a, .cons ⟨_, r1⟩ b, by rw [List.zip_cons_cons, List.map_cons, c]⟩
theorem vals_each : ∀ {out : List Value} {bs : List VP}, EachIs (fun v (b : VP) => RelV b.1 v) out bs → Vals (bs.map (·.1)) out
  | _, _, .nil => .nil
  | _, _, .cons h t => .cons h (vals_each t)
theorem alikes_all {ps : List PyData} (h : alikes ps = true) : AllAlike ps := fun d hd d' hd' => List.all_eq_true.mp (List.all_eq_true.mp h d hd) d' hd'
theorem sortable_of {prog : Program} {w : World} {A : Around} {s : Shared} {vs : List Value} {ps : List PyData} (h : sortable ps = true) (e : EachIs (fun v d => ∃ as, Reads s.heap v d as) vs ps) (hu : ∀ d, d ∈ ps → A.units + d.depth < cLine) : SortsAt prog w A s (dataKind s.heap ps) vs := by
  unfold sortable at h
  rw [Bool.and_eq_true, Bool.or_eq_true, Bool.or_eq_true] at h
  have hal := alikes_all h.1
  rcases h.2 with (h | h) | h
  · refine SortsAt.data e hal (.inl fun d hd => ?_) hu
    have z := List.all_eq_true.mp h d hd
    cases d with
    | tuple xs =>
      cases xs with
      | nil => cases z
      | cons x r => exact ⟨x, r, rfl⟩
    | _ => cases z
  · refine SortsAt.data e hal (.inr fun d hd => ?_) hu
    have z := List.all_eq_true.mp h d hd
    cases d with
    | tuple xs => cases z
    | none => cases z
    | dict _ => cases z
    | _ => exact ⟨(fun z => by cases z), fun _ z => by cases z⟩
  · rw [Bool.and_eq_true] at h
    exact sorts0 e hal h.1 h.2 hu
theorem each_of_ds {h h' : Heap} (k : ∀ b o, h.get? b = some o → h'.get? b = some o) {vs : List Value} {bs : List VP} (er : EachIs (fun v (b : VP) => ∃ as, Reads h v b.2 as) vs bs) : EachIs (fun v (b : VP) => ∃ as, Reads h' v b.2 as) vs bs := er.mono fun _ _ ⟨as, r⟩ => ⟨as, PyProof.Rows.Reads.keeps k r⟩
theorem cr_sortD {X : L2.Cx} (hu : X.A.units + 200 < cLine) : CallR X (.builtin "sorted") (rSortD X.K) := by
  intro pins s σ H vs us Q I r t
  obtain ⟨a, xs, ps, rfl, hq, dp, hs, hd, q⟩ := t
  obtain ⟨u, rfl, ru⟩ := Vals.one r
  cases ru
  obtain ⟨its, rv, pl, hz⟩ := I.list hq
  obtain ⟨as, rd⟩ := Dp.readsAll I ps xs its dp rv
  obtain ⟨e1, e2, e3⟩ := each_zip rv ⟨as, rd⟩
  have e2' := each_of_ds (h' := sortingHeap (copyHeap s.heap its) (s.heap.objs.size + 1) its) (fun _ _ => sorting_copy_old) e2
  have hal : AllAlike ((xs.zip ps).map (·.2)) := by
    rw [e3]
    unfold sortable at hs
    rw [Bool.and_eq_true] at hs
    exact alikes_all hs.1
  have hl : its.length = xs.length := by rw [← rv.length]
  refine sorted_vals (vs := its) (κ := dataKind (sortingHeap (copyHeap s.heap its) (s.heap.objs.size + 1) its) ((xs.zip ps).map (·.2))) pl.isList (sortable_of (s := { s with heap := sortingHeap (copyHeap s.heap its) (s.heap.objs.size + 1) its }) (by rw [e3]; exact hs) (each_map (R := fun v d => ∃ as, Reads (sortingHeap (copyHeap s.heap its) (s.heap.objs.size + 1) its) v d as) (fun b : VP => b.2) e2') fun d hm => ?_) (by omega) ?_
  · have := hd d (by rw [e3] at hm; exact hm)
    show X.A.units + 1 + 1 + d.depth < cLine
    omega
  · have eo := sortVals_data false e1 e2' hal
    generalize sortVals _ false its its = out at eo ⊢
    have vo : Vals (sortV xs ps) out := vals_each eo
    obtain ⟨c, hc⟩ := sortedAll_at s.heap its out.toArray
    have hn : H (s.heap.objs.size + 1) = none := I.hok.fresh (Nat.le_succ _)
    have hlen : (sortV xs ps).length ≤ sizeLine := by
      unfold sortV
      rw [List.length_map, List.length_mergeSort, List.length_zip]
      omega
    exact ⟨.ref (s.heap.objs.size + 1), _, I.laid (a := s.heap.objs.size + 1) (o := .lst (sortV xs ps)) (t' := s.toks) (fun _ _ => sortedAll_old) (Nat.le_succ _) ⟨hlen, out, c, vo, hc⟩, rfl, q _ hn⟩
end SL

set_option linter.all false
set_option autoImplicit false
set_option maxRecDepth 100000
set_option Elab.async false
/-! SLSort2: sorted(..) of a list or a tuple, by trees. -/
namespace SL
open PySem PySem.Spec PySem.W PySem.SeqAt PyProof.Rows
section
variable {prog : Program} {w : World} {A : Around} {E : Value → Shared → Prop} {s : Shared}
/-- what sorted(..) does with whatever it gathers -/
theorem sorted_any {v : Value} {Q : Value → Shared → Prop}
    (hc : ∀ E' : Value → Shared → Prop, wpAny (model prog w) A.in1 (collect v) (fun vs s2 => vs.length ≤ sizeLine ∧ ∃ κ : KeyKind, SortsAt prog w A.in1.in1 { s2 with heap := sortingHeap (s2.heap.push (seqObj "list" vs.toArray 0)) s2.heap.objs.size vs } κ vs ∧
      Q (.ref s2.heap.objs.size) { s2 with heap := sortedHeap (s2.heap.push (seqObj "list" vs.toArray 0)) s2.heap.objs.size vs (sortVals κ false vs vs).toArray }) E' s) : wpAny (model prog w) A (call (.builtin "sorted") [v]) Q E s := by
  refine call_function_entry_kw kind_sorted plain_sorted entry_sorted (args_sorted1 _) ?_
  unfold Builtin.«sorted»
  refine wpAny_bind (m := checkCount "sorted" 1 1 _) (wpAny_pure ?_)
  refine wpAny_bind (wpAny_mono (hc _) (fun vs s2 h => ?_) fun _ _ h => h)
  obtain ⟨hL, κ, S, q⟩ := h
  refine wpAny_bind (wpAny_newList ?_ hL)
  refine wpAny_bind (wpAny_holding (wpAny_call_entry_kw slot_list_sort ⟨_, Heap.get?_push_size _ rfl, rfl⟩ entry_list_sort ?body (args_list_sort _)))
  case body =>
    show wpAny (model prog w) A.in1.in1 (Builtin.«list.sort» ⟨[.ref s2.heap.objs.size], []⟩) _ _ _
    refine wpAny_mono (list_sort_vals (P := fun f s' => f = .done (.ret .none) ∧ Q (.ref s2.heap.objs.size) s') (s := { s2 with heap := s2.heap.push (seqObj "list" vs.toArray 0) }) (Heap.get?_push_size _ rfl) S hL ⟨rfl, q⟩) (fun f s' hf => ?_) fun _ _ e => e
    obtain ⟨rfl, hq⟩ := hf
    exact ⟨_, rfl, wpAny_pure ⟨_, rfl, hq⟩⟩
/-- the items of a list or a tuple, gathered; the heap only grows -/
theorem gather {a : Addr} {T : String} {u : Obj} {its : Array Value} {n : Nat} {Q : List Value → Shared → Prop} (kT : T = "list" ∨ T = "tuple") (h1 : s.heap.get? a = some u) (h2 : u.cls = .type T) (h3 : u.data = .seq its n) (hz : its.size ≤ sizeLine)
    (k : ∀ g : Heap, (∀ b o, s.heap.get? b = some o → g.get? b = some o) → s.heap.objs.size ≤ g.objs.size → Q its.toList { s with heap := g }) : wpAny (model prog w) A (collect (.ref a)) Q E s := by
  let g0 : Heap := s.heap.push (seqObj "list" #[] 0)
  let g1 : Heap := g0.update s.heap.objs.size (Obj.mapSeq (· ++ its))
  have p0 : g0.get? s.heap.objs.size = some (seqObj "list" #[] 0) := Heap.get?_push_size _ rfl
  have p1 : g1.get? s.heap.objs.size = some (Obj.mapSeq (· ++ its) (seqObj "list" #[] 0)) := Heap.get?_update_self _ p0 rfl
  have kk : ∀ b o, s.heap.get? b = some o → g1.get? b = some o := fun b o hb =>
    (Heap.get?_update_other _ _ (Nat.ne_of_gt (Heap.lt_size hb))).trans (Heap.get?_push_of_some _ hb)
  have last : wpAny (model prog w) A (do
      let o ← load s.heap.objs.size
      match o.data with
      | .seq xs _ => pure xs.toList
      | _ => unsupported "internal:collect") Q E { s with heap := g1 } := by
    refine wpAny_bind (wpAny_load p1 (wpAny_pure ?_))
    have q := k g1 kk (by show _ ≤ (g0.update _ _).objs.size; rw [Heap.size_update]; show _ ≤ (Heap.push _ _).objs.size; rw [size_push']; omega)
    have z : ((fun x : Array Value => x ++ its) #[]) = its := by simp
    show Q ((fun x : Array Value => x ++ its) #[]).toList _
    rw [z]
    exact q
  unfold collect
  refine wpAny_bind (wpAny_runValue (codeAny_builtin F.entry_proto_collect ?_))
  rw [Around.under_plainId F.plain_proto_collect _]
  refine wpAny_bind (m := newList []) (wpAny_newObj_type ?_)
  refine wpAny_pure ⟨plainId_quiet F.plain_list_iadd _, codeAny_builtin F.entry_list_iadd ?_⟩
  rw [Around.under_plainId F.plain_list_iadd _]
  refine wpAny_mono (wpAny_extend_seq (hsz := hz) (R := fun r s2 => r = .ok (.ret (.ref s.heap.objs.size)) ∧ s2 = { s with heap := g1 }) (s := { s with heap := g0 }) _ a _ 0 kT p0 (Heap.get?_push_of_some _ h1) h2 h3 ⟨rfl, rfl⟩) (fun f s2 x => ?_) fun e s2 x => absurd x.1 (by simp)
  cases f with
  | done r =>
    obtain ⟨y, rfl⟩ := x
    cases y
    exact last
  | again c => exact ⟨x.1, codeAny_mono x.2 fun r s3 y => by
      obtain ⟨rfl, rfl⟩ := y
      exact last⟩
end
open L2
def rSortE (K : PySem.W.Frag) : List V → L2.Hp → VK → Prop := fun vs H Q => ∃ (a : Addr) (xs : List V) (ps : List PyData), vs = [.ref a] ∧ (SqL K H a xs ∨ SqT K H a xs) ∧ DpAll K H xs ps ∧ sortable ps = true ∧ (∀ p, p ∈ ps → p.depth ≤ 61) ∧
  ∀ q, H q = none → Q (.ref q) (upd H q (.lst (sortV xs ps)))
theorem cr_sortE {X : L2.Cx} (hu : X.A.units + 200 < cLine) : CallR X (.builtin "sorted") (rSortE X.K) := by
  intro pins s σ H vs us Q I r t
  obtain ⟨a, xs, ps, rfl, hq, dp, hs, hd, q⟩ := t
  obtain ⟨u, rfl, ru⟩ := Vals.one r
  cases ru
  have hI : ∃ its : List Value, Vals xs its ∧ xs.length ≤ sizeLine ∧ ∀ {E' : Value → Shared → Prop} {Q' : List Value → Shared → Prop} {A' : Around}, (∀ h' : Heap, (∀ b o', s.heap.get? b = some o' → h'.get? b = some o') → s.heap.objs.size ≤ h'.objs.size → Q' its { s with heap := h' }) → wpAny (model X.prog X.w) A' (collect (.ref a)) Q' E' s := by
    rcases hq with hq | hq
    · obtain ⟨its, rv, pl, hz⟩ := I.list hq
      obtain ⟨o, ho, hc, n, hdt⟩ := pl.isList
      exact ⟨its, rv, hz, fun h => gather (.inl rfl) ho hc hdt (by rw [List.size_toArray, ← rv.length]; exact hz) h⟩
    · obtain ⟨its, rv, pl, hz⟩ := I.tuple hq
      obtain ⟨o, ho, hc, n, hdt⟩ := (show s.heap.IsTuple a its.toArray from pl)
      exact ⟨its, rv, hz, fun h => gather (.inr rfl) ho hc hdt (by rw [List.size_toArray, ← rv.length]; exact hz) h⟩
  obtain ⟨its, rv, hz, coll⟩ := hI
  obtain ⟨as, rd⟩ := Dp.readsAll I ps xs its dp rv
  obtain ⟨e1, e2, e3⟩ := each_zip rv ⟨as, rd⟩
  have hl : its.length = xs.length := by rw [← rv.length]
  refine sorted_any fun E' => coll fun h' hk hn0 => ?_
  have hk2 : ∀ b o, s.heap.get? b = some o → (sortingHeap (h'.push (seqObj "list" its.toArray 0)) h'.objs.size its).get? b = some o := fun b o e =>
    sortingHeap_old (Nat.ne_of_lt (Heap.lt_size (hk b o e))) (Heap.get?_push_of_some _ (hk b o e))
  have e2' := each_of_ds hk2 e2
  have hal : AllAlike ((xs.zip ps).map (·.2)) := by
    rw [e3]
    unfold sortable at hs
    rw [Bool.and_eq_true] at hs
    exact alikes_all hs.1
  refine ⟨by omega, dataKind (sortingHeap (h'.push (seqObj "list" its.toArray 0)) h'.objs.size its) ((xs.zip ps).map (·.2)), sortable_of (s := { s with heap := sortingHeap (h'.push (seqObj "list" its.toArray 0)) h'.objs.size its }) (by rw [e3]; exact hs) (each_map (R := fun v d => ∃ as, Reads (sortingHeap (h'.push (seqObj "list" its.toArray 0)) h'.objs.size its) v d as) (fun b : VP => b.2) e2') fun d hm => ?_, ?_⟩
  · have := hd d (by rw [e3] at hm; exact hm)
    show X.A.units + 1 + 1 + d.depth < cLine
    omega
  · have eo := sortVals_data false e1 e2' hal
    generalize sortVals _ false its its = out at eo ⊢
    have vo : Vals (sortV xs ps) out := vals_each eo
    have hn : H h'.objs.size = none := I.hok.fresh hn0
    have hlen : (sortV xs ps).length ≤ sizeLine := by
      unfold sortV
      rw [List.length_map, List.length_mergeSort, List.length_zip]
      omega
    obtain ⟨c, hc⟩ := sortedHeap_at (h := h'.push (seqObj "list" its.toArray 0)) (a := h'.objs.size) (vs := its) (n := 0) (out := out.toArray) (Heap.get?_push_size _ rfl)
    exact ⟨.ref h'.objs.size, _, I.laid (a := h'.objs.size) (o := .lst (sortV xs ps)) (t' := s.toks) (fun b o e => (sortedHeap_old (Nat.ne_of_lt (Heap.lt_size (hk b o e))) (by rw [size_push']; exact Nat.lt_succ_of_lt (Heap.lt_size (hk b o e)))).trans (Heap.get?_push_of_some _ (hk b o e))) hn0 ⟨hlen, out, c, vo, hc⟩, rfl, q _ hn⟩
/-! ### by trees -/
theorem DRs_sort {K : PySem.W.Frag} {c : Bs} {xs : List D} {vs : List V} {ps : List PyData} (r : DRs K c xs vs) (hl : ps.length = xs.length) : DRs K c (sortBy ps xs) (sortV vs ps) := by
  -- both are the one sorted list of triples, read twice
  have hv := r.length
  let tr : List (PyData × D × V) := ps.zip (xs.zip vs)
  have go : ∀ (ps : List PyData) (xs : List D) (vs : List V), ps.length = xs.length → vs.length = xs.length → ps.zip xs = (ps.zip (xs.zip vs)).map (fun t => (t.1, t.2.1)) ∧ vs.zip ps = (ps.zip (xs.zip vs)).map (fun t => (t.2.2, t.1)) := by
    intro ps
    induction ps with
    | nil => intro xs vs h1 h2; cases xs with
      | nil => cases vs with
        | nil => exact ⟨rfl, rfl⟩
        | cons _ _ => cases h2
      | cons _ _ => cases h1
    | cons p ps ih => intro xs vs h1 h2; cases xs with
      | nil => cases h1
      | cons x xs => cases vs with
        | nil => cases h2
        | cons v vs =>
          obtain ⟨a, b⟩ := ih xs vs (by simpa using h1) (by simpa using h2)
          exact ⟨by rw [List.zip_cons_cons, a]; rfl, by rw [List.zip_cons_cons, b]; rfl⟩
  obtain ⟨z1, z2⟩ := go ps xs vs hl hv
  have hall : ∀ t, t ∈ tr → DR K c t.2.1 t.2.2 := by
    have key : ∀ (xs : List D) (vs : List V) (ps : List PyData), DRs K c xs vs → ∀ t, t ∈ ps.zip (xs.zip vs) → DR K c t.2.1 t.2.2 := by
      intro xs
      induction xs with
      | nil => intro vs ps h t ht; simp at ht
      | cons x xs ih => intro vs ps h t ht; obtain ⟨v, w, rfl, h1, h2⟩ := h; cases ps with
        | nil => simp at ht
        | cons p ps =>
          rw [List.zip_cons_cons, List.zip_cons_cons] at ht
          rcases List.mem_cons.mp ht with rfl | ht
          · exact h1
          · exact ih w ps h2 t ht
    exact key xs vs ps r
  let le3 : PyData × D × V → PyData × D × V → Bool := fun a b => !dataLt b.1 a.1
  have s1 : sortBy ps xs = (tr.mergeSort le3).map fun t => t.2.1 := by
    unfold sortBy
    rw [z1, ← List.map_mergeSort (r := le3) (s := fun a b : PyData × D => !dataLt b.1 a.1) (f := fun t => (t.1, t.2.1)) (fun a _ b _ => rfl), List.map_map]
    rfl
  have s2 : sortV vs ps = (tr.mergeSort le3).map fun t => t.2.2 := by
    unfold sortV
    rw [z2, ← List.map_mergeSort (r := le3) (s := leV) (f := fun t => (t.2.2, t.1)) (fun a _ b _ => rfl), List.map_map]
    rfl
  rw [s1, s2]
  have hm : ∀ t, t ∈ tr.mergeSort le3 → DR K c t.2.1 t.2.2 := fun t ht => hall t (List.mem_mergeSort.mp ht)
  revert hm
  generalize tr.mergeSort le3 = l
  intro hm
  induction l with
  | nil => rfl
  | cons t l ih => exact ⟨_, _, rfl, hm t (List.mem_cons_self ..), ih fun u hu => hm u (List.mem_cons_of_mem _ hu)⟩
theorem rdAll_length {f : D → Option PyData} : ∀ {xs : List D} {ps : List PyData}, rdAll f xs = some ps → ps.length = xs.length
  | [], ps, e => by cases e; rfl
  | x :: xs, ps, e => by
    rw [rdAll] at e
    split at e
    · rename_i p qs _ h2
      cases e
      rw [List.length_cons, List.length_cons, rdAll_length h2]
    · cases e
section
variable {X : L2.Cx} {ct : Ct} {b0 : Bs} {a : Expr} {pos : Pos}
theorem e_srt {ta : FT} {p : Pos} {x : Str} (hx : x = "sorted") (hu : X.A.units + 200 < cLine) (hg : Gl X x) (hm : X.mg x = none) (ha : PE X a (LT X.K ct b0 ta)) (hs : starEach [a] X.env = (false, eval a X.env) :: starEach [] X.env) :
    PE X (.Call (.Name x p) [a] [] pos) (LT X.K ct b0 fun s h Q => ta s h fun x h1 => match items h1 x with
      | some xs => xs.length ≤ sz ∧ sortD h1 xs fun ys => Q (.l ys) h1
      | none => False) := by
  subst hx
  refine peMono (pe_callB (cr_sortE hu) hg hm (by decide +kernel) (pa_cons ha pa_nil hs) (by decide) (by decide) hs rfl) fun σ H Q x => LT.bind x fun c0 c h s tv P v ex0 ex sr st tr tf k post => ?_
  split at k
  · rename_i xs hw
    have fin : ∀ (vs : List V) (p : Addr), (SqL X.K c.H p vs ∨ SqT X.K c.H p vs) → DRs X.K c xs vs → rSortE X.K [.ref p] c.H Q := fun vs p hq r => by
      have k2 := k.2
      unfold sortD at k2
      split at k2
      · rename_i ps hp
        refine ⟨p, vs, ps, rfl, hq, dpL_of sr hp r, k2.1, fun d hd => ?_, fun l hl => done_list ex sr (DRs_sort r (rdAll_length hp)) hl k2.2 post⟩
        have := (rdL_ok hp).2
        have key : ∀ (ps : List PyData), PyData.depthAll ps ≤ 60 → ∀ d, d ∈ ps → d.depth ≤ 60 := by
          intro ps
          induction ps with
          | nil => intro _ d hd; cases hd
          | cons q ps ih =>
            intro h d hd
            rw [PyData.depthAll] at h
            rcases List.mem_cons.mp hd with rfl | hd
            · omega
            · exact ih (by omega) d hd
        have := key ps this d hd
        omega
      · exact k2.elim
    unfold items at hw
    split at hw
    · cases hw
      obtain ⟨p, vs, rfl, q, rs, _⟩ := tr
      exact fin vs p (.inl (SqL.of q)) rs
    · cases hw
      obtain ⟨p, vs, rfl, q, rs⟩ := tr
      exact fin vs p (.inr q) rs
    · split at hw
      · rename_i hx
        cases hw
        obtain ⟨hl, rfl⟩ := tr
        obtain ⟨vs, q, rs⟩ := sr.obj _ _ hx
        exact fin vs _ (.inl (SqL.of q)) rs
      · rename_i hx
        cases hw
        obtain ⟨hl, rfl⟩ := tr
        obtain ⟨vs, q, rs⟩ := sr.obj _ _ hx
        exact fin vs _ (.inl (SqL.ofRd q)) rs
      · cases hw
    · cases hw
  · exact k.elim
end
end SL

set_option linter.all false
set_option autoImplicit false
set_option maxRecDepth 100000
set_option Elab.async false
/-! SLKeys: the keys of a dict (tuples), walked; while it is walked it is locked. -/
namespace SL
open PySem PySem.Spec PyProof.Rows L2
/-- the keys of the locked dict at d, in their order: each key's own tuple -/
def ItN (P : Program) (w : World) (d : Addr) (o : Obj) : It :=
  ⟨fun i H => ∃ xs, H d = some (dN P w (some o) d xs) ∧ i < xs.length, fun i H v H' => H' = H ∧ ∀ xs, H d = some (dN P w (some o) d xs) → ∃ x, xs[i]? = some x ∧ v = .ref x.2.1, fun i H => ∃ xs, H d = some (dN P w (some o) d xs) ∧ xs.length ≤ i⟩
section
variable {X : L2.Cx} {pins : List (Addr × Obj)} {σ : L2.St} {s : Shared} {H : L2.Hp} {d : Addr} {o : Obj}
theorem paired_at {R : KRow → YRow → Prop} : ∀ {xs : List KRow} {ys : List YRow}, Paired R xs ys → ∀ {i : Nat} {y : YRow}, ys[i]? = some y → ∃ x, xs[i]? = some x ∧ R x y
  | _, _, .nil, i, y, e => by simp at e
  | _, _, .cons h t, 0, y, e => by
    simp at e
    subst e
    exact ⟨_, rfl, h⟩
  | _, _, .cons h t, i + 1, y, e => by
    obtain ⟨x, e1, r⟩ := paired_at t (i := i) (by simpa using e)
    exact ⟨x, by simpa using e1, r⟩
/-- what the locked dict's object is -/
theorem lck_obj {xs : List KRow} (I : L2.Inv X pins σ H s) (e : H d = some (dN X.prog X.w (some o) d xs)) : s.heap.get? d = some o ∧ ∀ es ep, o.data = .dict es ep → es.size = xs.length ∧ ∀ (i : Nat) (en : DictEntry), es[i]? = some en → ∃ x, xs[i]? = some x ∧ en.key = .ref x.2.1 := by
  have q : ObjOk X.prog X.w H s.heap d (dN X.prog X.w (some o) d xs) := I.hok d _ e
  obtain ⟨h1, h2, h3, ys, p, o', es', ep', h4, h5, h6, h7, h8⟩ := q.1
  have g := h3 o rfl
  refine ⟨g, fun es ep hd => ?_⟩
  rw [g] at h4
  cases h4
  obtain ⟨ee, _⟩ := dict_ep hd h6
  rw [ee] at h7
  have hl : es.size = ys.length := by
    have := congrArg List.length h7
    simpa using this
  refine ⟨by rw [hl, Paired.length p], fun i en he => ?_⟩
  have he2 : es.toList[i]? = some en := by simpa using he
  rw [h7, List.getElem?_map] at he2
  obtain ⟨y, hy, rfl⟩ := Option.map_eq_some_iff.mp he2
  obtain ⟨x, hx, r⟩ := paired_at p hy
  exact ⟨x, hx, by show Value.ref y.2.1 = _; rw [r.2.1]⟩
end
section
variable {P : Program} {w : World} {K : PySem.W.Frag} {tg : Expr} {d : Addr} {o : Obj} {es : Array DictEntry} {ep : Nat}
theorem turn_keysN (it : Addr) (hod : o.data = .dict es ep) : Turn P w K tg (ItN P w d o) [it] it (fun i h => h.IsKeyIter it d i es.size ep) where
  mem := List.mem_singleton.mpr rfl
  obj := fun i h st b hb => by
    cases List.mem_singleton.mp hb
    obtain ⟨oi, e, _, dd⟩ := st
    exact ⟨oi, e, fun v z => by rw [dd] at z; cases z⟩
  keep := fun i h h' st k => st.at fun oi e => k it (List.mem_singleton.mpr rfl) oi e
  item := by
    rintro X rfl rfl rfl hcalm i pins s σ H E I hf st ⟨xs, hd, hi⟩
    obtain ⟨f0, f1, _, f3, f4, f5⟩ := hf it (List.mem_singleton.mpr rfl)
    obtain ⟨hg, hdat⟩ := lck_obj I hd
    obtain ⟨hsz, hent⟩ := hdat es ep hod
    have hi2 : i < es.size := by omega
    refine next_key_item st hg hod rfl (Array.getElem?_eq_getElem hi2) fun h' st2 sb => ?_
    obtain ⟨x, hx, hk⟩ := hent i _ (Array.getElem?_eq_getElem hi2)
    obtain ⟨oi, e1, e2, e3⟩ := id st2
    refine ⟨_, rfl, go_of (s := { s with heap := h' }) e1 e2 e3 (by decide) ⟨.ref x.2.1, H, I.turned (t' := s.toks) (fun b ob hb e => (sb.2 b hb).trans e) f0 f1 f3 f4 f5, hk, ⟨rfl, fun xs' hd' => ?_⟩, st2, fun b hb => (hf b hb).1⟩⟩
    obtain ⟨_, hdat'⟩ := lck_obj I hd'
    obtain ⟨x', hx', hk'⟩ := (hdat' es ep hod).2 i _ (Array.getElem?_eq_getElem hi2)
    rw [hk] at hk'
    exact ⟨x', hx', congrArg V.ref (Value.ref.inj hk')⟩
  done := by
    rintro X rfl rfl rfl hcalm i pins s σ H E I hf st ⟨xs, hd, hi⟩
    obtain ⟨f0, f1, _, f3, f4, f5⟩ := hf it (List.mem_singleton.mpr rfl)
    obtain ⟨hg, hdat⟩ := lck_obj I hd
    obtain ⟨hsz, _⟩ := hdat es ep hod
    exact next_key_end (I.ok.hd hcalm) st hg hod rfl (by omega) fun h' eb => ⟨rfl, I.turned (t' := s.toks) (fun b ob hb e => eb b ob hb e) f0 f1 f3 f4 f5⟩
  self := fun A i s Q E st h => (turn_keysT (P := P) (w := w) (K := K) (tg := tg) (d := d) (o := { o with data := .dict es ep }) (es := es) (ep := ep) (kvs := List.replicate es.size ([], .non)) it rfl).self A i s Q E (by
    show s.heap.IsKeyIter it d i (List.replicate es.size _).length ep
    rw [List.length_replicate]
    exact st) h
end
section
variable {X : L2.Cx} {ct : Ct} {b0 : Bs} {a tg : Expr}
def tKeysN (X : L2.Cx) (td : TE) : TI := fun σ H R => td σ H fun x H1 => ∃ (d : Addr) (fz : Option Obj) (xs : List KRow), x = .ref d ∧ H1 d = some (dN X.prog X.w fz d xs) ∧ ∀ o, R (ItN X.prog X.w d o) (upd H1 d (dN X.prog X.w (some o) d xs))
theorem pi_keysN {td : TE} (he : PE X a td) : PI X tg a (tKeysN X td) := by
  refine ⟨fun pins s σ H R I h => thn (he.run pins s σ H _ I h) fun u s1 ⟨x, H1, I1, rx, d, fz, xs, ex, hd, q⟩ => ?_⟩
  subst ex
  cases rx
  have z : ObjOk X.prog X.w H1 s1.heap d (dN X.prog X.w fz d xs) := I1.hok d _ hd
  obtain ⟨h1, h2, _, ys, p, o, es, ep, h4, h5, h6, h7, h8⟩ := z.1
  have new : ObjOk X.prog X.w (upd H1 d (dN X.prog X.w (some o) d xs)) s1.heap d (dN X.prog X.w (some o) d xs) := by
    refine ⟨⟨h1, h2, fun o' z => by cases z; exact h4, ys, p, o, es, ep, h4, h5, h6, h7, h8⟩, ⟨o, h4⟩, fun g1 g2 z k => ?_⟩
    obtain ⟨z1, z2, z6, ys', z3, o', es', ep', z4, z5⟩ := z
    exact ⟨z1, z2, fun o z => k o (z6 o z), ys', z3, o', es', ep', k o' z4, z5⟩
  have I2 : L2.Inv X pins σ (upd H1 d (dN X.prog X.w (some o) d xs)) s1 := I1.write (x := d) (e := d) (h' := s1.heap) (t' := s1.toks) (by rw [hd]; exact True.intro) (.inl rfl) (fun b u _ e => e) ⟨o, h4⟩ new
  exact iter_keys h1 h4 h5 h6 (pi_one (tk := s1.toks) I2 _ (turn_keysN _ h6) ⟨_, Heap.get?_push_size _ rfl, rfl, rfl⟩ (q o))
theorem src_keys {K : PySem.W.Frag} {c0 : Bs} {l : Nat} {kvs : List (D × D)} {o : Obj} (hl : l < c0.n) : Src K ct c0 (ItN ct.pr ct.w (c0.μ l) o) (kvs.map (·.1)) (fun h' => h'[l]? = some (.lck o kvs)) where
  goes := fun i c h ex sr hst hi => by
    obtain ⟨xs, q, r1, r2, _⟩ := sr.obj _ _ hst
    rw [ex.mu l hl] at q
    have e := r1.length
    rw [List.length_map] at e
    exact ⟨xs, q, by rw [e]; exact hi⟩
  stops := fun c h ex sr hst => by
    obtain ⟨xs, q, r1, r2, _⟩ := sr.obj _ _ hst
    rw [ex.mu l hl] at q
    have e := r1.length
    rw [List.length_map] at e
    exact ⟨xs, q, by rw [e]; exact Nat.le_refl _⟩
  ylds := fun i x c h v H' ex sr hst hx y => by
    obtain ⟨rfl, y2⟩ := y
    obtain ⟨xs, q, r1, r2, _⟩ := sr.obj _ _ hst
    rw [ex.mu l hl] at q
    obtain ⟨z, hz, rfl⟩ := y2 xs q
    obtain ⟨w, hw, r⟩ := DRs.get r1 hx
    rw [List.getElem?_map, hz] at hw
    cases hw
    exact ⟨c, rfl, Ex.refl c, sr, r⟩
/-- the walk over a dict's keys -/
theorem i_keys {ta : FT} (hp : ct.pr = X.prog) (hw : ct.w = X.w) (ha : PE X a (LT X.K ct b0 ta)) : PI X tg a (LI X.K ct b0 fun s h Q => ta s h fun x h1 => match x with
    | .d (.ref l) => (match h1[l]? with
      | some (.dic kvs) => kvs ≠ [] ∧ (kvs.all fun p => tupK p.1) = true ∧ ∀ o, Q (kvs.map (·.1)) (fun h' => h'[l]? = some (.lck o kvs)) (h1.set l (.lck o kvs))
      | _ => False)
    | _ => False) :=
  piMono (pi_keysN ha) fun σ H R x => by
    obtain ⟨c, h, s, P, e, ex, sr, st, t, post⟩ := x
    refine ⟨c, h, s, _, e, ex, sr, st, t, fun tv h1 p c1 v ex1 sr1 tr1 tf1 => ?_⟩
    split at p
    · rename_i l
      split at p
      · rename_i kvs hx
        obtain ⟨hne, hk, p⟩ := p
        obtain ⟨hl, rfl⟩ := tr1
        have o := sr1.obj _ _ hx
        rcases o with ⟨ks, q, r1, r2⟩ | ⟨fz, xs, q, r1, r2, r3, r4, r5⟩
        · exact (mixed_no0 (atoms_all r1 r2) (fun p hp => List.all_eq_true.mp hk p hp) hne).elim
        · rw [hp, hw] at q
          refine ⟨c1.μ l, fz, xs, rfl, q, fun o => ?_⟩
          have e1 : Ex X.K c1 (c1.put (c1.μ l) (dN X.prog X.w (some o) (c1.μ l) xs)) := Ex.write hl q (fun _ z => by cases z) (fun _ _ z => by cases z)
          have new : OR X.K ct (c1.put (c1.μ l) (dN X.prog X.w (some o) (c1.μ l) xs)) (c1.μ l) (.lck o kvs) := ⟨xs, by rw [hp, hw]; exact upd_same, DRs.mono e1 _ _ r1, DRs.mono e1 _ _ r2, r3, r4, r5⟩
          have s1 := sr1.write (w := dN X.prog X.w fz (c1.μ l) xs) (u := .lck o kvs) hl e1 new
          have g := post _ _ _ (p o) (c1.put (c1.μ l) (dN X.prog X.w (some o) (c1.μ l) xs)) (ItN X.prog X.w (c1.μ l) o) (ex1.trans e1) s1 (List.getElem?_set_self (List.getElem?_eq_some_iff.mp hx).1) (by
            have := src_keys (K := X.K) (ct := ct) (c0 := c1.put (c1.μ l) (dN X.prog X.w (some o) (c1.μ l) xs)) (l := l) (kvs := kvs) (o := o) hl
            rw [hp, hw] at this
            exact this)
          exact g
      · exact p.elim
    · exact p.elim
end
end SL

set_option linter.all false
set_option autoImplicit false
set_option maxRecDepth 100000
set_option Elab.async false
/-! SLSet: set(..) of a list of whole numbers. -/
namespace SL
open PySem PySem.Spec PySem.W PyProof.Rows L2
section
variable {P : Program} {w : World} {A : Around} {E : Value → Shared → Prop} {s : Shared}
/-- a set, just made -/
abbrev nSet (w : World) : Obj := { cls := .type "set", dict := none, data := .set #[] 0 (.fresh 0 0 (!w.params.followText "set-order")) }
/-- what is known once the set at a holds the numbers -/
def Filled (w : World) (s : Shared) (ns : List Int) (r : Value) (t : Shared) : Prop := r = .none ∧ ∃ (g : Heap) (tk c : Nat), t = { s with heap := g, toks := tk } ∧ SetR w g s.heap.objs.size (fun j => decide (j ∈ ns)) c ∧ ∀ b o, s.heap.get? b = some o → g.get? b = some o
theorem fill_list {l : Addr} {its : Array Value} (ns : List Int) (hh : A.handled = none) (hl : s.heap.IsList l its) (hi : IntsAre its.toList ns) (hb : ns.length + 1 < scanBound) :
    codeAny (model P w) A (.call (.builtin "set.__init__") ⟨[.ref s.heap.objs.size, .ref l], []⟩) (wants (Filled w s ns) E) { s with heap := s.heap.push (nSet w) } := by
  have hS : (s.heap.push (nSet w)).get? s.heap.objs.size = some (nSet w) := Heap.get?_push_size _ rfl
  have hT : Shared.TypeIs { s with heap := s.heap.push (nSet w) } (.ref s.heap.objs.size) "set" := ⟨_, hS, rfl⟩
  have sz : its.size = ns.length := by
    have q := IntsAre.length hi
    rwa [Array.length_toList] at q
  refine codeAny_call_builtin F.called_set.init.plain F.entry_set_init (check_set_init_1 hT ?_)
  obtain ⟨⟨oc, od, odt, os⟩, hol, hcl, nl, hdl⟩ := hl
  simp only at hcl hdl
  subst hcl hdl
  have hlS : l < s.heap.objs.size := Heap.lt_size hol
  have hol' := Heap.get?_push_of_some (nSet w) hol
  have hl1 : (s.heap.push (nSet w)).IsList l its := ⟨_, hol', rfl, nl, rfl⟩
  have f1 := F.sub_list_set
  have f2 := F.sub_list_frozenset
  have f3 : (Value.type "list" == Value.type "dict") = false := by decide
  unfold Builtin.«set.__init__» noKeywords Builtin.Frozenset.updateFrom
  generalize hPI : pyIter = PI
  wp_walk
  subst hPI
  have zz : (s.heap.push (nSet w)).objs.size = s.heap.objs.size + 1 := Heap.size_push ..
  have apart : l ≠ (s.heap.push (nSet w)).objs.size := by
    rw [zz]
    exact Nat.ne_of_lt (Nat.lt_succ_of_lt hlS)
  have notin : s.heap.objs.size ∉ [(s.heap.push (nSet w)).objs.size, l] := by
    rw [zz]
    simp only [List.mem_cons, List.not_mem_nil, or_false, not_or]
    exact ⟨Nat.ne_of_lt (Nat.lt_succ_self _), Nat.ne_of_gt hlS⟩
  have vals : ∀ (i : Nat) (v : Value), its[i]? = some v → ∃ k t, ns[i]? = some k ∧ v = .int k t := fun i v hv => by
    have hlt : i < ns.length := by rw [← sz]; exact (Array.getElem?_eq_some_iff.mp hv).1
    obtain ⟨t, e⟩ := PyProof.Rows.IntsAre.int_at hi i v (by rw [Array.getElem?_toList]; exact hv)
    rw [List.getD_eq_getElem?_getD, List.getElem?_eq_getElem hlt, Option.getD_some] at e
    exact ⟨ns[i], t, List.getElem?_eq_getElem hlt, e⟩
  refine wpAny_pyIter_list hl1 (wpAny_bind (wpAny_runValue ?_))
  refine set_update_ints ((Walks.list (by simp [hh]) _ l apart its).toS) s.heap.objs.size notin ns sz hb vals (its.size - 0) 0 _ (by omega) (Nat.zero_le _) ⟨⟨_, Heap.get?_push_size _ rfl, rfl, rfl⟩, hl1.push _⟩
    ⟨0, Nat.le_refl 0, setR_new_at (Heap.get?_push_of_some _ hS)⟩ fun t c m hc R => ?_
  obtain ⟨g, g2, d2, tk, o2⟩ := t
  obtain rfl : g2 = s.gens := m.gens
  obtain rfl : d2 = s.drawn := m.drawn
  obtain rfl : o2 = s.os := m.os
  refine wpAny_pure (wpAny_pure ⟨rfl, g, tk, c, rfl, R, fun b o e => ?_⟩)
  have hlt : b < s.heap.objs.size := Heap.lt_size e
  refine m.heap b o (fun z => ?_) (Heap.get?_push_of_some _ (Heap.get?_push_of_some _ e))
  rw [zz] at z
  simp only [List.mem_cons, List.not_mem_nil, or_false] at z
  rcases z with rfl | rfl
  · exact absurd hlt (Nat.lt_irrefl _)
  · exact absurd hlt (Nat.not_lt_of_lt (Nat.lt_succ_self _))
theorem call_setL {l : Addr} {its : Array Value} (ns : List Int) {Q : Value → Shared → Prop} (hh : A.handled = none) (hl : s.heap.IsList l its) (hi : IntsAre its.toList ns) (hb : ns.length + 1 < scanBound)
    (h : ∀ (g : Heap) (tk c : Nat), SetR w g s.heap.objs.size (fun j => decide (j ∈ ns)) c → (∀ b o, s.heap.get? b = some o → g.get? b = some o) → Q (.ref s.heap.objs.size) { s with heap := g, toks := tk }) : wpAny (model P w) A (call (.type "set") [.ref l]) Q E s := by
  obtain ⟨c, tl, hmro⟩ := F.called_set.mro
  have f1 := F.called_set.made
  have f2 := F.called_set.sub
  have f3 := F.called_set.notType
  have f4 := F.called_set.canCreate
  have f5 := F.typeCall_set_1 (.ref l)
  refine wpAny_call (codeAny_of_tree ?_)
  show wpAny _ _ (callAny (.type "set") _) _ _ _
  refine wpAny_pure ⟨Code.quiet_builtin _ (by decide +kernel), codeAny_builtin F.entry_type_call ?_⟩
  rw [Around.under_plain (weight_type_call_type "set" [.ref l] []) rfl]
  repeat (any_goals (first | assumption | wp_step))
  refine codeAny_mono (code_set_led1 (.ref l) (E := E) (Q₁ := fun v t => v = .ref s.heap.objs.size ∧ t = { s with heap := s.heap.push (nSet w) }) ⟨rfl, rfl⟩) fun r t hr => ?_
  rcases r with e | f
  · exact hr
  · cases f with
    | ret v =>
      obtain ⟨rfl, rfl⟩ := hr
      have hT : Shared.TypeIs { s with heap := s.heap.push (nSet w) } (.ref s.heap.objs.size) "set" := ⟨_, Heap.get?_push_size _ rfl, rfl⟩
      have i1 := F.called_set.init.lookup
      have i2 := F.called_set.init.bind (.ref s.heap.objs.size)
      repeat (any_goals (first | assumption | wp_step))
      refine codeAny_mono (fill_list (E := E) ns (by simp [hh]) hl hi hb) fun r2 t2 hr2 => ?_
      rcases r2 with e | f
      · exact hr2
      · cases f with
        | ret v =>
          obtain ⟨rfl, g, tk, c, rfl, R, k⟩ := hr2
          repeat (any_goals (first | assumption | wp_step))
          exact h _ _ _ R k
        | _ => exact hr2.elim
    | _ => exact hr.elim
end
end SL

set_option linter.all false
set_option autoImplicit false
set_option maxRecDepth 100000
set_option Elab.async false
/-! SLSet2: sorted(set(..)), len(set(..)): by values. -/
namespace SL
open PySem PySem.Spec PySem.W PySem.SeqAt PyProof.Rows L2
/-- the different ones of some numbers -/
def Diff (ns : List Int) (c : Nat) : Prop := ∃ ks : List Int, ks.Nodup ∧ (∀ k, k ∈ ks ↔ k ∈ ns) ∧ ks.length = c
theorem setR_diff {w : World} {h : Heap} {a : Addr} {ns : List Int} {c : Nat} (R : SetR w h a (fun j => decide (j ∈ ns)) c) : Diff ns c := by
  obtain ⟨o, es, ep, t, _, _, _, _, nd, hm, _, _, hn, _⟩ := R
  refine ⟨es.toList.map keyOf, nd, fun k => ?_, by rw [List.length_map, Array.length_toList]; exact hn⟩
  rw [← hm k]
  exact decide_eq_true_iff
def rSetI (K : PySem.W.Frag) (w : World) : List V → L2.Hp → VK → Prop := fun xs H Q => ∃ (l : Addr) (ns : List Int), xs = [.ref l] ∧ (SqL K H l (ns.map V.int) ∨ SqT K H l (ns.map V.int)) ∧ ns.length < 4000 ∧
  ∀ p c, H p = none → Diff ns c → Q (.ref p) (upd H p (SetO w p (fun j => decide (j ∈ ns)) c))
theorem cr_setI {X : L2.Cx} (hc : X.calm = true) : CallR X (.type "set") (rSetI X.K X.w) := by
  intro pins s σ H vs us Q I r t
  obtain ⟨l, ns, rfl, hq, hn, q⟩ := t
  obtain ⟨u, rfl, ru⟩ := Vals.one r
  cases ru
  have hb : ns.length + 1 < scanBound := by unfold scanBound; omega
  have nn : H s.heap.objs.size = none := I.hok.fresh (Nat.le_refl _)
  have fin : ∀ (g : Heap) (tk c : Nat), SetR X.w g s.heap.objs.size (fun j => decide (j ∈ ns)) c → (∀ b o, s.heap.get? b = some o → g.get? b = some o) → EP X pins σ Q (.ref s.heap.objs.size) { s with heap := g, toks := tk } := fun g tk c R k =>
    ⟨.ref s.heap.objs.size, _, I.laid (a := s.heap.objs.size) (o := SetO X.w s.heap.objs.size (fun j => decide (j ∈ ns)) c) (t' := tk) k (Nat.le_refl _) (setO_new R), rfl, q _ c nn (setR_diff R)⟩
  rcases hq with hq | hq
  · obtain ⟨its, rv, pl, _⟩ := I.list hq
    exact call_setL ns (I.ok.hd hc) pl.isList (by simpa using rv.ints) hb fin
  · obtain ⟨its, rv, pl, _⟩ := I.tuple hq
    exact call_set_tupI ns (I.ok.hd hc) (show s.heap.IsTuple l its.toArray from pl) (by simpa using rv.ints) hb fun g tk c R _ k => fin g tk c R k
theorem perm_map_inv {α β : Type} {f : α → β} {vs ws : List β} (p : vs.Perm ws) : ∀ {L : List α}, ws = L.map f → ∃ L1 : List α, L1.Perm L ∧ vs = L1.map f := by
  induction p with
  | nil =>
    intro L e
    cases L with
    | nil => exact ⟨[], .refl _, rfl⟩
    | cons _ _ => cases e
  | cons x _ ih =>
    intro L e
    cases L with
    | nil => cases e
    | cons l L =>
      cases e
      obtain ⟨L1, p1, rfl⟩ := ih rfl
      exact ⟨l :: L1, p1.cons l, rfl⟩
  | swap x y r =>
    intro L e
    cases L with
    | nil => cases e
    | cons l L =>
      cases L with
      | nil => cases e
      | cons l2 L =>
        cases e
        exact ⟨l2 :: l :: L, .swap .., rfl⟩
  | trans _ _ ih1 ih2 =>
    intro L e
    obtain ⟨L2, p2, e2⟩ := ih2 e
    obtain ⟨L1, p1, e1⟩ := ih1 e2
    exact ⟨L1, p1.trans p2, e1⟩
abbrev tPd (t : List Int) : PyData := .tuple (t.map .int)
abbrev refsOf (L : List (Addr × List Int)) : List V := L.map fun p => V.ref p.1
abbrev tupsOf (L : List (Addr × List Int)) : List PyData := L.map fun p => tPd p.2
theorem dp_ints {K : PySem.W.Frag} {H : L2.Hp} : ∀ is : List Int, DpAll K H (is.map V.int) (is.map PyData.int)
  | [] => .nil
  | i :: is => .cons (.int i) (dp_ints is)
theorem dp_tups {K : PySem.W.Frag} {H : L2.Hp} : ∀ {L : List (Addr × List Int)}, (∀ p, p ∈ L → SqT K H p.1 (p.2.map V.int)) → DpAll K H (refsOf L) (tupsOf L)
  | [], _ => .nil
  | p :: L, h => .cons (.tup (h p (List.mem_cons_self ..)) (dp_ints p.2)) (dp_tups fun q hq => h q (List.mem_cons_of_mem _ hq))
theorem alike_tups (a b : List Int) : alikeAll (a.map PyData.int) (b.map PyData.int) = true := by
  induction a generalizing b with
  | nil => cases b <;> simp [alikeAll]
  | cons x a ih => cases b <;> simp [alikeAll, alike, ih]
theorem sortable_tups {L : List (Addr × List Int)} (h : ∀ p, p ∈ L → p.2 ≠ []) : sortable (tupsOf L) = true := by
  have h1 : alikes (tupsOf L) = true := by
    refine List.all_eq_true.mpr fun p hp => List.all_eq_true.mpr fun q hq => ?_
    obtain ⟨a, _, rfl⟩ := List.mem_map.mp hp
    obtain ⟨b, _, rfl⟩ := List.mem_map.mp hq
    rw [alike]
    exact alike_tups a.2 b.2
  have h2 : (tupsOf L).all isTup1 = true := by
    refine List.all_eq_true.mpr fun p hp => ?_
    obtain ⟨a, ha, rfl⟩ := List.mem_map.mp hp
    have := h a ha
    obtain ⟨b, t⟩ := a
    cases t with
    | nil => exact absurd rfl this
    | cons _ _ => rfl
  unfold sortable
  rw [h1, h2]
  rfl
/-- sorted(..) of a set of tuples -/
def rSortS (K : PySem.W.Frag) (P : Program) (w : World) : List V → L2.Hp → VK → Prop := fun vs H Q => ∃ (a : Addr) (L : List (Addr × List Int)), vs = [V.ref a] ∧ H a = some (SetTO P w a L) ∧ (∀ p, p ∈ L → SqT K H p.1 (p.2.map V.int)) ∧ (∀ p, p ∈ L → p.2 ≠ []) ∧
  ∀ (L' : List (Addr × List Int)) (q : Addr), L'.Perm L → (L.map (·.2)).Nodup → H q = none → Q (.ref q) (upd H q (.lst (sortV (refsOf L') (tupsOf L'))))
theorem cr_sortS {X : L2.Cx} (hc : X.calm = true) (hu : X.A.units + 200 < cLine) : CallR X (.builtin "sorted") (rSortS X.K X.prog X.w) := by
  intro pins s σ H vs us Q I r t
  obtain ⟨a, L, rfl, ha, hk, hne, q⟩ := t
  have R0 : SetT0 X.prog X.w s.heap a L := (I.hok a _ ha).1
  obtain ⟨es, ep, tt, R⟩ := R0.full fun p hp => I.isT (hk p hp)
  obtain ⟨u, rfl, ru⟩ := Vals.one r
  cases ru
  obtain ⟨o, ho, hex, hd⟩ := R.ob
  have hfew := R.few
  have hes : es.toList.map (·.2) = L.map fun q => Value.ref q.1 := by
    rw [R.rows]
    unfold L2.rowsOf
    rw [List.map_map]
    rfl
  refine sorted_any fun E' => ?_
  refine collect_set (A := X.A.in1) (I.ok.hd hc) ⟨o, ho, hex.1, hd⟩ R.fits (by rw [R.size]; unfold scanBound; omega) R.tab.ris R.led fun s1 vs k1 hz g1 o1 pm => ?_
  rw [hes] at pm
  obtain ⟨L1, p1, ev⟩ := perm_map_inv pm rfl
  have hk1 : ∀ p, p ∈ L1 → SqT X.K H p.1 (p.2.map V.int) := fun p hp => hk p (p1.mem_iff.mp hp)
  have rv : Vals (refsOf L1) vs := by rw [ev]; exact vals_of_refs L1
  have hl : vs.length = L1.length := by rw [ev]; exact List.length_map ..
  clear ev pm
  obtain ⟨as, rd⟩ := Dp.readsAll I (tupsOf L1) (refsOf L1) _ (dp_tups hk1) rv
  obtain ⟨e1, e2, e3⟩ := each_zip rv ⟨as, rd⟩
  have hlen : L1.length < 64 := by rw [p1.length_eq]; exact hfew
  have hk2 : ∀ b o, s.heap.get? b = some o → (sortingHeap (s1.heap.push (seqObj "list" vs.toArray 0)) s1.heap.objs.size vs).get? b = some o := fun b o e =>
    sortingHeap_old (Nat.ne_of_lt (Heap.lt_size (k1 b o e))) (Heap.get?_push_of_some _ (k1 b o e))
  have e2' := each_of_ds hk2 e2
  have hs1 := sortable_tups fun p hp => hne p (p1.mem_iff.mp hp)
  have hal : AllAlike (((refsOf L1).zip (tupsOf L1)).map (·.2)) := by
    rw [e3]
    unfold sortable at hs1
    rw [Bool.and_eq_true] at hs1
    exact alikes_all hs1.1
  refine ⟨by rw [hl, sizeLine_eq]; omega, dataKind (sortingHeap (s1.heap.push (seqObj "list" vs.toArray 0)) s1.heap.objs.size vs) (((refsOf L1).zip (tupsOf L1)).map (·.2)),
    sortable_of (s := { s1 with heap := sortingHeap (s1.heap.push (seqObj "list" vs.toArray 0)) s1.heap.objs.size vs }) (by rw [e3]; exact hs1) (each_map (R := fun v d => ∃ as, Reads (sortingHeap (s1.heap.push (seqObj "list" vs.toArray 0)) s1.heap.objs.size vs) v d as) (fun b : VP => b.2) e2') fun d hm => ?_, ?_⟩
  · rw [e3] at hm
    obtain ⟨p, _, rfl⟩ := List.mem_map.mp hm
    have : (tPd p.2).depth ≤ 2 := by
      have h0 : ∀ is : List Int, PyData.depthAll (is.map .int) ≤ 1 := fun is => by
        induction is with
        | nil => simp [PyData.depthAll]
        | cons i is ih => rw [List.map_cons, PyData.depthAll]; simp [PyData.depth]; omega
      have := h0 p.2
      rw [PyData.depth]
      omega
    show X.A.units + 1 + 1 + (tPd p.2).depth < cLine
    omega
  · have eo := sortVals_data false e1 e2' hal
    generalize sortVals _ false vs vs = out at eo ⊢
    have vo : Vals (sortV (refsOf L1) (tupsOf L1)) out := vals_each eo
    have hn : H s1.heap.objs.size = none := I.hok.fresh hz
    have hl2 : (sortV (refsOf L1) (tupsOf L1)).length ≤ sizeLine := by
      unfold sortV
      rw [List.length_map, List.length_mergeSort, List.length_zip, List.length_map, sizeLine_eq]
      omega
    obtain ⟨c, hc'⟩ := sortedHeap_at (h := s1.heap.push (seqObj "list" vs.toArray 0)) (a := s1.heap.objs.size) (vs := vs) (n := 0) (out := out.toArray) (Heap.get?_push_size _ rfl)
    have kk : ∀ b o, s.heap.get? b = some o → (sortedHeap (s1.heap.push (seqObj "list" vs.toArray 0)) s1.heap.objs.size vs out.toArray).get? b = some o := fun b o e =>
      (sortedHeap_old (Nat.ne_of_lt (Heap.lt_size (k1 b o e))) (by rw [size_push']; exact Nat.lt_succ_of_lt (Heap.lt_size (k1 b o e)))).trans (Heap.get?_push_of_some _ (k1 b o e))
    refine ⟨.ref s1.heap.objs.size, _, I.call' (ch := []) (H' := upd H s1.heap.objs.size (.lst (sortV (refsOf L1) (tupsOf L1)))) o1 (Un.laid kk hz hn) (I.hok.laid kk hz ⟨hl2, out, c, vo, hc'⟩) (by show AllBare s1.gens; rw [g1]; exact I.bare) (fun _ z => nomatch z), rfl, q L1 _ p1 R.nd hn⟩
end SL

set_option linter.all false
set_option autoImplicit false
set_option maxRecDepth 100000
set_option Elab.async false
/-! SLSet3: sorted(set(..)), len(set(..)): by trees. -/
namespace SL
open PySem PySem.Spec PySem.W PyProof.Rows L2
/-! ### plain -/
theorem nodup_sub {α : Type} [DecidableEq α] : ∀ (l D : List α), l.Nodup → (∀ x, x ∈ l → x ∈ D) → l.length ≤ D.length
  | [], _, _, _ => Nat.zero_le _
  | x :: l, D, nd, h => by
    rw [List.nodup_cons] at nd
    have hx := h x (List.mem_cons_self ..)
    have ih := nodup_sub l (D.erase x) nd.2 fun y hy => (List.mem_erase_of_ne (fun e => nd.1 (by rw [← e]; exact hy))).mpr (h y (List.mem_cons_of_mem _ hy))
    have := List.length_erase_of_mem hx
    have := List.length_pos_of_mem hx
    rw [List.length_cons]
    omega
def leN (a b : Int) : Bool := decide (a ≤ b)
/-- the different ones, ascending -/
theorem diff_sorted {ns : List Int} {c : Nat} (d : Diff ns c) : ∃ us : List Int, us.Pairwise (· < ·) ∧ (∀ k, k ∈ us ↔ k ∈ ns) ∧ us.length = c := by
  obtain ⟨ks, nd, hm, hl⟩ := d
  refine ⟨ks.mergeSort leN, ?_, fun k => by rw [List.mem_mergeSort]; exact hm k, by rw [List.length_mergeSort]; exact hl⟩
  have h1 := List.pairwise_mergeSort (le := leN) (fun a b c h k => by unfold leN at *; simp at *; omega) (fun a b => by unfold leN; simp; omega) ks
  have h2 : (ks.mergeSort leN).Nodup := (List.mergeSort_perm ks leN).nodup_iff.mpr nd
  refine (h1.and (List.nodup_iff_pairwise_ne.mp h2)).imp fun {a b} h => ?_
  have h4 : a ≤ b := of_decide_eq_true h.1
  have h5 : a ≠ b := h.2
  omega
def leTs (a b : List Int) : Bool := !decide (b < a)
theorem leTs_iff {a b : List Int} : leTs a b = true ↔ a ≤ b := by
  unfold leTs
  rw [Bool.not_eq_true', decide_eq_false_iff_not]
  exact Iff.rfl
theorem sort_tups {α : Type} (f : α → List Int) (L : List α) : ∃ L' : List α, L'.Perm L ∧ (L'.map f).Pairwise (· ≤ ·) ∧ sortBy (L.map fun p => tPd (f p)) (L.map fun p => tI (f p)) = L'.map fun p => tI (f p) := by
  refine ⟨L.mergeSort fun a b => leTs (f a) (f b), List.mergeSort_perm .., ?_, ?_⟩
  · rw [List.pairwise_map]
    have := List.pairwise_mergeSort (le := fun a b => leTs (f a) (f b)) (fun a b c h k => leTs_iff.mpr (List.le_trans (leTs_iff.mp h) (leTs_iff.mp k))) (fun a b => by rw [Bool.or_eq_true, leTs_iff, leTs_iff]; exact List.le_total ..) L
    exact this.imp fun {a b} h => leTs_iff.mp h
  · unfold sortBy
    have e : (L.map fun p => tPd (f p)).zip (L.map fun p => tI (f p)) = L.map fun p => (tPd (f p), tI (f p)) := by
      induction L with
      | nil => rfl
      | cons t ts ih => rw [List.map_cons, List.map_cons, List.zip_cons_cons, ih]; rfl
    rw [e, ← List.map_mergeSort (r := fun a b => leTs (f a) (f b)) (s := fun a b : PyData × D => !dataLt b.1 a.1) (f := fun p => (tPd (f p), tI (f p))) (fun a _ b _ => by
      show leTs (f a) (f b) = !dataLt (tPd (f b)) (tPd (f a))
      unfold leTs tPd
      rw [dataLt_tuple]
      exact congrArg _ (dataLt_ints (f b) (f a)).symm), List.map_map]
    rfl
/-- len(set) -/
def rLenS (w : World) : List V → L2.Hp → VK → Prop := fun vs H Q => ∃ (a : Addr) (S : Int → Bool) (n : Nat), vs = [V.ref a] ∧ H a = some (SetO w a S n) ∧ n < 4000 ∧ Q (.int n) H
theorem cr_lenS {X : L2.Cx} : CallR X (.builtin "len") (rLenS X.w) := by
  intro pins s σ H vs us Q I r h
  obtain ⟨a, S, n, rfl, ha, hn4, q⟩ := h
  obtain ⟨u, rfl, ru⟩ := Vals.one r
  cases ru
  obtain ⟨o, es, ep, t, ho, hex, hd, _, _, _, _, hf, hn, _⟩ := setO_get I ha
  exact call_len_set ho hex hd hf (by rw [hn]; omega) ⟨.int n, H, I.tok _, ⟨_, by rw [hn]⟩, q⟩
theorem its_of {K : PySem.W.Frag} {c : Bs} : ∀ {xs : List D} {ts : List (List Int)} {vs : List V}, itsOf xs = some ts → DRs K c xs vs → ∃ ks : List (Addr × List Int), vs = refsOf ks ∧ ks.map (·.2) = ts ∧ ∀ p, p ∈ ks → SqT K c.H p.1 (p.2.map V.int)
  | [], ts, vs, e, r => by
    cases e
    rw [show vs = [] from r]
    exact ⟨[], rfl, rfl, fun p hp => by cases hp⟩
  | x :: xs, ts, vs, e, r => by
    obtain ⟨v, w, rfl, r1, r2⟩ := r
    cases x with
    | tup ys =>
      rw [itsOf] at e
      split at e
      · rename_i t us h1 h2
        cases e
        obtain ⟨a, zs, rfl, q, rs⟩ := r1
        obtain ⟨ks, rfl, rfl, hk⟩ := its_of h2 r2
        have ez := ints_of h1 rs
        subst ez
        exact ⟨(a, t) :: ks, rfl, rfl, fun p hp => (List.mem_cons.mp hp).elim (fun e => by rw [e]; exact q) (hk p)⟩
      · cases e
    | _ => cases e
section
variable {X : L2.Cx} {ct : Ct} {b0 : Bs} {a : Expr} {pos q2 : Pos}
/-- the list at hand, at the layer's heap -/
theorem items_there {c : Bs} {h : SL.Hp} {tv : TV} {v : V} {xs : List D} (sr : SRel X.K ct c h) (tr : TVR X.K c tv v) (hw : items h tv = some xs) : ∃ p vs, v = .ref p ∧ (SqL X.K c.H p vs ∨ SqT X.K c.H p vs) ∧ DRs X.K c xs vs ∧ (tvL h tv = some xs → SqL X.K c.H p vs) := by
  unfold items at hw
  split at hw
  · cases hw
    obtain ⟨p, vs, rfl, q, rs, _⟩ := tr
    exact ⟨p, vs, rfl, .inl (SqL.of q), rs, fun _ => SqL.of q⟩
  · cases hw
    obtain ⟨p, vs, rfl, q, rs⟩ := tr
    exact ⟨p, vs, rfl, .inr q, rs, fun z => by cases z⟩
  · split at hw
    · rename_i hx
      cases hw
      obtain ⟨hl, rfl⟩ := tr
      obtain ⟨vs, q, rs⟩ := sr.obj _ _ hx
      exact ⟨_, vs, rfl, .inl (SqL.of q), rs, fun _ => SqL.of q⟩
    · rename_i hx
      cases hw
      obtain ⟨hl, rfl⟩ := tr
      obtain ⟨vs, q, rs⟩ := sr.obj _ _ hx
      exact ⟨_, vs, rfl, .inl (SqL.ofRd q), rs, fun _ => SqL.ofRd q⟩
    · cases hw
  · cases hw
theorem DRs.ints {K : PySem.W.Frag} {c : Bs} : ∀ ns : List Int, DRs K c (ns.map D.int) (ns.map V.int)
  | [] => rfl
  | n :: ns => ⟨_, _, rfl, rfl, DRs.ints ns⟩
theorem DRs.tups {K : PySem.W.Frag} {c : Bs} : ∀ {L : List (Addr × List Int)}, (∀ p, p ∈ L → SqT K c.H p.1 (p.2.map V.int)) → DRs K c (L.map fun p => tI p.2) (refsOf L)
  | [], _ => rfl
  | p :: L, h => ⟨_, _, rfl, ⟨p.1, _, rfl, h p (List.mem_cons_self ..), DRs.ints p.2⟩, DRs.tups fun q hq => h q (List.mem_cons_of_mem _ hq)⟩
theorem e_lset {ta : FT} {p p2 : Pos} {x y : Str} (hx : x = "len") (hy : y = "set") (hc : X.calm = true) (hg : Gl X x) (hm : X.mg x = none) (hg2 : Gl X y) (hm2 : X.mg y = none) (ha : PE X a (LT X.K ct b0 ta)) (hs : starEach [a] X.env = (false, eval a X.env) :: starEach [] X.env) :
    PE X (.Call (.Name x p) [.Call (.Name y p2) [a] [] q2] [] pos) (LT X.K ct b0 fun s h Q => ta s h fun x h1 => biLset h1 [x] Q) := by
  subst hx hy
  refine peMono (pe_callB cr_lenS hg hm (by decide +kernel) (pa_cons (pe_callTy (cr_setI hc) hg2 hm2 (by decide +kernel) (pa_cons ha pa_nil hs) (by decide) (by decide) hs rfl) pa_nil rfl) (by decide) (by decide) rfl rfl) fun σ H Q x => LT.bind x fun c0 c h s tv P v ex0 ex sr st tr tf k post => ?_
  simp only [biLset] at k
  split at k
  · rename_i xs hw
    split at k
    · rename_i is hi
      obtain ⟨hn, k⟩ := k
      obtain ⟨l, vs, rfl, hq, rs, _⟩ := items_there sr tr hw
      have ev := ints_of hi rs
      subst ev
      refine ⟨l, is, rfl, hq, hn, fun p c1 hp d => ⟨p, _, c1, rfl, upd_same, ?_, ?_⟩⟩
      · obtain ⟨ks, nd, hm, rfl⟩ := d
        have := nodup_sub ks is nd fun k hk => (hm k).mp hk
        omega
      · obtain ⟨us, pw, mem, hl⟩ := diff_sorted d
        have := k us pw mem
        rw [hl] at this
        have e1 : Ex X.K c (c.put p (SetO X.w p (fun j => decide (j ∈ is)) c1)) := Ex.new hp
        exact post _ h this (c.put p (SetO X.w p (fun j => decide (j ∈ is)) c1)) (.int c1) e1 (sr.new hp) rfl trivial
    · exact k.elim
  · exact k.elim
theorem e_sset {ta : FT} {p p2 : Pos} {x y : Str} (hx : x = "sorted") (hy : y = "set") (hc : X.calm = true) (hu : X.A.units + 200 < cLine) (hg : Gl X x) (hm : X.mg x = none) (hg2 : Gl X y) (hm2 : X.mg y = none) (ha : PE X a (LT X.K ct b0 ta)) (hs : starEach [a] X.env = (false, eval a X.env) :: starEach [] X.env) :
    PE X (.Call (.Name x p) [.Call (.Name y p2) [a] [] q2] [] pos) (LT X.K ct b0 fun s h Q => ta s h fun x h1 => biSset h1 [x] Q) := by
  subst hx hy
  refine peMono (pe_callB (SL.CallR.or (cr_sortedSet hc) (cr_sortS hc hu)) hg hm (by decide +kernel) (pa_cons (pe_callTy (SL.CallR.or (cr_setI hc) (cr_setOfT hc (by omega))) hg2 hm2 (by decide +kernel) (pa_cons ha pa_nil hs) (by decide) (by decide) hs rfl) pa_nil rfl) (by decide) (by decide) rfl rfl) fun σ H Q x => LT.bind x fun c0 c h s tv P v ex0 ex sr st tr tf k post => ?_
  simp only [biSset] at k
  split at k
  · rename_i xs hw
    obtain ⟨l, vs, rfl, hq, rs, hL⟩ := items_there sr tr hw
    split at k
    · rename_i is hi
      obtain ⟨hn, ⟨ds, hd, hds⟩, k⟩ := k
      have ev := ints_of hi rs
      subst ev
      refine .inl ⟨l, is, rfl, hq, hn, fun p c1 hp d => .inl ⟨p, _, c1, rfl, upd_same, ?_, fun ns q pw mem hl hq => ?_⟩⟩
      · obtain ⟨ks, nd, hm, rfl⟩ := d
        have := nodup_sub ks ds nd fun k hk => hds k ((hm k).mp hk)
        omega
      · have e1 : Ex X.K c (c.put p (SetO X.w p (fun j => decide (j ∈ is)) c1)) := Ex.new hp
        exact done_list (c := c.put p (SetO X.w p (fun j => decide (j ∈ is)) c1)) (ex.trans e1) (sr.new hp) (DRs.ints ns) hq (k ns pw fun j => (mem j).trans decide_eq_true_iff) fun tv h' p' c' w' ex' sr' tr' tf' => post tv h' p' c' w' (e1.trans ex') sr' tr' tf'
    · split at k
      · rename_i xs' hx'
        have exs : xs' = xs := by
          unfold tvL at hx'
          split at hx'
          · cases hx'; cases hw; rfl
          · rw [hw] at hx'; cases hx'; rfl
          · cases hx'
        subst exs
        split at k
        · rename_i ts ht
          obtain ⟨hn, hne, k⟩ := k
          obtain ⟨ks, rfl, rfl, hk⟩ := its_of ht rs
          rw [List.length_map] at hn
          refine .inr ⟨l, ks, rfl, hL hx', hk, hn, fun p L hp hsub hall => .inr ⟨p, L, rfl, upd_same, fun z hz => ?_, fun z hz => hne _ (List.mem_map_of_mem (hsub z hz)), fun L' q pm nd hq => ?_⟩⟩
          · exact (Ex.new (K := X.K) (o := SetTO X.prog X.w p L) hp).tup _ _ (hk z (hsub z hz))
          · have e1 : Ex X.K c (c.put p (SetTO X.prog X.w p L)) := Ex.new hp
            obtain ⟨L2, p2, pw, es⟩ := sort_tups (fun z : Addr × List Int => z.2) L'
            have dr := DRs_sort (ps := tupsOf L') (DRs.tups (K := X.K) (c := c.put p (SetTO X.prog X.w p L)) (L := L') fun z hz => e1.tup _ _ (hk z (hsub z (pm.mem_iff.mp hz)))) (by rw [List.length_map, List.length_map])
            rw [es] at dr
            refine done_list (c := c.put p (SetTO X.prog X.w p L)) (ex.trans e1) (sr.new hp) dr hq ?_ fun tv h' p' c' w' ex' sr' tr' tf' => post tv h' p' c' w' (e1.trans ex') sr' tr' tf'
            have em : (L2.map fun z => tI z.2) = (L2.map (·.2)).map tI := by rw [List.map_map]; rfl
            rw [em]
            refine k (L2.map (·.2)) (((p2.trans pm).map (·.2)).nodup_iff.mpr nd) (fun t => ?_) pw
            rw [((p2.trans pm).map (·.2)).mem_iff]
            constructor
            · intro z
              obtain ⟨y, hy, rfl⟩ := List.mem_map.mp z
              exact List.mem_map_of_mem (hsub y hy)
            · intro z
              obtain ⟨y, hy, rfl⟩ := List.mem_map.mp z
              exact hall y hy
        · exact k.elim
      · exact k.elim
  · exact k.elim
end
end SL

set_option linter.all false
set_option autoImplicit false
set_option maxRecDepth 100000
set_option Elab.async false
/-! SLDcm: {k: v for ..}. -/
namespace SL
open PySem PySem.Spec PyProof.Rows L2
section
variable {X : L2.Cx} {ct : Ct} {pins : List (Addr × Obj)} {σ : L2.St} {s : Shared} {c : Bs} {kvs : List (D × D)} {k x : D} {y v : V} {u w : Value} {D0 : Addr} {E : Value → Shared → Prop}
/-- an entry of a dict that a comprehension makes -/
theorem dic_dset {Q : Unit → Shared → Prop} (hp : ct.pr = X.prog) (hw : ct.w = X.w) (hu : X.A.units + 200 < cLine) (I : L2.Inv X pins σ c.H s) (o : ORd X.K ct c D0 kvs) (f : fitK kvs k = true) (hz : kvs.length < sz) (dr : DR X.K c k y) (ry : RelV y u) (dx : DR X.K c x v) (rx : RelV v w)
    (q : ∀ (o' : HO) s', (∀ c' : Bs, (∀ d v, DR X.K c d v → DR X.K c' d v) → (∀ ds vs, DRs X.K c ds vs → DRs X.K c' ds vs) → c'.H D0 = some o' → ORd X.K ct c' D0 (kput kvs k x)) → NoT o' → L2.Inv X pins σ (upd c.H D0 o') s' → Q () s') : wpAny (model X.prog X.w) X.A (dictSet D0 u w) Q E s := by
  have hsz : sz = sizeLine := by decide
  have rm : (nKind X).room X.A := by show X.A.units + 8 < cLine; omega
  have grown : ∀ {xs : List KRow}, RowsD X.K c (kput kvs k x) xs → ∀ c' : Bs, (∀ d v, DR X.K c d v → DR X.K c' d v) → (∀ ds vs, DRs X.K c ds vs → DRs X.K c' ds vs) → c'.H D0 = some (dN X.prog X.w none D0 xs) → ORd X.K ct c' D0 (kput kvs k x) := fun R c' _ m2 e' => by
    refine .inr ⟨none, _, by rw [hp, hw]; exact e', m2 _ _ R.ks, m2 _ _ R.vs, R.ke, R.tk, ?_⟩
    cases kvs with
    | nil => simp [kput]
    | cons p r => simp only [kput]; split <;> simp
  have nt : ∀ xs : List KRow, NoT (dN X.prog X.w none D0 xs) := fun _ => ⟨fun _ z => (by cases z), fun _ _ z => (by cases z)⟩
  rcases fit_cases o f with ⟨hk, ks, e, r1, r2⟩ | ⟨hk, ⟨fz, xs, e, r⟩ | ⟨rfl, e⟩⟩
  · have ey := atom_kV hk dr
    subst ey
    obtain ⟨_, _, vs, rel, dd⟩ := dk_of I.hok e
    have nd : (ks.map (·.1)).Nodup := by
      rw [rel.keys]
      obtain ⟨_, _, _, _, _, _, _, _, n⟩ := dd
      exact n
    have hl : ks.length < sizeLine := by
      have := r2.length
      rw [List.length_map, List.length_map] at this
      rw [this, ← hsz]
      exact hz
    obtain ⟨a1, a2⟩ := atoms_put hk dx nd r1 r2
    exact d_dictSet I e hl ry rx fun s' I' => q _ s' (fun c' m1 m2 e' => .inl ⟨_, e', m2 _ _ a1, m2 _ _ a2⟩) ⟨fun _ z => (by cases z), fun _ _ z => (by cases z)⟩ I'
  · rw [hp, hw] at e
    obtain ⟨h1, h2, ys, p, D⟩ := dN_raw I e r
    obtain ⟨b, rfl, rfl⟩ := tup_ref hk dr ry
    have hl : xs.length < sizeLine := by
      have := r.vs.length
      rw [List.length_map, List.length_map] at this
      rw [this, ← hsz]
      exact hz
    have hy : ys.length ≤ sizeLine := by rw [← Paired.length p]; exact h2
    have nd : (ys.map (·.1)).Nodup := by
      obtain ⟨_, _, _, _, _, _, _, _, n⟩ := D
      exact n
    have hl2 : (rput xs (nk k) b v).length ≤ sizeLine := by have := rput_len (k := nk k) (b := b) (v := v) xs; omega
    refine wpAny_dictSet_heap (hsz := hy) rm (key_is I hk dr) D fun h' D' hs => ?_
    obtain ⟨o', es, ep, g1, g2⟩ := D'
    exact q _ _ (grown (rput_rows hk dr dx r)) (nt _) (d_write I (by rw [e]; exact True.intro) hs ⟨o', g1⟩ (dN_new h1 hl2 (rput_stored rx p nd) ⟨o', es, ep, g1, g2⟩))
  · obtain ⟨h1, D⟩ := empty_raw I e
    obtain ⟨b, rfl, rfl⟩ := tup_ref hk dr ry
    refine wpAny_dictSet_heap (hsz := Nat.zero_le _) rm (key_is I hk dr) D fun h' D' hs => ?_
    have hs1 : (storedH ([] : List YRow) (nk k) b w) = [(nk k, b, w)] := rfl
    rw [hs1] at D'
    obtain ⟨o', es, ep, g1, g2⟩ := D'
    have R : RowsD X.K c (kput [] k x) [(nk k, b, v)] := RowsD.mk' (p := (k, x)) (x := (nk k, b, v)) dr dx rfl hk .nil
    exact q _ _ (grown R) (nt _) (d_write I (by rw [e]; exact True.intro) hs ⟨o', g1⟩ (dN_new h1 (by show 1 ≤ sizeLine; rw [← hsz]; decide) (.cons ⟨rfl, rfl, rx⟩ .nil) ⟨o', es, ep, g1, g2⟩))
end
end SL

set_option linter.all false
set_option autoImplicit false
set_option maxRecDepth 100000
set_option Elab.async false
/-! SLDcm2: the loop of a dict comprehension, its keys of either kind. -/
namespace SL
open PySem PySem.Spec PyProof.Rows L2
/-- one more entry -/
def Puts (K : PySem.W.Frag) (ct : Ct) (d0 : Addr) (y z : V) (H : L2.Hp) (Nx : L2.Hp → Prop) : Prop := ∃ (c : Bs) (kvs : List (D × D)) (k d : D), c.H = H ∧ ORd K ct c d0 kvs ∧ fitK kvs k = true ∧ kvs.length < sz ∧ DR K c k y ∧ DR K c d z ∧
  ∀ o', (∀ c' : Bs, (∀ d v, DR K c d v → DR K c' d v) → (∀ ds vs, DRs K c ds vs → DRs K c' ds vs) → c'.H d0 = some o' → ORd K ct c' d0 (kput kvs k d)) → NoT o' → Nx (upd H d0 o')
/-- {k: v for tg in iter}: d0 the new dict -/
def tDcN (K : PySem.W.Frag) (ct : Ct) (wi : TI) (g : TG) (tk tv : TE) (own : List Nat) : TE := fun σ H Q => wi σ H fun J H1 => ∀ d0, H1 d0 = none → ∃ W : Nat → Nat → L2.Hp → Prop, (∃ m, W 0 m (upd H1 d0 (.dK []))) ∧ ∀ i m H, W i m H →
  (J.stop i H ∧ Q (.ref d0) H) ∨ (J.go i H ∧ ∃ Nx : L2.Hp → Prop, (∀ H', Nx H' → ∃ m', m' < m ∧ W (i + 1) m' H') ∧ ∀ x H', J.yld i H x H' → g x (L2.wipe σ own) H' fun σ2 H2 => L2.wipe σ2 own = L2.wipe σ own ∧ tk σ2 H2 fun y H3 => tv σ2 H3 fun z H4 => Puts K ct d0 y z H4 Nx)
section
variable {X : L2.Cx} {ct : Ct}
theorem dcN_core {pins : List (Addr × Obj)} {s : Shared} {σ : L2.St} {H : L2.Hp} {Q : VK} {kx vx tg iter : Expr} {scope : Scope} {own : List (Str × Nat)} {pos pos2 : Pos} {wi : TI} {g : TG} {tk tv : TE} {use : Option (Value → Sem Unit)} {Qf : Value → Shared → Prop} (hp : ct.pr = X.prog) (hw : ct.w = X.w) (hu : X.A.units + 200 < cLine) (hc : X.calm = true) (hN : X.N.Nodup) (hi : PI X tg iter wi) (ok : BlkOk X.N X.env.scope scope own)
    (hg : ∀ (s : Shared) (H : L2.Hp) (C : Addr) (cl : List (Str × Addr)) (fp : List Addr), PG (X.blk s H scope (compEnvC scope cl C X.env) fp) tg g)
    (hk : ∀ (s : Shared) (H : L2.Hp) (C : Addr) (cl : List (Str × Addr)) (fp : List Addr), PE (X.blk s H scope (compEnvC scope cl C X.env) fp) kx tk)
    (hv : ∀ (s : Shared) (H : L2.Hp) (C : Addr) (cl : List (Str × Addr)) (fp : List Addr), PE (X.blk s H scope (compEnvC scope cl C X.env) fp) vx tv) (hs : ∀ x, foldedSetIterable iter X.env x = pure x)
    (I : L2.Inv X pins σ H s) (t : tDcN X.K ct wi g tk tv (own.map (·.2)) σ H Q)
    (last : ∀ d0 C t6 m H', L2.Inv X pins σ H' t6 → Q (.ref d0) H' → t6.heap.Ns C m → FpOk X pins H' C → compPost (model X.prog X.w) X.A X.xe use Qf (.ref d0) C (.ok .next) t6) :
    wpAny (model X.prog X.w) X.A (comprehension (.DictComp kx vx [⟨tg, iter, [], 0⟩] scope pos) scope X.env pos2 newDict false (eval iter X.env) use) Qf X.xe s := by
  have hfree : ∀ y ∈ scope.names, y.2 = .free → ∃ c, X.env.cells.lookup y.1 = some c := fun y hy e => (ok.free y hy e).elim (fun z => I.ok.has _ (.inl z)) fun z => I.ok.has _ (.inr z)
  refine wpAny_comprehension_free (use := use) rfl hs (closure_ok hfree) ok.kind (fun y hy e => by rw [ok.uniq y hy, e]) (thn (hi.run pins s σ H _ I t) fun xv s1 hx => thn hx fun itv s2 ⟨it, fp, tn, J, H2, e, I2, T, st2, f2, q⟩ => ?_)
  subst e
  refine wpAny_newObj_type (newEnv_comp ?_)
  generalize hD : s2.heap.objs.size = d0
  have nD : H2 d0 = none := I2.hok.fresh (Nat.le_of_eq hD)
  obtain ⟨W, ⟨m0, w0⟩, turn⟩ := q d0 nD
  generalize e3 : ({ s2 with heap := s2.heap.push { cls := .type "dict", data := .dict #[] } } : Shared) = s3
  have hp3 : s3.heap = s2.heap.push { cls := .type "dict", data := .dict #[] } := by rw [← e3]
  have up3 : ∀ b o, s2.heap.get? b = some o → s3.heap.get? b = some o := fun b o e => by rw [hp3]; exact Heap.get?_push_of_some _ e
  have I3 : L2.Inv X pins σ (upd H2 d0 (.dK [])) s3 := by
    rw [← e3, ← hD]
    exact I2.laid (t' := s2.toks) (fun b o e => Heap.get?_push_of_some _ e) (Nat.le_refl _) (dk_empty s2.heap I2.big)
  have young : ∀ b, b ∈ fp → b < d0 := fun b hb => by
    obtain ⟨o, e, _⟩ := T.obj _ _ st2 b hb
    rw [← hD]
    exact Heap.lt_size e
  have f3 : ∀ b ∈ fp, FpOk X pins (upd H2 d0 (.dK [])) b ∧ b < s3.heap.objs.size := fun b hb =>
    ⟨⟨by rw [upd_ne (Nat.ne_of_lt (young b hb))]; exact (f2 b hb).1, (f2 b hb).2⟩, by rw [hp3, Heap.size_push, hD]; exact Nat.lt_succ_of_lt (young b hb)⟩
  have st3 : tn 0 s3.heap := T.keep _ _ _ st2 fun b _ => up3 b
  have I4 := block_start I3 ok hN f3
  let C := s3.heap.objs.size
  let cl := cellsFrom (s3.heap.objs.size + 1) scope.names (cloFrom X.env.cells scope.names [])
  have pg := hg s3 (upd H2 d0 (.dK [])) C cl fp
  have pk := hk s3 (upd H2 d0 (.dK [])) C cl fp
  have pv := hv s3 (upd H2 d0 (.dK [])) C cl fp
  have clean : ∀ b ∈ fp, (upd H2 d0 (.dK [])) b = none := fun b hb => (f3 b hb).1.1
  show codeAny _ _ (.compStart (.DictComp kx vx [⟨tg, iter, [], 0⟩] scope pos) 0 (.ref it) (.ref d0) (compEnvC scope cl C X.env)) _ { s3 with heap := pushCells (s3.heap.push { cls := .type "dict", data := .dict #[] }) scope.names }
  have cL : (compEnvC scope cl C X.env).locals = C := rfl
  generalize hce : compEnvC scope cl C X.env = ce at pg pk pv cL ⊢
  have I4' : L2.Inv (X.blk s3 (upd H2 d0 (.dK [])) scope ce fp) [] (L2.wipe σ (own.map (·.2))) (upd H2 d0 (.dK [])) { s3 with heap := pushCells (s3.heap.push { cls := .type "dict", data := .dict #[] }) scope.names } := by
    rw [← hce]
    exact I4
  clear I4
  generalize hH3 : upd H2 d0 (.dK []) = H3 at I3 I4' pg pk pv w0 clean f3
  generalize e4 : ({ s3 with heap := pushCells (s3.heap.push { cls := .type "dict", data := .dict #[] }) scope.names } : Shared) = s4 at I4' ⊢
  have st4 : tn 0 s4.heap := T.keep _ _ _ st3 fun b _ o e => by rw [← e4]; exact pushCells_keeps _ _ _ _ (Heap.get?_push_of_some _ e)
  have still : ∀ {σ' : L2.St} {H' : L2.Hp} {s' : Shared}, L2.Inv (X.blk s3 H3 scope ce fp) [] σ' H' s' → (∀ b ∈ fp, H' b = none) → ∀ b ∈ fp, FpOk (X.blk s3 H3 scope ce fp) [] H' b := fun {σ' H' s'} J' hn b hb =>
    ⟨hn b hb, (J'.ok.exf b hb).1, J'.ok.exfs b hb, .inl hb, fun x c e => (J'.ok.exf b hb).2 x c e, fun p hp => absurd (show p ∈ ([] : List (Addr × Obj)) ++ [] from hp) (by simp)⟩
  have loop : codeAny (model X.prog X.w) X.A (.compLoop (.DictComp kx vx [⟨tg, iter, [], 0⟩] scope pos) 0 (.ref it) (.ref d0) ce) (compPost (model X.prog X.w) X.A X.xe use Qf (.ref d0) C) s4 := by
    refine compLoop_anyD (fun n t => ∃ i H', L2.Inv (X.blk s3 H3 scope ce fp) [] (L2.wipe σ (own.map (·.2))) H' t ∧ tn i t.heap ∧ (∀ b ∈ fp, H' b = none) ∧ W i n H') ?_ m0 ⟨0, H3, I4', st4, clean, w0⟩
    rintro n t5 ⟨i, H5, J5, st5, n5, w5⟩
    rcases turn i n H5 w5 with ⟨stp, res⟩ | ⟨go, Nx, hNx, step⟩
    · refine thnF (T.done (X.blk s3 H3 scope ce fp) rfl rfl rfl hc i [] t5 _ H5 (fun _ _ => False) J5 (still J5 n5) st5 stp) fun r t6 ⟨hr, J6⟩ => ?_
      subst hr
      have I7 : L2.Inv X pins σ H5 t6 := I3.call' (ch := fp) J6.os J6.base J6.hok J6.bare fun b hb => let z := (f3 b hb).1; ⟨z.2.2.2.1, z.2.1, z.2.2.2.2.1, z.2.2.2.2.2⟩
      have nC : H5 C = none := by
        have z : H5 ce.locals = none := J6.free
        rwa [cL] at z
      obtain ⟨m, hn, _⟩ := J6.loc
      have hn2 : t6.heap.Ns C m := by
        have z : t6.heap.Ns ce.locals m := hn
        rwa [cL] at z
      exact last d0 C t6 m H5 I7 res hn2 (I3.fpOk (Nat.le_refl _) nC)
    · refine thnF (T.item (X.blk s3 H3 scope ce fp) rfl rfl rfl hc i [] t5 _ H5 (fun _ _ => False) J5 (still J5 n5) st5 go) fun r t6 ⟨u, hr, h6⟩ => ?_
      subst hr
      refine thnF h6 fun _ t7 ⟨x, H7, J7, r7, y7, st7, n7⟩ => ?_
      have J7' := J7.pinned (still J7 n7) (T.obj _ _ st7)
      refine thnF (pg.run _ t7 _ H7 x u _ J7' r7 (step x H7 y7)) fun _ t8 ⟨σ8, H8, J8, hw8, q8⟩ => ?_
      have fin : ∀ {t' : Shared} {H' : L2.Hp}, L2.Inv (X.blk s3 H3 scope ce fp) ([] ++ pinsAt fp t7.heap) σ8 H' t' → Nx H' → ∃ m, m < n ∧ ∃ i H', L2.Inv (X.blk s3 H3 scope ce fp) [] (L2.wipe σ (own.map (·.2))) H' t' ∧ tn i t'.heap ∧ (∀ b ∈ fp, H' b = none) ∧ W i m H' := fun {t' H'} J' nx => by
        obtain ⟨m', hm, w'⟩ := hNx H' nx
        have kept : ∀ b ∈ fp, ∀ o, t7.heap.get? b = some o → t'.heap.get? b = some o ∧ H' b = none := fun b hb o e =>
          let z := J'.pin (b, o) (List.mem_append_right _ (List.mem_append_right _ (mem_pinsAt hb e)))
          ⟨z.1, z.2.1⟩
        refine ⟨m', hm, i + 1, H', (J'.unpinned (pins := [])).weak (by rw [← hw8, wipe_length]) (fun j v e => ?_), T.keep _ _ _ st7 fun b hb o e => (kept b hb o e).1, fun b hb => ?_, w'⟩
        · rw [← hw8] at e
          exact (wipe_some e).1
        · obtain ⟨o, e, _⟩ := T.obj _ _ st7 b hb
          exact (kept b hb o e).2
      refine wpAny_pure ?_
      rw [if_pos rfl]
      refine thnF (pk.run _ t8 σ8 H8 _ J8 q8) fun z1 t9 ⟨y1, H9, J9, r9, q9⟩ => ?_
      refine thnF (pv.run _ t9 σ8 H9 _ J9 q9) fun z2 t10 ⟨y2, H10, J10, r10, c, kvs, k, d, ec, o, f, hz, dk, dd, nx⟩ => ?_
      subst ec
      exact dic_dset (X := X.blk s3 H3 scope ce fp) hp hw hu J10 o f hz dk r9 dd r10 fun o' t11 ho nt J11 => fin J11 (nx o' ho nt)
  exact codeAny_compStart_dict loop (T.self X.A 0 _ _ _ st4 loop)
theorem pe_dcN {kx vx tg iter : Expr} {scope : Scope} {own : List (Str × Nat)} {pos : Pos} {wi : TI} {g : TG} {tk tv : TE} (hp : ct.pr = X.prog) (hw : ct.w = X.w) (hu : X.A.units + 200 < cLine) (hc : X.calm = true) (hN : X.N.Nodup) (hi : PI X tg iter wi) (ok : BlkOk X.N X.env.scope scope own)
    (hg : ∀ (s : Shared) (H : L2.Hp) (C : Addr) (cl : List (Str × Addr)) (fp : List Addr), PG (X.blk s H scope (compEnvC scope cl C X.env) fp) tg g)
    (hk : ∀ (s : Shared) (H : L2.Hp) (C : Addr) (cl : List (Str × Addr)) (fp : List Addr), PE (X.blk s H scope (compEnvC scope cl C X.env) fp) kx tk)
    (hv : ∀ (s : Shared) (H : L2.Hp) (C : Addr) (cl : List (Str × Addr)) (fp : List Addr), PE (X.blk s H scope (compEnvC scope cl C X.env) fp) vx tv) (hs : ∀ x, foldedSetIterable iter X.env x = pure x) :
    PE X (.DictComp kx vx [⟨tg, iter, [], 0⟩] scope pos) (tDcN X.K ct wi g tk tv (own.map (·.2))) := by
  refine ⟨fun pins s σ H Q I t => ?_⟩
  rw [arm_eval_DictComp]
  refine dcN_core hp hw hu hc hN hi ok hg hk hv hs I t fun d0 C t6 m H' J q hn f => ⟨m, hn, fun h2 sb => ?_⟩
  obtain ⟨f0, f1, f2, f3, f4, f5⟩ := f
  exact ⟨.ref d0, H', J.turned (t' := t6.toks) (fun b o hb e => (sb.2 b hb).trans e) f0 f1 f3 f4 f5, rfl, q⟩
/-- y = {k: v for ..}, the store within -/
theorem ps_setDcN {i : Nat} {y : Str} {py : Pos} {kx vx tg iter : Expr} {scope : Scope} {own : List (Str × Nat)} {pos spos : Pos} {wi : TI} {g : TG} {tk tv : TE} (hp : ct.pr = X.prog) (hw : ct.w = X.w) (hu : X.A.units + 200 < cLine) (hc : X.calm = true) (hN : X.N.Nodup) (hy : X.N[i]? = some y) (hyl : X.env.scope.names.lookup y = some .local)
    (hsw : swapsWith (.DictComp kx vx [⟨tg, iter, [], 0⟩] scope pos) (some (.Name y py)) spos.line X.env = pure true) (hi : PI X tg iter wi) (ok : BlkOk X.N X.env.scope scope own)
    (hg : ∀ (s : Shared) (H : L2.Hp) (C : Addr) (cl : List (Str × Addr)) (fp : List Addr), PG (X.blk s H scope (compEnvC scope cl C X.env) fp) tg g)
    (hk : ∀ (s : Shared) (H : L2.Hp) (C : Addr) (cl : List (Str × Addr)) (fp : List Addr), PE (X.blk s H scope (compEnvC scope cl C X.env) fp) kx tk)
    (hv : ∀ (s : Shared) (H : L2.Hp) (C : Addr) (cl : List (Str × Addr)) (fp : List Addr), PE (X.blk s H scope (compEnvC scope cl C X.env) fp) vx tv) (hs : ∀ x, foldedSetIterable iter X.env x = pure x) :
    PS X (.Assign [.Name y py] (.DictComp kx vx [⟨tg, iter, [], 0⟩] scope pos) spos) (tAsg (tDcN X.K ct wi g tk tv (own.map (·.2))) (gName i)) := by
  refine ⟨fun pins s σ H D I t => ?_⟩
  rw [exec_Assign_Name_used _ _ _ _ hsw]
  refine wpAny_bind (wpAny_standAt (wpAny_bind ?_))
  show wpAny _ X.A (do let _ ← comprehension (.DictComp kx vx [⟨tg, iter, [], 0⟩] scope pos) scope X.env (firstIterPos [⟨tg, iter, [], 0⟩] pos) newDict false (eval iter X.env) (some (assign (.Name y py) X.env))) _ _ s
  have t2 : tDcN X.K ct wi g tk tv (own.map (·.2)) σ H (fun x H1 => gName i x σ H1 D.nx) := t
  refine wpAny_bind (thn (dcN_core (Qf := fun _ t => SP X pins D .next t) hp hw hu hc hN hi ok hg hk hv hs I t2 fun d0 C t6 m H' J q hn f => ?_) fun _ t7 hq => wpAny_pure (wpAny_pure hq))
  show wpAny _ _ (assign (.Name y py) X.env (.ref d0)) _ _ _
  refine wpAny_assign_Name (store_ok2 (v := V.ref d0) J hN hy (.inl hyl) rfl (fun s2 I2 ⟨a, sb, ha⟩ => ?_) (.inr hyl))
  obtain ⟨f0, f1, f2, f3, f4, f5⟩ := f
  have apart : C ≠ a := ha.elim (fun z => by rw [z]; exact f1) fun z e => f4 y a z e.symm
  exact ⟨m, hn.sameBut sb apart, fun h3 sb3 => ⟨_, H', I2.turned (t' := s2.toks) (fun b o hb e => (sb3.2 b hb).trans e) f0 f1 f3 f4 f5, q⟩⟩
end
end SL

set_option linter.all false
set_option autoImplicit false
set_option maxRecDepth 100000
set_option Elab.async false
/-! SLDcm3: {k: v for ..}, by trees. -/
namespace SL
open PySem PySem.Spec PyProof.Rows L2
section
variable {X : L2.Cx} {ct : Ct} {b0 : Bs}
theorem ORd.move {K : PySem.W.Frag} {c c' : Bs} {d0 : Addr} {kvs : List (D × D)} (o : ORd K ct c d0 kvs) (e : c'.H d0 = c.H d0) (m : ∀ ds vs, DRs K c ds vs → DRs K c' ds vs) : ORd K ct c' d0 kvs := by
  rcases o with ⟨ks, q, r1, r2⟩ | ⟨fz, xs, q, r1, r2, r3⟩
  · exact .inl ⟨ks, e.trans q, m _ _ r1, m _ _ r2⟩
  · exact .inr ⟨fz, xs, e.trans q, m _ _ r1, m _ _ r2, r3⟩
def turnD (g : FG) (tk tv : FT) (own : List Nat) (s : Sto) : D → SL.Hp → (D → D → SL.Hp → Prop) → Prop := fun x h q => g x (SL.wipe s own) h fun s2 h2 => tk s2 h2 (lay fun y h3 => tv s2 h3 (lay fun z h4 => q y z h4))
theorem dc_lift {wi : FI} {g : FG} {tk tv : FT} {own : List Nat} {σ : L2.St} {H : L2.Hp} {Q : VK}
    (x : LT X.K ct b0 (fun s h Q => wi s h fun xs st h1 => dcmGo st (turnD g tk tv own s) xs h1 [] fun kvs h2 => Q (.d (.ref h2.length)) (h2 ++ [.dic kvs])) σ H Q) : tDcN X.K ct (LI X.K ct b0 wi) (LGw X.K ct b0 own g) (LT X.K ct b0 tk) (LT X.K ct b0 tv) own σ H Q := by
  obtain ⟨c, h, s, P, e, ex, sr, st, t, post⟩ := x
  refine ⟨c, h, s, _, e, ex, sr, st, t, fun xs stt h1 p c1 J ex1 sr1 hst src d0 hD => ?_⟩
  let G : Nat → L2.Hp → Prop := fun i H' => ∃ (c2 : Bs) (h2 : SL.Hp) (acc : List (SL.D × SL.D)) (o : HO), c2.H = H' ∧ Ex X.K c1 c2 ∧ SRel X.K ct c2 h2 ∧ c2.H d0 = some o ∧ NoT o ∧ ORd X.K ct c2 d0 acc ∧ (∀ i, i < c2.n → c2.μ i ≠ d0) ∧
    dcmGo stt (turnD g tk tv own s) (xs.drop i) h2 acc fun kvs h2 => P (.d (.ref h2.length)) (h2 ++ [.dic kvs])
  refine ⟨fun i m H' => m = xs.length - i ∧ i ≤ xs.length ∧ G i H', ⟨xs.length, rfl, Nat.zero_le _, c1.put d0 (.dK []), h1, [], .dK [], rfl, Ex.new hD, sr1.new hD, upd_same, ⟨fun _ z => (by cases z), fun _ _ z => (by cases z)⟩, .inl ⟨[], upd_same, rfl, rfl⟩, sr1.apart hD, p⟩, ?_⟩
  rintro i m H' ⟨rfl, hi, c2, h2, acc, o, rfl, ex2, sr2, hD2, nt, od, ap, go⟩
  by_cases hlt : i < xs.length
  · rw [List.drop_eq_getElem_cons hlt] at go
    obtain ⟨g1, g2, g3⟩ := go
    refine .inr ⟨src.goes i c2 h2 ex2 sr2 g1 hlt, G (i + 1), fun H' z => ⟨xs.length - (i + 1), by omega, rfl, hlt, z⟩, fun v H' y => ?_⟩
    obtain ⟨c3, rfl, ex3, sr3, r3⟩ := src.ylds i xs[i] c2 h2 v H' ex2 sr2 g1 (List.getElem?_eq_getElem hlt) y
    have exA : Ex X.K c c3 := (ex1.trans ex2).trans ex3
    refine ⟨c3, h2, SL.wipe s own, xs[i], _, rfl, ex.trans exA, sr3, (st.mono exA).wipe own, r3, g3, fun s4 h4 p4 c4 σ4 ex4 sr4 st4 hw => ⟨hw.trans (wipe_idem σ own), c4, h4, s4, _, rfl, ex.trans (exA.trans ex4), sr4, st4, p4, fun t5 h5 p5 c5 w5 ex5 sr5 tr5 tf5 => ?_⟩⟩
    obtain ⟨c6, h6, k, ex6, sr6, dk, p6, e6⟩ := LT.laid ex5 sr5 tr5 tf5 p5
    rw [← e6]
    refine ⟨c6, h6, s4, _, rfl, ex.trans (exA.trans (ex4.trans ex6)), sr6, st4.mono ex6, p6, fun t7 h7 p7 c7 w7 ex7 sr7 tr7 tf7 => ?_⟩
    obtain ⟨c8, h8, d, ex8, sr8, dd, p8, e8⟩ := LT.laid ex7 sr7 tr7 tf7 p7
    obtain ⟨f, p9⟩ := p8
    have ex28 : Ex X.K c2 c8 := ex3.trans (ex4.trans (ex6.trans ex8))
    obtain ⟨q1, q2⟩ := ex28.stay d0 _ hD2 ap
    refine ⟨c8, acc, k, d, e8, od.move (q1.trans hD2.symm) fun ds vs r => DRs.mono ex28 ds vs r, f, g2, DR.mono ex8 _ _ dk, dd, fun o' ho nt' => ?_⟩
    rw [← e8]
    have tupk : ∀ a xs, SqT X.K c8.H a xs → SqT X.K (c8.put d0 o').H a xs := fun a xs z => sqT_no q1 nt z
    exact ⟨c8.put d0 o', h8, kput acc k d, o', rfl, (ex2.trans ex28).ownG hD q1 nt q2, sr8.ownG q1 nt q2, upd_same, nt', ho _ (fun d v r => DR.put tupk d v r) (fun ds vs r => DRs.put tupk _ _ r) upd_same, q2, p9⟩
  · have e0 : i = xs.length := by omega
    subst e0
    rw [List.drop_length] at go
    have e5 : Ex X.K c c2 := ex1.trans ex2
    refine .inl ⟨src.stops c2 h2 ex2 sr2 go.1, post (.d (.ref h2.length)) _ go.2 (c2.lay d0) (.ref d0) (e5.lay (ex1.old d0 hD)) (sr2.lay (u := .dic acc) ap (od.move rfl fun ds vs r => r.lay)) ⟨?_, ?_⟩ trivial⟩
    · show h2.length < c2.n + 1
      rw [sr2.len]
      omega
    · rw [← sr2.len]
      exact congrArg V.ref lay_last.symm
theorem e_dcm {kx vx tg iter : Expr} {scope : Scope} {own : List (Str × Nat)} {pos : Pos} {wi : FI} {g : FG} {tk tv : FT} (hp : ct.pr = X.prog) (hw : ct.w = X.w) (hu : X.A.units + 200 < cLine) (hc : X.calm = true) (hN : X.N.Nodup) (hi : PI X tg iter (LI X.K ct b0 wi)) (ok : BlkOk X.N X.env.scope scope own)
    (hg : ∀ s H C cl fp, PG (X.blk s H scope (compEnvC scope cl C X.env) fp) tg (LGw X.K ct b0 (own.map (·.2)) g)) (hk : ∀ s H C cl fp, PE (X.blk s H scope (compEnvC scope cl C X.env) fp) kx (LT X.K ct b0 tk))
    (hv : ∀ s H C cl fp, PE (X.blk s H scope (compEnvC scope cl C X.env) fp) vx (LT X.K ct b0 tv)) (hs : ∀ x, foldedSetIterable iter X.env x = pure x) :
    PE X (.DictComp kx vx [⟨tg, iter, [], 0⟩] scope pos) (LT X.K ct b0 fun s h Q => wi s h fun xs st h1 => dcmGo st (turnD g tk tv (own.map (·.2)) s) xs h1 [] fun kvs h2 => Q (.d (.ref h2.length)) (h2 ++ [.dic kvs])) :=
  peMono (pe_dcN hp hw hu hc hN hi ok hg hk hv hs) fun σ H Q x => dc_lift x
/-- y = {k: v for ..} -/
theorem s_setD {kx vx tg iter : Expr} {scope : Scope} {own : List (Str × Nat)} {pos spos py : Pos} {wi : FI} {g : FG} {tk tv : FT} {i : Nat} {y : Str} (hp : ct.pr = X.prog) (hw : ct.w = X.w) (hu : X.A.units + 200 < cLine) (hc : X.calm = true) (hN : X.N.Nodup) (hy : X.N[i]? = some y) (hyl : X.env.scope.names.lookup y = some .local)
    (hsw : swapsWith (.DictComp kx vx [⟨tg, iter, [], 0⟩] scope pos) (some (.Name y py)) spos.line X.env = pure true) (hi : PI X tg iter (LI X.K ct b0 wi)) (ok : BlkOk X.N X.env.scope scope own)
    (hg : ∀ s H C cl fp, PG (X.blk s H scope (compEnvC scope cl C X.env) fp) tg (LGw X.K ct b0 (own.map (·.2)) g)) (hk : ∀ s H C cl fp, PE (X.blk s H scope (compEnvC scope cl C X.env) fp) kx (LT X.K ct b0 tk))
    (hv : ∀ s H C cl fp, PE (X.blk s H scope (compEnvC scope cl C X.env) fp) vx (LT X.K ct b0 tv)) (hs : ∀ x, foldedSetIterable iter X.env x = pure x) :
    PS X (.Assign [.Name y py] (.DictComp kx vx [⟨tg, iter, [], 0⟩] scope pos) spos) (LS0 X.K ct b0 fun n s h => (fun s h Q => wi s h fun xs st h1 => dcmGo st (turnD g tk tv (own.map (·.2)) s) xs h1 [] fun kvs h2 => Q (.d (.ref h2.length)) (h2 ++ [.dic kvs])) s h (lay fun x h1 => (fun x s h Q => Q (s.set i (some x)) h) x s h1 n.nx)) :=
  s_asgC (ta := fun s h Q => wi s h fun xs st h1 => dcmGo st (turnD g tk tv (own.map (·.2)) s) xs h1 [] fun kvs h2 => Q (.d (.ref h2.length)) (h2 ++ [.dic kvs])) (g := fun x s h Q => Q (s.set i (some x)) h) (ps_setDcN hp hw hu hc hN hy hyl hsw hi ok hg hk hv hs) (fun _ _ _ t => dc_lift t) fun v σ H Q t => by
    obtain ⟨c, h, s, x, P, rfl, ex, sr, st, r, t, post⟩ := t
    exact post _ h t c _ (Ex.refl c) sr (st.set r i)
end
end SL

set_option linter.all false
set_option autoImplicit false
set_option maxRecDepth 100000
set_option Elab.async false
/-! SLCmp: a term of the small tongue beside the program's own; where they agree, the reading is sound. -/
namespace SL
open PySem PySem.Spec PyProof.Rows L2
abbrev Nms := List (Str × NameKind)
/-- what is known of the module -/
structure Gt where
  con : List (Str × D)
  fns : List (String × Nat)
  fre : List Str
structure CtxOk (X : L2.Cx) (ct : Ct) (Kf : Kx) (G : Gt) (N : List Str) (nm : Nms) : Prop where
  n : X.N = N
  nd : N.Nodup
  loc : ∀ x k, nm.lookup x = some k → k ≠ .free → X.env.scope.names.lookup x = some k
  fr : ∀ x, nm.lookup x = some .free → X.env.scope.names.lookup x = some .cell ∨ X.env.scope.names.lookup x = some .free
  fn : ∀ x, nm.lookup x = some .cell → X.fn x = true
  calm : X.calm = true
  cp : ct.pr = X.prog
  cw : ct.w = X.w
  hu : X.A.units + 200 < cLine
  gd : X.A.guards = some []
  con : ∀ x d, G.con.lookup x = some d → ∃ v u, X.mg x = some u ∧ RelV v u ∧ ∀ c, DR X.K c d v
  free : ∀ x, x ∈ G.fre → X.mg x = none
  call : ∀ f np, G.fns.lookup f = some np → CallOk X ct Kf f np
section
variable (G : Gt) (N : List Str)
def noDbg (x : Str) : Bool := !(x == ("__debug__" : Str)) && !(x == ("__classdict__" : Str))
def visB (nm : Nms) (x : Str) : Bool := match nm.lookup x with
  | some .local => true
  | some .cell => true
  | some .free => true
  | _ => false
def locB (nm : Nms) (x : Str) : Bool := match nm.lookup x with
  | some .local => true
  | some .cell => true
  | _ => false
def gloB (nm : Nms) (x : Str) : Bool := match nm.lookup x with
  | some .globalImplicit => true
  | _ => false
def nB (i : Nat) (x : Str) : Bool := decide (N[i]? = some x)
/-- a built-in name -/
def freB (nm : Nms) (x : Str) (name : String) : Bool := decide (x = Str.ofString name) && gloB nm x && decide (x ∈ G.fre)
def opE : Op2 → Operator
  | .add => .Add
  | .sub => .Sub
  | .mul => .Mult
  | .fdiv => .FloorDiv
  | .mod => .Mod
  | .pow => .Pow
def deq : D → D → Bool
  | .non, .non => true
  | .bl a, .bl b => a == b
  | .int a, .int b => decide (a = b)
  | .str a, .str b => decide (a = b)
  | _, _ => false
def cstB (nm : Nms) (d : D) : Expr → Bool
  | .Constant (.int i) _ _ => deq d (.int i)
  | .Constant (.bool b) _ _ => deq d (.bl b)
  | .Constant .none _ _ => deq d .non
  | .Constant (.str x) _ _ => deq d (.str x.cps.toList)
  | .Name x _ => gloB nm x && noDbg x && (match G.con.lookup x with
    | some e => deq d e
    | none => false)
  | _ => false
def isStar : Expr → Bool
  | .Starred _ _ => true
  | _ => false
/-- whose test is its value's truth -/
def plainT : Expr → Bool
  | .Name _ _ => true
  | .Constant _ _ _ => true
  | .Call _ _ _ _ => true
  | .Subscript _ _ _ => true
  | .BinOp _ _ _ _ => true
  | .List _ _ => true
  | .Tuple _ _ _ => true
  | .ListComp _ _ _ _ => true
  | .Dict _ _ _ => true
  | .DictComp _ _ _ _ _ => true
  | _ => false
def notIf : Expr → Bool
  | .IfExp _ _ _ _ => false
  | _ => true
def plainIx : Expr → Bool
  | .Slice _ _ _ _ => false
  | _ => true
def isSet : Expr → Bool
  | .Set _ _ _ => true
  | _ => false
def plainBase : Expr → Bool
  | .Call _ _ _ _ => false
  | _ => true
def isTup : Expr → Bool
  | .Tuple _ _ _ => true
  | _ => false
def tyB (t : Ty) (x : Str) : Bool := !isOwnTy t && decide (x = Str.ofString (tyN t))
def biB (b : Bi) : String := match b with
  | .len => "len"
  | .int => "int"
  | .all => "all"
  | .any => "any"
  | .min => "min"
  | .repr => "repr"
  | .sum => "sum"
  | _ => ""
def biK : Bi → Bool
  | .sset => false
  | .lset => false
  | .dict => false
  | .rsz => false
  | _ => true
def ownP (own : List Nat) : List (Str × Nat) := own.map fun i => (N.getD i Str.empty, i)
def blkB (nm : Nms) (scope : Scope) (own : List Nat) : Bool :=
  (match scope.kind with | .function => true | _ => false) && (scope.names.all fun y => decide (scope.names.lookup y.1 = some y.2)) && (own.all fun i => decide (i < N.length)) &&
    (scope.names.all fun y => match y.2 with
      | .free => (match nm.lookup y.1 with | some .cell => true | some .free => true | _ => false)
      | .local => decide (y.1 ∈ (ownP N own).map (·.1)) || decide (y.1 ∉ N)
      | .cell => decide (y.1 ∈ (ownP N own).map (·.1)) || decide (y.1 ∉ N)
      | _ => true)
def noSt : Es → Bool
  | .nil => true
  | .cons _ es => noSt es
  | .star _ _ => false
mutual
def okE : E → Nms → Expr → Bool
  | .cst d, nm, e => cstB G nm d e
  | .var i, nm, e => match e with
    | .Name x _ => visB nm x && nB N i x && noDbg x
    | _ => false
  | .tup es, nm, e => match e with
    | .Tuple xs _ _ => okEs es nm xs
    | _ => false
  | .lst es, nm, e => match e with
    | .List xs _ => okEs es nm xs
    | _ => false
  | .op o a b, nm, e => match e with
    | .BinOp x p y _ => decide (p = opE o) && okE a nm x && okE b nm y
    | _ => false
  | .neg a, nm, e => match e with
    | .UnaryOp .USub x _ => okE a nm x
    | _ => false
  | .nt a, nm, e => match e with
    | .UnaryOp .Not x _ => okE a nm x && notIf x
    | _ => false
  | .and a b, nm, e => match e with
    | .BoolOp .And [x, y] _ => okE a nm x && okE b nm y && notIf x && notIf y
    | .BoolOp .And (x :: y :: z :: r) p => okE a nm x && notIf x && okE b nm (.BoolOp .And (y :: z :: r) p)
    | _ => false
  | .or a b, nm, e => match e with
    | .BoolOp .Or [x, y] _ => okE a nm x && okE b nm y && notIf x && notIf y
    | .BoolOp .Or (x :: y :: z :: r) p => okE a nm x && notIf x && okE b nm (.BoolOp .Or (y :: z :: r) p)
    | _ => false
  | .cmp o a b, nm, e => match e with
    | .Compare x [p] [y] _ => decide (p = opOf o) && okE a nm x && okE b nm y && !behindInMarks p y
    | _ => false
  | .chn o u a b c, nm, e => match e with
    | .Compare x [p, q] [y, z] _ => decide (p = opOf o) && decide (q = opOf u) && okE a nm x && okE b nm y && okE c nm z && !lastMarks [p, q] [y, z]
    | _ => false
  | .ite c a b, nm, e => match e with
    | .IfExp x y z _ => okE c nm x && notIf x && okE a nm y && okE b nm z
    | _ => false
  | .idx a i, nm, e => match e with
    | .Subscript x y _ => okE a nm x && okE i nm y && plainIx y
    | _ => false
  | .slF a lo, nm, e => match e with
    | .Subscript x (.Slice (some y) none none _) _ => okE a nm x && okE lo nm y
    | _ => false
  | .slT a hi, nm, e => match e with
    | .Subscript x (.Slice none (some y) none _) _ => okE a nm x && okE hi nm y
    | _ => false
  | .slB a lo hi, nm, e => match e with
    | .Subscript x (.Slice (some y) (some z) none _) _ => okE a nm x && okE lo nm y && okE hi nm z
    | _ => false
  | .rev a, nm, e => match e with
    | .Subscript x (.Slice none none (some (.UnaryOp .USub (.Constant (.int 1) _ _) _)) _) _ => okE a nm x
    | _ => false
  | .call f es, nm, e => match e with
    | .Call (.Name x _) (y :: ys) [] _ => decide (x = Str.ofString f) && gloB nm x && noDbg x && (G.fns.lookup f).isSome && okEs es nm (y :: ys) && noSt es
    | _ => false
  | .isi a t, nm, e => match e with
    | .Call (.Name x _) [y, .Name tn _] [] _ => freB G nm x "isinstance" && tyB t tn && freB G nm tn (tyN t) && okE a nm y && !isStar y
    | _ => false
  | .bi b es, nm, e => match e with
    | .Call (.Name x _) (y :: ys) [] _ => biK b && freB G nm x (biB b) && okEs es nm (y :: ys) && noSt es
    | _ => false
  | .lm m o es, nm, e => match e with
    | .Call (.Attribute x a ap) [y] [] p => (match m, o with
      | .append, o => decide (a = "append") && okE o nm x && okEs es nm [y] && noSt es && plainBase x && (ap.endLine == p.line)
      | .index, .cst (.str z) => decide (a = "index") && idxOk z && cstB G nm (.str z) x && okEs es nm [y] && noSt es && plainBase x && (ap.endLine == p.line)
      | _, _ => false)
    | _ => false
  | .lmT m o b, nm, e => match e with
    | .Call (.Attribute x a ap) [y] [] p => (match m, o with
      | .join, .cst (.str []) => decide (a = "join") && cstB G nm (.str []) x && okE b nm y && !isStar y && plainBase x && (ap.endLine == p.line)
      | .extend, o => decide (a = "extend") && okE o nm x && okE b nm y && !isStar y && plainBase x && (ap.endLine == p.line)
      | _, _ => false)
    | _ => false
  | .toL i, nm, e => match i with
    | .val a => (match e with
      | .Call (.Name x _) [y] [] _ => freB G nm x "list" && okE a nm y && !isStar y
      | _ => false)
    | .rng a => (match e with
      | .Call (.Name x _) [.Call (.Name z _) [y] [] _] [] _ => freB G nm x "list" && freB G nm z "range" && okE a nm y && !isStar y
      | _ => false)
    | _ => false
  | .toT i, nm, e => match i with
    | .seq a => (match e with
      | .Call (.Name x _) [y] [] _ => freB G nm x "tuple" && okE a nm y && !isStar y
      | _ => false)
    | .rng a => (match e with
      | .Call (.Name x _) [.Call (.Name z _) [y] [] _] [] _ => freB G nm x "tuple" && freB G nm z "range" && okE a nm y && !isStar y
      | _ => false)
    | _ => false
  | .srt i, nm, e => match i with
    | .seq a => (match e with
      | .Call (.Name x _) [y] [] _ => freB G nm x "sorted" && okE a nm y && !isStar y
      | _ => false)
    | _ => false
  | .dcm k v tg it own, nm, e => match e with
    | .DictComp x y [⟨t, i, [], 0⟩] scope _ => blkB N nm scope own && okT tg own scope.names t && okI it (isTup t) nm i && !isSet i && okE k scope.names x && okE v scope.names y
    | _ => false
  | .sset a, nm, e => match e with
    | .Call (.Name x _) [.Call (.Name z _) [y] [] _] [] _ => freB G nm x "sorted" && freB G nm z "set" && okE a nm y && !isStar y
    | _ => false
  | .lset a, nm, e => match e with
    | .Call (.Name x _) [.Call (.Name z _) [y] [] _] [] _ => freB G nm x "len" && freB G nm z "set" && okE a nm y && !isStar y
    | _ => false
  | .dic es, nm, e => match e with
    | .Dict [] [] _ => (match es with
      | .nil => true
      | _ => false)
    | .Dict [some x] [y] _ => (match es with
      | .cons k (.cons v .nil) => okE k nm x && okE v nm y
      | _ => false)
    | _ => false
  | .dicT k v, nm, e => match e with
    | .Dict [some x] [y] _ => okE k nm x && okE v nm y
    | _ => false
  | .comp elt tg it ifs own, nm, e => match e with
    | .ListComp x [⟨t, i, fs, 0⟩] scope _ => blkB N nm scope own && okT tg own scope.names t && okI it (isTup t) nm i && !isSet i && okF ifs scope.names fs && okE elt scope.names x
    | _ => false
  | _, _, _ => false
def okEs : Es → Nms → List Expr → Bool
  | .nil, _, [] => true
  | .cons e es, nm, x :: xs => okE e nm x && !isStar x && okEs es nm xs
  | .star e es, nm, x :: xs => (match x with
    | .Starred y _ => okE e nm y
    | _ => false) && okEs es nm xs
  | _, _, _ => false
def okF : Es → Nms → List Expr → Bool
  | .nil, _, [] => true
  | .cons e .nil, nm, [x] => okE e nm x && notIf x
  | _, _, _ => false
def okI : I → Bool → Nms → Expr → Bool
  | .val a, _, nm, e => okE a nm e
  | .rng a, _, nm, e => match e with
    | .Call (.Name x _) [y] [] _ => freB G nm x "range" && okE a nm y && !isStar y
    | _ => false
  | .rg2 a b, _, nm, e => match e with
    | .Call (.Name x _) [y, z] [] _ => freB G nm x "range" && okE a nm y && !isStar y && okE b nm z && !isStar z
    | _ => false
  | .zip a b, tp, nm, e => match e with
    | .Call (.Name x _) [y, z] [] _ => tp && freB G nm x "zip" && okE a nm y && !isStar y && okE b nm z && !isStar z
    | _ => false
  | .enu a, tp, nm, e => match e with
    | .Call (.Name x _) [y] [] _ => tp && freB G nm x "enumerate" && okE a nm y && !isStar y
    | _ => false
  | .keys a, _, nm, e => okE a nm e
  | _, _, _, _ => false
def okT : T → List Nat → Nms → Expr → Bool
  | .nm i, own, nm, e => match e with
    | .Name x _ => own.contains i && nB N i x && locB nm x
    | _ => false
  | .tp ts, own, nm, e => match e with
    | .Tuple xs _ _ => okTs ts own nm xs
    | _ => false
  | _, _, _, _ => false
def okTs : Ts → List Nat → Nms → List Expr → Bool
  | .nil, _, _, [] => true
  | .cons t ts, own, nm, x :: xs => okT t own nm x && !isStar x && okTs ts own nm xs
  | _, _, _, _ => false
end
end
/-! ### small facts of the text -/
theorem star_no {e : Expr} {es : List Expr} {env : Env} (h : isStar e = false) : starEach (e :: es) env = (false, eval e env) :: starEach es env := by
  cases e <;> first | rfl | cases h
theorem asgn_no {e : Expr} {es : List Expr} {env : Env} (h : isStar e = false) : assignEach (e :: es) env = (false, assign e env) :: assignEach es env := by
  cases e <;> first | rfl | cases h
theorem fold_no {e : Expr} {env : Env} (h : isSet e = false) : ∀ x, foldedSetIterable e env x = pure x := fun x => by
  cases e <;> first | rfl | cases h
theorem base_no {e : Expr} {env : Env} {a : Str} (h : plainBase e = true) : attributeBase e a env (eval e env) = eval e env := by
  cases e <;> first | rfl | cases h
theorem plain_ix {e : Expr} (h : plainIx e = true) : PlainIx e := fun o i => by
  cases e <;> first | rfl | cases h
theorem truth_no {e : Expr} {env : Env} (h : plainT e = true) : ∀ whole, isTrue e env whole = (do let v ← whole; standAt e.pos; holding [v] (truthy v)) := fun whole => by
  cases e <;> first | rfl | cases h
theorem deq_ok {a b : D} (h : deq a b = true) : a = b := by
  cases a <;> cases b <;> simp [deq] at h <;> first | rfl | (rw [h])
section
variable {X : L2.Cx} {ct : Ct} {Kf : Kx} {G : Gt} {N : List Str} {nm : Nms} {x : Str} {pos : Pos}
theorem vis_of (C : CtxOk X ct Kf G N nm) (h : visB nm x = true) : Vis X.env.scope x := by
  unfold visB at h
  split at h
  · rename_i e; exact .inl (C.loc x _ e (by decide))
  · rename_i e; exact .inr (.inl (C.loc x _ e (by decide)))
  · rename_i e; exact .inr (C.fr x e)
  · cases h
theorem loc_of (C : CtxOk X ct Kf G N nm) (h : locB nm x = true) : Loc X.env.scope x ∧ (X.fn x = true ∨ X.env.scope.names.lookup x = some .local) := by
  unfold locB at h
  split at h
  · rename_i e; exact ⟨.inl (C.loc x _ e (by decide)), .inr (C.loc x _ e (by decide))⟩
  · rename_i e; exact ⟨.inr (C.loc x _ e (by decide)), .inl (C.fn x e)⟩
  · cases h
theorem gl_of (C : CtxOk X ct Kf G N nm) (h : gloB nm x = true) : Gl X x := by
  unfold gloB at h
  split at h
  · rename_i e; exact C.loc x _ e (by decide)
  · cases h
theorem fre_of (C : CtxOk X ct Kf G N nm) {name : String} (h : freB G nm x name = true) : x = Str.ofString name ∧ Gl X x ∧ X.mg x = none := by
  simp only [freB, Bool.and_eq_true, decide_eq_true_eq] at h
  exact ⟨h.1.1, gl_of C h.1.2, C.free x h.2⟩
theorem dbg_of (h : noDbg x = true) : (x == ("__debug__" : Str)) = false ∧ (x == ("__classdict__" : Str)) = false := by
  simp only [noDbg, Bool.and_eq_true, Bool.not_eq_true'] at h
  exact h
theorem n_of {i : Nat} (C : CtxOk X ct Kf G N nm) (h : nB N i x = true) : X.N[i]? = some x := by
  rw [C.n]
  exact of_decide_eq_true h
theorem cst_ok (C : CtxOk X ct Kf G N nm) {d : D} {e : Expr} (h : cstB G nm d e = true) : ∃ v, PE X e (tC v) ∧ ∀ c, DR X.K c d v := by
  unfold cstB at h
  split at h
  · rw [deq_ok h]; exact ⟨_, pe_int, fun _ => rfl⟩
  · rw [deq_ok h]; exact ⟨_, pe_bl, fun _ => rfl⟩
  · rw [deq_ok h]; exact ⟨_, pe_non, fun _ => rfl⟩
  · rw [deq_ok h]; exact ⟨_, pe_str, fun _ => rfl⟩
  · simp only [Bool.and_eq_true] at h
    obtain ⟨⟨h1, h2⟩, h3⟩ := h
    split at h3
    · rename_i e' he
      obtain ⟨v, u, m1, m2, m3⟩ := C.con _ _ he
      rw [deq_ok h3]
      exact ⟨v, pe_glob (gl_of C h1) m1 m2 (dbg_of h2).1, m3⟩
    · cases h3
  · cases h
theorem own_map {own : List Nat} : (ownP N own).map (·.2) = own := by
  unfold ownP
  rw [List.map_map]
  exact List.map_id' own
theorem blk_of (C : CtxOk X ct Kf G N nm) {scope : Scope} {own : List Nat} (h : blkB N nm scope own = true) : BlkOk X.N X.env.scope scope (ownP N own) := by
  simp only [blkB, Bool.and_eq_true, List.all_eq_true, decide_eq_true_eq] at h
  obtain ⟨⟨⟨h1, h2⟩, h3⟩, h4⟩ := h
  refine ⟨?_, h2, ?_, ?_, ?_⟩
  · revert h1
    cases scope.kind <;> intro h1 <;> first | rfl | cases h1
  · intro p hp
    obtain ⟨i, hi, rfl⟩ := List.mem_map.mp hp
    rw [C.n]
    show N[i]? = some (N.getD i Str.empty)
    rw [List.getD_eq_getElem?_getD, List.getElem?_eq_getElem (h3 i hi)]
    rfl
  · intro y hy hk
    have := h4 y hy
    rw [hk] at this
    simp only at this
    split at this
    · rename_i e; exact .inl (C.loc _ _ e (by decide))
    · rename_i e; exact C.fr _ e
    · cases this
  · intro y hy hk
    have := h4 y hy
    rw [C.n]
    rcases hk with hk | hk
    · rw [hk] at this
      simp only [Bool.or_eq_true, decide_eq_true_eq] at this
      exact this
    · rw [hk] at this
      simp only [Bool.or_eq_true, decide_eq_true_eq] at this
      exact this
theorem relOb {sc : Scope} {x : Str} : ∀ {names : Nms}, names.lookup x = some .free → (relS { kind := .function, names := names, isGenerator := false, isCoroutine := false, more := [] } sc).names.lookup x = some .cell ∨ (relS { kind := .function, names := names, isGenerator := false, isCoroutine := false, more := [] } sc).names.lookup x = some .free
  | [], h => by cases h
  | (n, k) :: r, h => by
    rw [List.lookup_cons] at h
    show ((if (k == .free && sc.kind == .function && sc.names.lookup n == some .cell) then (n, NameKind.cell) else (n, k)) :: _).lookup x = _ ∨ ((if (k == .free && sc.kind == .function && sc.names.lookup n == some .cell) then (n, NameKind.cell) else (n, k)) :: _).lookup x = _
    cases e : x == n with
    | true =>
      rw [e] at h
      cases h
      split
      · left
        rw [List.lookup_cons, e]
      · right
        rw [List.lookup_cons, e]
    | false =>
      rw [e] at h
      have ih := relOb (sc := sc) h
      split
      · rw [List.lookup_cons, e]
        exact ih
      · rw [List.lookup_cons, e]
        exact ih
/-- the block's own context -/
theorem blk_ctx (C : CtxOk X ct Kf G N nm) {scope : Scope} {own : List (Str × Nat)} (ok : BlkOk X.N X.env.scope scope own) (s : Shared) (H : L2.Hp) (A : Addr) (cl : List (Str × Addr)) (fp : List Addr) : CtxOk (X.blk s H scope (compEnvC scope cl A X.env) fp) ct Kf G N scope.names where
  n := C.n
  nd := C.nd
  loc := fun x k h hk => lookup_relS_keep (sc := X.env.scope) hk h
  fr := fun x h => relOb (sc := X.env.scope) h
  fn := fun x h => by
    show (scope.names.lookup x == some NameKind.cell) = true
    rw [h]
    rfl
  calm := C.calm
  cp := C.cp
  cw := C.cw
  hu := C.hu
  gd := C.gd
  con := C.con
  free := C.free
  call := C.call
end
end SL

set_option linter.all false
set_option autoImplicit false
set_option maxRecDepth 100000
set_option Elab.async false
set_option maxHeartbeats 2000000
/-! SLCmp2: expressions beside their terms. -/
namespace SL
open PySem PySem.Spec PyProof.Rows L2
def Snd (X : L2.Cx) (ct : Ct) (e : Expr) (t : FT) : Prop := (∀ b0, PE X e (LT X.K ct b0 t)) ∧ (notIf e = true → ∀ b0, PT X e (LB X.K ct b0 t)) ∧ (∀ op vs p, e = .BoolOp op vs p → ∀ b0, PW X e (LB X.K ct b0 t))
theorem snd_plain {X : L2.Cx} {ct : Ct} {e : Expr} {t : FT} (hk : plainT e = true) (h : ∀ b0, PE X e (LT X.K ct b0 t)) : Snd X ct e t :=
  ⟨h, fun _ b0 => t_truth (h b0) (truth_no hk), fun op vs p he => by subst he; cases hk⟩
theorem behind_no {p : CmpOp} {y : Expr} (h : (!behindInMarks p y) = true) : behindInMarks p y = false := by
  rw [Bool.not_eq_true'] at h
  exact h
theorem opOk {X : L2.Cx} {ct : Ct} (o : Op2) : OpR X (binaryOp (opE o)) (RO X.K ct fun h => op2 h o) := o_op2 o _ (by cases o <;> rfl)
theorem stars_no {G : Gt} {N : List Str} {nm : Nms} : ∀ {es : Es} {xs : List Expr}, okEs G N es nm xs = true → noSt es = true → ∀ pos env, (backTo pos (starEach xs env)).any (·.1) = false
  | .nil, [], _, _, _, _ => rfl
  | .nil, _ :: _, h, _, _, _ => by simp [okEs] at h
  | .cons e es, [], h, _, _, _ => by simp [okEs] at h
  | .cons e es, x :: xs, h, hn, pos, env => by
    simp only [okEs, Bool.and_eq_true, Bool.not_eq_true'] at h
    rw [star_no h.1.2]
    show (false || (backTo pos (starEach xs env)).any (·.1)) = false
    rw [stars_no h.2 hn pos env]
    rfl
  | .star _ _, _, _, h, _, _ => by cases h
theorem bi_ok {X : L2.Cx} {ct : Ct} {Kf : Kx} {G : Gt} {N : List Str} {nm : Nms} (C : CtxOk X ct Kf G N nm) {b : Bi} {x : Str} {p pos : Pos} {y : Expr} {ys : List Expr} {ta : FV} (hb : biK b = true) (hx : freB G nm x (biB b) = true) (he : starEach (y :: ys) X.env = (false, eval y X.env) :: starEach ys X.env) (hpl : (backTo pos (starEach ys X.env)).any (·.1) = false)
    (b0 : Bs) (ha : PA X (y :: ys) (LV X.K ct b0 ta)) : PE X (.Call (.Name x p) (y :: ys) [] pos) (LT X.K ct b0 fun s h Q => ta s h fun xs h1 => bi h1 b xs Q) := by
  obtain ⟨rfl, hg, hm⟩ := fre_of C hx
  cases b with
  | len => exact e_bi (fun h => pe_callB call_lenB hg hm (by decide +kernel) h (by decide) (by decide) he hpl) bi_len ha
  | int => exact e_bi (fun h => pe_callTy call_int1 hg hm (by decide +kernel) h (by decide) (by decide) he hpl) bi_int ha
  | all => exact e_bi (fun h => pe_callB (cr_all C.calm) hg hm (by decide +kernel) h (by decide) (by decide) he hpl) bi_all ha
  | any => exact e_bi (fun h => pe_callB (cr_any C.calm) hg hm (by decide +kernel) h (by decide) (by decide) he hpl) bi_any ha
  | min => exact e_bi (fun h => pe_callB (call_min2 C.calm) hg hm (by decide +kernel) h (by decide) (by decide) he hpl) bi_min ha
  | repr => exact e_bi (fun h => pe_callB (call_reprB C.gd C.hu) hg hm (by decide +kernel) h (by decide) (by decide) he hpl) bi_repr ha
  | sum => exact e_bi (fun h => pe_callB (cr_sum C.calm) hg hm (by decide +kernel) h (by decide) (by decide) he hpl) bi_sum ha
  | _ => cases hb
theorem dic1_of {Kf : Kx} {k v : E} {s : Sto} {h : SL.Hp} {P : TV → SL.Hp → Prop} (t : dT Kf R0 (.dic (.cons k (.cons v .nil))) s h P) : fDic1 atomK (dT Kf R0 k) (dT Kf R0 v) s h P := by
  change dT Kf R0 k s h (lay fun x h1 => dT Kf R0 v s h1 (lay fun y h2 => ([(x, y)].all fun p => atomK p.1) = true ∧ [(x, y)].length ≤ 15 ∧ P (.d (.ref h2.length)) (h2 ++ [.dic [(x, y)]]))) at t
  unfold fDic1
  have hh : ∀ (x y : D) (h2 : SL.Hp), (([(x, y)].all fun p => atomK p.1) = true ∧ [(x, y)].length ≤ 15 ∧ P (.d (.ref h2.length)) (h2 ++ [.dic [(x, y)]])) = (atomK x = true ∧ P (.d (.ref h2.length)) (h2 ++ [.dic [(x, y)]])) := fun x y h2 => by
    simp
  simp only [hh] at t
  exact t
section
variable {ct : Ct} {Kf : Kx} {G : Gt} {N : List Str}
mutual
theorem okE_ok : ∀ (e' : E) {X : L2.Cx} {nm : Nms} (C : CtxOk X ct Kf G N nm) (e : Expr), okE G N e' nm e = true → Snd X ct e (dT Kf R0 e')
  | .cst d, X, nm, C, e, h => by
    simp only [okE] at h
    obtain ⟨v, h1, h2⟩ := cst_ok C h
    refine snd_plain ?_ fun b0 => r_cst h1 h2
    unfold cstB at h
    split at h <;> first | rfl | cases h
  | .var i, X, nm, C, e, h => by
    simp only [okE] at h
    split at h
    · simp only [Bool.and_eq_true] at h
      exact snd_plain rfl fun b0 => r_var (pe_var (n_of C h.1.2) (vis_of C h.1.1) (dbg_of h.2).1 (dbg_of h.2).2)
    · cases h
  | .tup es, X, nm, C, e, h => by
    simp only [okE] at h
    split at h
    · exact snd_plain rfl fun b0 => e_tup (okEs_ok es C _ h b0).1
    · cases h
  | .lst es, X, nm, C, e, h => by
    simp only [okE] at h
    split at h
    · exact snd_plain rfl fun b0 => e_lst (okEs_ok es C _ h b0).1
    · cases h
  | .op o a b, X, nm, C, e, h => by
    simp only [okE] at h
    split at h
    · simp only [Bool.and_eq_true, decide_eq_true_eq] at h
      obtain ⟨⟨rfl, h1⟩, h2⟩ := h
      exact snd_plain rfl fun b0 => r_op (r := fun _ _ _ _ => True) (g := fun h => op2 h o) (fun ha hb => pe_op (opOk o) ha hb) ((okE_ok a C _ h1).1 b0) ((okE_ok b C _ h2).1 b0)
    · cases h
  | .neg a, X, nm, C, e, h => by
    simp only [okE] at h
    split at h
    · have ih := okE_ok a C _ h
      refine ⟨fun b0 => r_neg (ih.1 b0), fun _ b0 => t_truth (r_neg (ih.1 b0)) fun _ => rfl, fun _ _ _ he => by cases he⟩
    · cases h
  | .nt a, X, nm, C, e, h => by
    simp only [okE] at h
    split at h
    · simp only [Bool.and_eq_true] at h
      have ih := okE_ok a C _ h.1
      exact ⟨fun b0 => r_not (ih.1 b0), fun _ b0 => t_not (ih.2.1 h.2 b0), fun _ _ _ he => by cases he⟩
    · cases h
  | .and a b, X, nm, C, e, h => by
    simp only [okE] at h
    split at h
    · rename_i x y p
      simp only [Bool.and_eq_true] at h
      obtain ⟨⟨⟨h1, h2⟩, h3⟩, h4⟩ := h
      have i1 := okE_ok a C _ h1
      have i2 := okE_ok b C _ h2
      have w : ∀ b0, PW X (.BoolOp .And [x, y] p) (LB X.K ct b0 (dT Kf R0 (.and a b))) := fun b0 => t_and (i1.2.1 h3 b0) (pw_and1 (i2.2.1 h4 b0))
      exact ⟨fun b0 => r_and (i1.1 b0) (pe_one (i2.1 b0)), fun _ b0 => (w b0).pt, fun _ _ _ he b0 => by cases he; exact w b0⟩
    · rename_i x y z r p
      simp only [Bool.and_eq_true] at h
      obtain ⟨⟨h1, h3⟩, h2⟩ := h
      have i1 := okE_ok a C _ h1
      have i2 := okE_ok b C _ h2
      have w : ∀ b0, PW X (.BoolOp .And (x :: y :: z :: r) p) (LB X.K ct b0 (dT Kf R0 (.and a b))) := fun b0 => t_and (i1.2.1 h3 b0) (i2.2.2 _ _ _ rfl b0)
      exact ⟨fun b0 => r_and (i1.1 b0) (i2.1 b0), fun _ b0 => (w b0).pt, fun _ _ _ he b0 => by cases he; exact w b0⟩
    · cases h
  | .or a b, X, nm, C, e, h => by
    simp only [okE] at h
    split at h
    · rename_i x y p
      simp only [Bool.and_eq_true] at h
      obtain ⟨⟨⟨h1, h2⟩, h3⟩, h4⟩ := h
      have i1 := okE_ok a C _ h1
      have i2 := okE_ok b C _ h2
      have w : ∀ b0, PW X (.BoolOp .Or [x, y] p) (LB X.K ct b0 (dT Kf R0 (.or a b))) := fun b0 => t_or (i1.2.1 h3 b0) (pw_or1 (i2.2.1 h4 b0))
      exact ⟨fun b0 => r_or (i1.1 b0) (pe_one (i2.1 b0)), fun _ b0 => (w b0).pt, fun _ _ _ he b0 => by cases he; exact w b0⟩
    · rename_i x y z r p
      simp only [Bool.and_eq_true] at h
      obtain ⟨⟨h1, h3⟩, h2⟩ := h
      have i1 := okE_ok a C _ h1
      have i2 := okE_ok b C _ h2
      have w : ∀ b0, PW X (.BoolOp .Or (x :: y :: z :: r) p) (LB X.K ct b0 (dT Kf R0 (.or a b))) := fun b0 => t_or (i1.2.1 h3 b0) (i2.2.2 _ _ _ rfl b0)
      exact ⟨fun b0 => r_or (i1.1 b0) (i2.1 b0), fun _ b0 => (w b0).pt, fun _ _ _ he b0 => by cases he; exact w b0⟩
    · cases h
  | .cmp o a b, X, nm, C, e, h => by
    simp only [okE] at h
    split at h
    · simp only [Bool.and_eq_true, decide_eq_true_eq] at h
      obtain ⟨⟨⟨rfl, h1⟩, h2⟩, h3⟩ := h
      have i1 := okE_ok a C _ h1
      have i2 := okE_ok b C _ h2
      exact ⟨fun b0 => e_cmp C.cp C.cw C.hu (i1.1 b0) (i2.1 b0) (behind_no h3), fun _ b0 => et_cmp C.cp C.cw C.hu (i1.1 b0) (i2.1 b0) (behind_no h3), fun _ _ _ he => by cases he⟩
    · cases h
  | .chn o u a b c, X, nm, C, e, h => by
    simp only [okE] at h
    split at h
    · simp only [Bool.and_eq_true, decide_eq_true_eq, Bool.not_eq_true'] at h
      obtain ⟨⟨⟨⟨⟨rfl, rfl⟩, h1⟩, h2⟩, h3⟩, h4⟩ := h
      have i1 := okE_ok a C _ h1
      have i2 := okE_ok b C _ h2
      have i3 := okE_ok c C _ h3
      exact ⟨fun b0 => e_chn C.cp C.cw C.hu (i1.1 b0) (i2.1 b0) (i3.1 b0) h4, fun _ b0 => et_chn C.cp C.cw C.hu (i1.1 b0) (i2.1 b0) (i3.1 b0) h4, fun _ _ _ he => by cases he⟩
    · cases h
  | .ite c a b, X, nm, C, e, h => by
    simp only [okE] at h
    split at h
    · simp only [Bool.and_eq_true] at h
      obtain ⟨⟨⟨h1, h2⟩, h3⟩, h4⟩ := h
      have i1 := okE_ok c C _ h1
      have i2 := okE_ok a C _ h3
      have i3 := okE_ok b C _ h4
      refine ⟨fun b0 => r_ite (i1.2.1 h2 b0) (i2.1 b0) (i3.1 b0), fun z => ?_, fun _ _ _ he => ?_⟩
      · cases z
      · cases he
    · cases h
  | .idx a i, X, nm, C, e, h => by
    simp only [okE] at h
    split at h
    · simp only [Bool.and_eq_true] at h
      exact snd_plain rfl fun b0 => e_idx C.cp C.cw C.hu ((okE_ok a C _ h.1.1).1 b0) ((okE_ok i C _ h.1.2).1 b0) (plain_ix h.2)
    · cases h
  | .slF a lo, X, nm, C, e, h => by
    simp only [okE] at h
    split at h
    · simp only [Bool.and_eq_true] at h
      exact snd_plain rfl fun b0 => e_slF ((okE_ok a C _ h.1).1 b0) ((okE_ok lo C _ h.2).1 b0)
    · cases h
  | .slT a hi, X, nm, C, e, h => by
    simp only [okE] at h
    split at h
    · simp only [Bool.and_eq_true] at h
      exact snd_plain rfl fun b0 => e_slT ((okE_ok a C _ h.1).1 b0) ((okE_ok hi C _ h.2).1 b0)
    · cases h
  | .slB a lo hi, X, nm, C, e, h => by
    simp only [okE] at h
    split at h
    · simp only [Bool.and_eq_true] at h
      exact snd_plain rfl fun b0 => e_slB ((okE_ok a C _ h.1.1).1 b0) ((okE_ok lo C _ h.1.2).1 b0) ((okE_ok hi C _ h.2).1 b0)
    · cases h
  | .rev a, X, nm, C, e, h => by
    simp only [okE] at h
    split at h
    · exact snd_plain rfl fun b0 => e_rev ((okE_ok a C _ h).1 b0)
    · cases h
  | .call f es, X, nm, C, e, h => by
    simp only [okE] at h
    split at h
    · simp only [Bool.and_eq_true, decide_eq_true_eq] at h
      obtain ⟨⟨⟨⟨⟨h1, h2⟩, h3⟩, h4⟩, h5⟩, h6⟩ := h
      obtain ⟨np, hnp⟩ := Option.isSome_iff_exists.mp h4
      cases es with
      | cons e1 es =>
        have h5' := h5
        simp only [okEs, Bool.and_eq_true, Bool.not_eq_true'] at h5'
        exact snd_plain rfl fun b0 => e_call (C.call f np hnp) h1 (gl_of C h2) (okEs_ok (.cons e1 es) C _ h5 b0).1 (dbg_of h3).1 (star_no h5'.1.2) (stars_no h5'.2 h6 _ _)
      | nil => simp [okEs] at h5
      | star _ _ => cases h6
    · cases h
  | .isi a t, X, nm, C, e, h => by
    simp only [okE] at h
    split at h
    · simp only [Bool.and_eq_true, Bool.not_eq_true'] at h
      obtain ⟨⟨⟨⟨h1, h2⟩, h3⟩, h4⟩, h5⟩ := h
      simp only [tyB, Bool.and_eq_true, Bool.not_eq_true', decide_eq_true_eq] at h2
      obtain ⟨e1, g1, m1⟩ := fre_of C h1
      obtain ⟨e2, g2, m2⟩ := fre_of C h3
      subst e2
      refine snd_plain rfl fun b0 => e_isi h2.1 e1 g1 m1 g2 m2 ?_ ?_ ?_ ((okE_ok a C _ h4).1 b0) (star_no h5)
      · cases t <;> first | decide +kernel | cases h2.1
      · cases t <;> first | decide | cases h2.1
      · cases t <;> first | decide | cases h2.1
    · cases h
  | .bi b es, X, nm, C, e, h => by
    simp only [okE] at h
    split at h
    · simp only [Bool.and_eq_true] at h
      cases es with
      | cons e1 es =>
        have h5' := h.1.2
        simp only [okEs, Bool.and_eq_true, Bool.not_eq_true'] at h5'
        exact snd_plain rfl fun b0 => bi_ok C h.1.1.1 h.1.1.2 (star_no h5'.1.2) (stars_no h5'.2 h.2 _ _) b0 (okEs_ok (.cons e1 es) C _ h.1.2 b0).2
      | nil => simp [okEs] at h
      | star _ _ => simp [noSt] at h
    · cases h
  | .lm m o es, X, nm, C, e, h => by
    unfold okE at h
    split at h
    · split at h
      · simp only [Bool.and_eq_true, decide_eq_true_eq] at h
        obtain ⟨⟨⟨⟨⟨h1, h2⟩, h3⟩, h7⟩, h4⟩, h5⟩ := h
        cases es with
        | cons e1 es =>
          have h3' := h3
          simp only [okEs, Bool.and_eq_true, Bool.not_eq_true'] at h3'
          exact snd_plain rfl fun b0 => e_append h1 ((okE_ok o C _ h2).1 b0) (okEs_ok (.cons e1 es) C _ h3 b0).1 (base_no h4) h5 (star_no h3'.1.2)
        | nil => simp [okEs] at h3
        | star _ _ => cases h7
      · simp only [Bool.and_eq_true, decide_eq_true_eq] at h
        obtain ⟨⟨⟨⟨⟨⟨h1, h2⟩, h3⟩, h4⟩, h7⟩, h5⟩, h6⟩ := h
        obtain ⟨v, hv, hd⟩ := cst_ok C h3
        have ev : v = .str (tS _) := hd ⟨fun _ => 0, 0, fun _ => none⟩
        rw [ev] at hv
        cases es with
        | cons e1 es =>
          have h4' := h4
          simp only [okEs, Bool.and_eq_true, Bool.not_eq_true'] at h4'
          cases es with
          | nil =>
            have z := (okE_ok e1 C _ h4'.1.1).1
            exact snd_plain rfl fun b0 => peMono (e_sindex h1 h2 hv (z b0) (base_no h5) h6 (star_no h4'.1.2)) fun σ H Q x => by
              obtain ⟨c, h, s, P, a1, a2, a3, a4, t, post⟩ := x
              exact ⟨c, h, s, P, a1, a2, a3, a4, t.2, post⟩
          | cons _ _ => simp [okEs] at h4
          | star _ _ => simp [noSt] at h7
        | nil => simp [okEs] at h4
        | star _ _ => simp [noSt] at h7
      · cases h
    · cases h
  | .lmT m o b, X, nm, C, e, h => by
    unfold okE at h
    split at h
    · split at h
      · simp only [Bool.and_eq_true, decide_eq_true_eq, Bool.not_eq_true'] at h
        obtain ⟨⟨⟨⟨⟨h1, h3⟩, h4⟩, h2⟩, h5⟩, h6⟩ := h
        obtain ⟨v, hv, hd⟩ := cst_ok C h3
        have ev : v = .str (tS _) := hd ⟨fun _ => 0, 0, fun _ => none⟩
        rw [ev] at hv
        have z := (okE_ok b C _ h4).1
        exact snd_plain rfl fun b0 => peMono (e_join h1 hv (z b0) (base_no h5) h6 (star_no h2)) fun σ H Q x => by
          obtain ⟨c, h, s, P, a1, a2, a3, a4, t, post⟩ := x
          exact ⟨c, h, s, P, a1, a2, a3, a4, t.2, post⟩
      · simp only [Bool.and_eq_true, decide_eq_true_eq, Bool.not_eq_true'] at h
        obtain ⟨⟨⟨⟨⟨h1, h3⟩, h4⟩, h2⟩, h5⟩, h6⟩ := h
        exact snd_plain rfl fun b0 => e_extend h1 ((okE_ok o C _ h3).1 b0) ((okE_ok b C _ h4).1 b0) (base_no h5) h6 (star_no h2)
      · cases h
    · cases h
  | .toL i, X, nm, C, e, h => by
    cases i with
    | val a =>
      simp only [okE] at h
      split at h
      · simp only [Bool.and_eq_true, Bool.not_eq_true'] at h
        obtain ⟨e1, g1, m1⟩ := fre_of C h.1.1
        have z := (okE_ok a C _ h.1.2).1
        exact snd_plain rfl fun b0 => e_toL e1 C.calm g1 m1 (z b0) (star_no h.2)
      · cases h
    | rng a =>
      simp only [okE] at h
      split at h
      · simp only [Bool.and_eq_true, Bool.not_eq_true'] at h
        obtain ⟨e1, g1, m1⟩ := fre_of C h.1.1.1
        obtain ⟨e2, g2, m2⟩ := fre_of C h.1.1.2
        have z := (okE_ok a C _ h.1.2).1
        exact snd_plain rfl fun b0 => e_toLr e1 e2 C.calm g1 m1 g2 m2 (z b0) (star_no h.2)
      · cases h
    | _ => simp [okE] at h
  | .toT i, X, nm, C, e, h => by
    cases i with
    | seq a =>
      simp only [okE] at h
      split at h
      · simp only [Bool.and_eq_true, Bool.not_eq_true'] at h
        obtain ⟨e1, g1, m1⟩ := fre_of C h.1.1
        have z := (okE_ok a C _ h.1.2).1
        exact snd_plain rfl fun b0 => e_toT e1 g1 m1 (z b0) (star_no h.2)
      · cases h
    | rng a =>
      simp only [okE] at h
      split at h
      · simp only [Bool.and_eq_true, Bool.not_eq_true'] at h
        obtain ⟨e1, g1, m1⟩ := fre_of C h.1.1.1
        obtain ⟨e2, g2, m2⟩ := fre_of C h.1.1.2
        have z := (okE_ok a C _ h.1.2).1
        exact snd_plain rfl fun b0 => e_toTr e1 e2 C.calm g1 m1 g2 m2 (z b0) (star_no h.2)
      · cases h
    | _ => simp [okE] at h
  | .srt i, X, nm, C, e, h => by
    cases i with
    | seq a =>
      simp only [okE] at h
      split at h
      · simp only [Bool.and_eq_true, Bool.not_eq_true'] at h
        obtain ⟨e1, g1, m1⟩ := fre_of C h.1.1
        have z := (okE_ok a C _ h.1.2).1
        exact snd_plain rfl fun b0 => e_srt e1 C.hu g1 m1 (z b0) (star_no h.2)
      · cases h
    | _ => simp [okE] at h
  | .dcm k v tg it own, X, nm, C, e, h => by
    simp only [okE] at h
    split at h
    · rename_i x y t i scope p
      simp only [Bool.and_eq_true, Bool.not_eq_true'] at h
      obtain ⟨⟨⟨⟨⟨h1, h2⟩, h3⟩, h4⟩, h5⟩, h6⟩ := h
      have bk := blk_of C h1
      refine snd_plain rfl fun b0 => ?_
      have r := e_dcm (pos := p) (tk := dT Kf R0 k) (tv := dT Kf R0 v) (g := dTg Kf R0 tg) (wi := dI Kf R0 it) (b0 := b0) C.cp C.cw C.hu C.calm (C.n ▸ C.nd) (okI_ok it C _ _ h3 b0) bk (fun s H D cl fp => by rw [own_map]; exact okT_ok tg own (blk_ctx C bk s H D cl fp) _ h2 b0)
        (fun s H D cl fp => (okE_ok k (blk_ctx C bk s H D cl fp) _ h5).1 b0) (fun s H D cl fp => (okE_ok v (blk_ctx C bk s H D cl fp) _ h6).1 b0) (fold_no h4)
      rw [own_map] at r
      exact r
    · cases h
  | .sset a, X, nm, C, e, h => by
    simp only [okE] at h
    split at h
    · simp only [Bool.and_eq_true, Bool.not_eq_true'] at h
      obtain ⟨e1, g1, m1⟩ := fre_of C h.1.1.1
      obtain ⟨e2, g2, m2⟩ := fre_of C h.1.1.2
      have z := (okE_ok a C _ h.1.2).1
      exact snd_plain rfl fun b0 => e_sset e1 e2 C.calm C.hu g1 m1 g2 m2 (z b0) (star_no h.2)
    · cases h
  | .lset a, X, nm, C, e, h => by
    simp only [okE] at h
    split at h
    · simp only [Bool.and_eq_true, Bool.not_eq_true'] at h
      obtain ⟨e1, g1, m1⟩ := fre_of C h.1.1.1
      obtain ⟨e2, g2, m2⟩ := fre_of C h.1.1.2
      have z := (okE_ok a C _ h.1.2).1
      exact snd_plain rfl fun b0 => e_lset e1 e2 C.calm g1 m1 g2 m2 (z b0) (star_no h.2)
    · cases h
  | .dic es, X, nm, C, e, h => by
    unfold okE at h
    split at h
    · split at h
      · exact snd_plain rfl fun b0 => peMono e_dic0 fun σ H Q x => by
          obtain ⟨c, h, s, P, a1, a2, a3, a4, t, post⟩ := x
          exact ⟨c, h, s, P, a1, a2, a3, a4, t.2.2, post⟩
      · cases h
    · split at h
      · rename_i k v
        simp only [Bool.and_eq_true] at h
        exact snd_plain rfl fun b0 => peMono (e_dicA ((okE_ok k C _ h.1).1 b0) ((okE_ok v C _ h.2).1 b0)) fun σ H Q x => by
          obtain ⟨c, h, s, P, a1, a2, a3, a4, t, post⟩ := x
          exact ⟨c, h, s, P, a1, a2, a3, a4, dic1_of t, post⟩
      · cases h
    · cases h
  | .dicT k v, X, nm, C, e, h => by
    simp only [okE] at h
    split at h
    · simp only [Bool.and_eq_true] at h
      exact snd_plain rfl fun b0 => e_dicT C.cp C.cw C.hu ((okE_ok k C _ h.1).1 b0) ((okE_ok v C _ h.2).1 b0)
    · cases h
  | .comp elt tg it ifs own, X, nm, C, e, h => by
    simp only [okE] at h
    split at h
    · rename_i x t i fs scope p
      simp only [Bool.and_eq_true, Bool.not_eq_true'] at h
      obtain ⟨⟨⟨⟨⟨h1, h2⟩, h3⟩, h4⟩, h5⟩, h6⟩ := h
      have bk := blk_of C h1
      refine snd_plain rfl fun b0 => ?_
      have r := e_comp (pos := p) (te := dT Kf R0 elt) (tt := dIfs Kf ifs) (g := dTg Kf R0 tg) (wi := dI Kf R0 it) (b0 := b0) C.calm (C.n ▸ C.nd) (okI_ok it C _ _ h3 b0) bk (fun s H D cl fp => by rw [own_map]; exact okT_ok tg own (blk_ctx C bk s H D cl fp) _ h2 b0)
        (fun s H D cl fp => okF_ok ifs (blk_ctx C bk s H D cl fp) _ h5 b0) (fun s H D cl fp => (okE_ok elt (blk_ctx C bk s H D cl fp) _ h6).1 b0) (fold_no h4)
      rw [own_map] at r
      exact r
    · cases h
  | .fld _ _, _, _, _, _, h => by simp [okE] at h
  | .mth _ _ _, _, _, _, _, h => by simp [okE] at h
  | .new _ _, _, _, _, _, h => by simp [okE] at h
  | .srtL _, _, _, _, _, h => by simp [okE] at h
  | .com2 _ _ _ _ _ _ _ _, _, _, _, _, h => by simp [okE] at h
theorem okEs_ok : ∀ (es : Es) {X : L2.Cx} {nm : Nms} (C : CtxOk X ct Kf G N nm) (xs : List Expr), okEs G N es nm xs = true → ∀ b0, PA X xs (LA X.K ct b0 (dEs Kf R0 es)) ∧ PA X xs (LV X.K ct b0 (dTs Kf R0 es))
  | .nil, X, nm, C, xs, h => fun b0 => by
    cases xs with
    | nil => exact ⟨a_nil, v_nil⟩
    | cons _ _ => simp [okEs] at h
  | .cons e es, X, nm, C, xs, h => fun b0 => by
    cases xs with
    | nil => simp [okEs] at h
    | cons x xs =>
      simp only [okEs, Bool.and_eq_true, Bool.not_eq_true'] at h
      obtain ⟨⟨h1, h2⟩, h3⟩ := h
      have i1 := (okE_ok e C _ h1).1 b0
      have i2 := okEs_ok es C _ h3 b0
      exact ⟨a_cons i1 i2.1 (star_no h2), v_cons i1 i2.2 (star_no h2)⟩
  | .star e es, X, nm, C, xs, h => fun b0 => by
    cases xs with
    | nil => simp [okEs] at h
    | cons x xs =>
      simp only [okEs, Bool.and_eq_true] at h
      obtain ⟨h1, h3⟩ := h
      split at h1
      · have i1 := (okE_ok e C _ h1).1 b0
        have i2 := okEs_ok es C _ h3 b0
        rename_i y p
        have r := a_star (p := p) i1 i2.1 rfl
        exact ⟨r, paMono r fun σ H Q x => by
          obtain ⟨c, h, s, P, a1, a2, a3, a4, t, post⟩ := x
          exact t.elim⟩
      · cases h1
theorem okF_ok : ∀ (es : Es) {X : L2.Cx} {nm : Nms} (C : CtxOk X ct Kf G N nm) (xs : List Expr), okF G N es nm xs = true → ∀ b0, PTs X xs (LF X.K ct b0 (dIfs Kf es))
  | .nil, X, nm, C, xs, h => fun b0 => by
    cases xs with
    | nil => exact f_nil
    | cons _ _ => simp [okF] at h
  | .cons e es, X, nm, C, xs, h => fun b0 => by
    cases es with
    | nil =>
      cases xs with
      | nil => simp [okF] at h
      | cons x xs =>
        cases xs with
        | nil =>
          simp only [okF, Bool.and_eq_true] at h
          exact f_one ((okE_ok e C _ h.1).2.1 h.2 b0)
        | cons _ _ => simp [okF] at h
    | cons _ _ => simp [okF] at h
    | star _ _ => simp [okF] at h
  | .star _ _, X, nm, C, xs, h => by simp [okF] at h
theorem okI_ok : ∀ (i : I) {X : L2.Cx} {nm : Nms} (C : CtxOk X ct Kf G N nm) (tg e : Expr), okI G N i (isTup tg) nm e = true → ∀ b0, PI X tg e (LI X.K ct b0 (dI Kf R0 i))
  | .val a, X, nm, C, tg, e, h => fun b0 => by
    simp only [okI] at h
    exact i_val ((okE_ok a C _ h).1 b0)
  | .rng a, X, nm, C, tg, e, h => fun b0 => by
    simp only [okI] at h
    split at h
    · simp only [Bool.and_eq_true, Bool.not_eq_true'] at h
      obtain ⟨e1, g1, m1⟩ := fre_of C h.1.1
      exact i_rng e1 g1 m1 ((okE_ok a C _ h.1.2).1 b0) (star_no h.2)
    · cases h
  | .rg2 a b, X, nm, C, tg, e, h => fun b0 => by
    simp only [okI] at h
    split at h
    · simp only [Bool.and_eq_true, Bool.not_eq_true'] at h
      obtain ⟨⟨⟨⟨h1, h2⟩, h3⟩, h4⟩, h5⟩ := h
      obtain ⟨e1, g1, m1⟩ := fre_of C h1
      exact i_rg2 e1 g1 m1 ((okE_ok a C _ h2).1 b0) ((okE_ok b C _ h4).1 b0) (star_no h3) (star_no h5)
    · cases h
  | .zip a b, X, nm, C, tg, e, h => fun b0 => by
    simp only [okI] at h
    split at h
    · simp only [Bool.and_eq_true, Bool.not_eq_true'] at h
      obtain ⟨⟨⟨⟨⟨h0, h1⟩, h2⟩, h3⟩, h4⟩, h5⟩ := h
      obtain ⟨e1, g1, m1⟩ := fre_of C h1
      cases tg with
      | Tuple _ _ _ => exact i_zip e1 g1 m1 ((okE_ok a C _ h2).1 b0) ((okE_ok b C _ h4).1 b0) (star_no h3) (star_no h5)
      | _ => cases h0
    · cases h
  | .enu a, X, nm, C, tg, e, h => fun b0 => by
    simp only [okI] at h
    split at h
    · simp only [Bool.and_eq_true, Bool.not_eq_true'] at h
      obtain ⟨⟨⟨h0, h1⟩, h2⟩, h3⟩ := h
      obtain ⟨e1, g1, m1⟩ := fre_of C h1
      cases tg with
      | Tuple _ _ _ => exact i_enu e1 g1 m1 ((okE_ok a C _ h2).1 b0) (star_no h3)
      | _ => cases h0
    · cases h
  | .keys a, X, nm, C, tg, e, h => fun b0 => by
    simp only [okI] at h
    exact i_keys C.cp C.cw ((okE_ok a C _ h).1 b0)
  | .seq _, X, nm, C, tg, e, h => by simp [okI] at h
  | .vals _, X, nm, C, tg, e, h => by simp [okI] at h
theorem okT_ok : ∀ (t : T) (own : List Nat) {X : L2.Cx} {nm : Nms} (C : CtxOk X ct Kf G N nm) (e : Expr), okT G N t own nm e = true → ∀ b0, PG X e (LGw X.K ct b0 own (dTg Kf R0 t))
  | .nm i, own, X, nm, C, e, h => fun b0 => by
    simp only [okT] at h
    split at h
    · simp only [Bool.and_eq_true] at h
      obtain ⟨l1, l2⟩ := loc_of C h.2
      exact g_nm (C.n ▸ C.nd) (n_of C h.1.2) l1 l2 (by simpa using h.1.1)
    · cases h
  | .tp ts, own, X, nm, C, e, h => fun b0 => by
    simp only [okT] at h
    split at h
    · obtain ⟨p1, p2, p3⟩ := okTs_ok ts own C _ h
      exact g_tp C.calm (p1 b0) p2 p3
    · cases h
  | .sb _ _, own, X, nm, C, e, h => by simp [okT] at h
  | .fl _ _, own, X, nm, C, e, h => by simp [okT] at h
theorem okTs_ok : ∀ (ts : Ts) (own : List Nat) {X : L2.Cx} {nm : Nms} (C : CtxOk X ct Kf G N nm) (xs : List Expr), okTs G N ts own nm xs = true → (∀ b0, PGs X xs (LGsw X.K ct b0 own (dTgs Kf R0 ts))) ∧ (assignEach xs X.env).length = tsLen ts ∧ (assignEach xs X.env).findIdx? (·.1) = none
  | .nil, own, X, nm, C, xs, h => by
    cases xs with
    | nil =>
      refine ⟨fun b0 => ?_, rfl, rfl⟩
      have := gs_nil (X := X) (ct := ct) (b0 := b0) (own := own)
      have e : (dTgs Kf R0 .nil : FGs) = fun xs s h Q => match xs with
        | [] => Q s h
        | _ :: _ => False := by
        funext xs s h Q
        cases xs <;> simp [dTgs]
      rw [e]
      exact this
    | cons _ _ => simp [okTs] at h
  | .cons t ts, own, X, nm, C, xs, h => by
    cases xs with
    | nil => simp [okTs] at h
    | cons x xs =>
      simp only [okTs, Bool.and_eq_true, Bool.not_eq_true'] at h
      obtain ⟨⟨h1, h2⟩, h3⟩ := h
      obtain ⟨p1, p2, p3⟩ := okTs_ok ts own C _ h3
      refine ⟨fun b0 => ?_, ?_, ?_⟩
      · have q := gs_cons (okT_ok t own C _ h1 b0) (p1 b0) (by rw [asgn_no h2]; rfl)
        have e : (dTgs Kf R0 (.cons t ts) : FGs) = fun xs s h Q => match xs with
          | x :: xs => dTg Kf R0 t x s h fun s1 h1 => dTgs Kf R0 ts xs s1 h1 Q
          | [] => False := by
          funext xs s h Q
          cases xs <;> simp [dTgs]
        rw [e]
        exact q
      · rw [asgn_no h2, List.length_cons, p2]
        rfl
      · rw [asgn_no h2, List.findIdx?_cons, p3]
        rfl
end
end
end SL

set_option linter.all false
set_option autoImplicit false
set_option maxRecDepth 100000
set_option Elab.async false
set_option maxHeartbeats 2000000
/-! SLCmp3: statements beside their terms. -/
namespace SL
open PySem PySem.Spec PyProof.Rows L2
def isComp : Expr → Bool
  | .ListComp _ _ _ _ => true
  | .SetComp _ _ _ _ => true
  | .DictComp _ _ _ _ _ => true
  | _ => false
theorem swaps_no {e : Expr} {tg : Option Expr} {l : Nat} {env : Env} (h : isComp e = false) : swapsWith e tg l env = pure false := by
  cases e <;> first | rfl | cases h
theorem stores_no {tg e : Expr} {env : Env} (h : (isTup tg && isTup e) = false) : (∀ es p, tg ≠ .List es p) → swappedStores [tg] e env = pure none := by
  intro hl
  cases tg with
  | Tuple _ _ _ =>
    cases e <;> first | rfl | cases h
  | List es p => exact absurd rfl (hl es p)
  | _ => cases e <;> rfl
def notLst : Expr → Bool
  | .List _ _ => false
  | _ => true
def swNames (nm : Nms) (ts : List Expr) : List Str := ts.filterMap fun
  | .Name id pos => if nm.lookup id == some .local && pos.line == (ts.head?.map (·.pos.line)).getD 0 then some id else none
  | _ => none
/-- which names are stored from the right -/
def swB (nm : Nms) (ts vs : List Expr) : Option (Option (List Str)) :=
  if !(ts.length == 2 || ts.length == 3) || vs.length != ts.length then some none
  else if vs.any (fun | .Starred .. => true | _ => false) then some none
  else if (swNames nm ts).length != ts.length || (swNames nm ts).eraseDups.length != (swNames nm ts).length then some none
  else if vs.all (foldedForSure 8) then some none
  else if vs.all (constantsAlone 8) then none
  else some (some (swNames nm ts))
theorem sw_eq {nm : Nms} {ts vs : List Expr} {k k2 : Nat} {p p2 : Pos} {env : Env} {r : Option (List Str)} (hn : env.scope.names = nm) (hk : env.scope.kind = .function) (h : swB nm ts vs = some r) : swappedStores [.Tuple ts k p] (.Tuple vs k2 p2) env = pure r := by
  have hb : (env.blockKind != .function) = false := by
    unfold Env.blockKind
    rw [hk]
    rfl
  subst hn
  unfold swB at h
  unfold swappedStores
  simp only [pure_bind, hb, Bool.or_false]
  split at h
  · rename_i c
    cases h
    exact if_pos c
  · rename_i c
    refine (if_neg c).trans ?_
    split at h
    · rename_i c2
      cases h
      exact if_pos c2
    · rename_i c2
      refine (if_neg c2).trans ?_
      split at h
      · rename_i c3
        cases h
        exact if_pos c3
      · rename_i c3
        refine (if_neg c3).trans ?_
        split at h
        · rename_i c4
          cases h
          exact if_pos c4
        · rename_i c4
          refine (if_neg c4).trans ?_
          split at h
          · cases h
          · rename_i c5
            cases h
            exact if_neg c5
structure DefOk (X : L2.Cx) (ct : Ct) (Kf : Kx) (G : Gt) (N : List Str) (nm : Nms) : Prop where
  c : CtxOk X ct Kf G N nm
  names : X.env.scope.names = nm
  kind : X.env.scope.kind = .function
  own : PassesOwn (model X.prog X.w) X.A X.env X.xe
theorem ls_conv {X : L2.Cx} {ct : Ct} {b0 : Bs} {st : Stmt} {t u : FS} (h : PS X st (LS0 X.K ct b0 u)) (k : ∀ n s h, n.xr = noX → t n s h → u n s h) : PS X st (LS0 X.K ct b0 t) := psMono h fun W σ H x => by
  obtain ⟨c, h, s, n, hx, e, ex, sr, st, t, post⟩ := x
  exact ⟨c, h, s, n, hx, e, ex, sr, st, k n s h hx t, post⟩
theorem lss_conv {X : L2.Cx} {ct : Ct} {b0 : Bs} {st : List Stmt} {t u : FS} (h : PSs X st (LS0 X.K ct b0 u)) (k : ∀ n s h, n.xr = noX → t n s h → u n s h) : PSs X st (LS0 X.K ct b0 t) := pssMono h fun W σ H x => by
  obtain ⟨c, h, s, n, hx, e, ex, sr, st, t, post⟩ := x
  exact ⟨c, h, s, n, hx, e, ex, sr, st, k n s h hx t, post⟩
section
variable (G : Gt) (N : List Str)
def notSl : Expr → Bool
  | .Slice _ _ _ _ => false
  | _ => true
def okTA : T → Nms → Expr → Bool
  | .sb o i, nm, e => match e with
    | .Subscript x y _ => okE G N o nm x && okE G N i nm y && notSl y
    | _ => false
  | t, nm, e => okT G N t (List.range N.length) nm e
def parN (nm : Nms) (ts : Ts) (tgs vs : List Expr) : Bool := match swB nm tgs vs with
  | some none => okTs G N ts (List.range N.length) nm tgs && decide (tsLen ts ≤ 100)
  | some (some names) => (match ts, tgs, vs with
    | .cons (.nm i) (.cons (.nm j) .nil), [.Name x _, .Name y _], [_, _] => decide (names = [x, y]) && nB N i x && nB N j y && decide (i ≠ j) && decide (nm.lookup x = some .local) && decide (nm.lookup y = some .local)
    | .cons (.nm i) (.cons (.nm j) (.cons (.nm l) .nil)), [.Name x _, .Name y _, .Name z _], [_, _, _] => decide (names = [x, y, z]) && nB N i x && nB N j y && nB N l z && decide (i ≠ j) && decide (i ≠ l) && decide (j ≠ l) &&
        decide (nm.lookup x = some .local) && decide (nm.lookup y = some .local) && decide (nm.lookup z = some .local)
    | _, _, _ => false)
  | none => false
def asgC (t : T) (e : E) (nm : Nms) (y : Str) (py : Pos) (v : Expr) : Bool := match t, e, v with
  | .nm i, .comp elt tg it ifs own, .ListComp x [⟨tt, ii, fs, 0⟩] scope p =>
    nB N i y && locB nm y && blkB N nm scope own && okT G N tg own scope.names tt && okI G N it (isTup tt) nm ii && !isSet ii && okF G N ifs scope.names fs && okE G N elt scope.names x && noDbg y
  | .nm i, .dcm k v tg it own, .DictComp x x2 [⟨tt, ii, [], 0⟩] scope p =>
    nB N i y && locB nm y && blkB N nm scope own && okT G N tg own scope.names tt && okI G N it (isTup tt) nm ii && !isSet ii && okE G N k scope.names x && okE G N v scope.names x2 && noDbg y
  | _, _, _ => false
def swC (nm : Nms) (y : Str) (py : Pos) (v : Expr) : Bool := match v with
  | .ListComp _ _ scope p => decide (nm.lookup y = some .local) && (py.line == p.line) && !(scope.names.any fun (n, k) => n == y && (k == .local || k == .cell))
  | .DictComp _ _ _ scope p => decide (nm.lookup y = some .local) && (py.line == p.line) && !(scope.names.any fun (n, k) => n == y && (k == .local || k == .cell))
  | _ => false
mutual
def okS : S → Nms → Stmt → Bool
  | .asg t e, nm, st => match st with
    | .Assign [tg] v _ => (match isComp v with
      | false => okTA G N t nm tg && okE G N e nm v && !(isTup tg && isTup v) && notLst tg && !isStar tg
      | true => (match tg with
        | .Name y py => asgC G N t e nm y py v
        | _ => false))
    | _ => false
  | .par ts es, nm, st => match st with
    | .Assign [.Tuple tgs _ _] (.Tuple vs _ _) _ => parN G N nm ts tgs vs && okEs G N es nm vs
    | _ => false
  | .exp e, nm, st => match st with
    | .Expr v _ => okE G N e nm v && !isComp v
    | _ => false
  | .ret e, nm, st => match st with
    | .Return (some v) _ => okE G N e nm v
    | _ => false
  | .retN, _, st => match st with
    | .Return none _ => true
    | _ => false
  | .ifs c a b, nm, st => match st with
    | .If x p q _ => okE G N c nm x && notIf x && okSs a nm p && okSs b nm q
    | _ => false
  | .for t i b, nm, st => match st with
    | .For tg it body [] _ => okT G N t (List.range N.length) nm tg && okI G N i (isTup tg) nm it && !isSet it && okSs b nm body
    | _ => false
  | .whl c b, nm, st => match st with
    | .While x body [] _ => okE G N c nm x && notIf x && okSs b nm body
    | _ => false
  | .rai0 _, _, st => match st with
    | .Raise _ _ _ => true
    | _ => false
  | .rai1 _ _ (.cst _), _, st => match st with
    | .Raise _ _ _ => true
    | _ => false
  | .rai1 _ _ (.var _), _, st => match st with
    | .Raise _ _ _ => true
    | _ => false
  | .brk, _, st => match st with
    | .Break _ => true
    | _ => false
  | .cnt, _, st => match st with
    | .Continue _ => true
    | _ => false
  | .pas, _, st => match st with
    | .Pass _ => true
    | .Expr (.Constant (.str _) _ _) _ => true
    | _ => false
  | _, _, _ => false
def okSs : Ss → Nms → List Stmt → Bool
  | .nil, _, [] => true
  | .cons s ss, nm, x :: xs => okS s nm x && okSs ss nm xs
  | _, _, _ => false
end
end
section
variable {ct : Ct} {Kf : Kx} {G : Gt} {N : List Str}
theorem asg1 {tg : Expr} {env : Env} (h : isStar tg = false) : (assignEach [tg] env).map (·.2) = [assign tg env] := by rw [asgn_no h]; rfl
theorem sub_rel {X : L2.Cx} {a b : Expr} {pos : Pos} (h : notSl b = true) : ∀ v, assign (.Subscript a b pos) X.env v = (do
      let ov ← holding [v] (eval a X.env)
      let iv ← holding [v, ov] (eval b X.env)
      standAt pos
      holding [v, ov, iv] (setItem ov iv v)
      release [v, ov, iv] []) := fun v => by
  cases b <;> first | rfl | cases h
theorem okTA_ok {X : L2.Cx} {nm : Nms} (C : CtxOk X ct Kf G N nm) (t : T) (e : Expr) (h : okTA G N t nm e = true) (b0 : Bs) : PG X e (LG X.K ct b0 (dTg Kf R0 t)) := by
  cases t with
  | sb o i =>
    simp only [okTA] at h
    split at h
    · simp only [Bool.and_eq_true] at h
      exact g_sub C.cp C.cw C.hu ((okE_ok o C _ h.1.1).1 b0) ((okE_ok i C _ h.1.2).1 b0) (sub_rel h.2)
    · cases h
  | nm i => exact LG.w (okT_ok (.nm i) _ C e h b0)
  | tp ts => exact LG.w (okT_ok (.tp ts) _ C e h b0)
  | fl _ _ => simp [okTA, okT] at h
theorem kind_fn {env : Env} (h : env.scope.kind = .function) : (env.blockKind == .function) = true := by
  unfold Env.blockKind
  rw [h]
  rfl
theorem swap_eq {X : L2.Cx} {nm : Nms} (D : DefOk X ct Kf G N nm) {y : Str} {py : Pos} {x : Expr} {gs : List Comprehension} {scope : Scope} {p : Pos} {l : Nat} : swapsWith (.ListComp x gs scope p) (some (.Name y py)) l X.env = pure (swC nm y py (.ListComp x gs scope p)) := by
  unfold swapsWith swC
  simp only [pure_bind]
  rw [kind_fn D.kind]
  have e : (X.env.kindOf y == some NameKind.local) = decide (nm.lookup y = some NameKind.local) := by
    unfold Env.kindOf
    rw [D.names]
    cases nm.lookup y with
    | none => rfl
    | some k => cases k <;> rfl
  rw [e, Bool.true_and]
  rfl
theorem swap_eqD {X : L2.Cx} {nm : Nms} (D : DefOk X ct Kf G N nm) {y : Str} {py : Pos} {x x2 : Expr} {gs : List Comprehension} {scope : Scope} {p : Pos} {l : Nat} : swapsWith (.DictComp x x2 gs scope p) (some (.Name y py)) l X.env = pure (swC nm y py (.DictComp x x2 gs scope p)) := by
  unfold swapsWith swC
  simp only [pure_bind]
  rw [kind_fn D.kind]
  have e : (X.env.kindOf y == some NameKind.local) = decide (nm.lookup y = some NameKind.local) := by
    unfold Env.kindOf
    rw [D.names]
    cases nm.lookup y with
    | none => rfl
    | some k => cases k <;> rfl
  rw [e, Bool.true_and]
  rfl
mutual
theorem okS_ok : ∀ (s : S) {X : L2.Cx} {nm : Nms} (D : DefOk X ct Kf G N nm) (st : Stmt), okS G N s nm st = true → ∀ b0, PS X st (LS0 X.K ct b0 (dS Kf s))
  | .asg t e, X, nm, D, st, h => fun b0 => by
    simp only [okS] at h
    split at h
    · rename_i tg v p
      split at h
      · rename_i hc
        simp only [Bool.and_eq_true, Bool.not_eq_true'] at h
        obtain ⟨⟨⟨⟨h1, h2⟩, h3⟩, h4⟩, h5⟩ := h
        refine ls_conv (s_asg ((okE_ok e D.c _ h2).1 b0) (okTA_ok D.c t tg h1 b0) (swaps_no hc) (stores_no h3 fun es p z => by subst z; cases h4) (asg1 h5)) fun n s h hx z => ?_
        obtain ⟨n1, n2, n3, n4, n5⟩ := n
        cases hx
        exact z
      · split at h
        · rename_i y py
          unfold asgC at h
          split at h
          · rename_i i elt tg it ifs own x tt ii fs scope p2 _
            simp only [Bool.and_eq_true, Bool.not_eq_true'] at h
            obtain ⟨⟨⟨⟨⟨⟨⟨⟨h1, h2⟩, h3⟩, h4⟩, h5⟩, h6⟩, h7⟩, h8⟩, h9⟩ := h
            have bk := blk_of D.c h3
            have hN : X.N.Nodup := D.c.n ▸ D.c.nd
            have a1 : ∀ s H E cl fp, PG (X.blk s H scope (compEnvC scope cl E X.env) fp) tt (LGw X.K ct b0 ((ownP N own).map (·.2)) (dTg Kf R0 tg)) := fun s H E cl fp => by rw [own_map]; exact okT_ok tg own (blk_ctx D.c bk s H E cl fp) _ h4 b0
            have a2 : ∀ s H E cl fp, PTs (X.blk s H scope (compEnvC scope cl E X.env) fp) fs (LF X.K ct b0 (dIfs Kf ifs)) := fun s H E cl fp => okF_ok ifs (blk_ctx D.c bk s H E cl fp) _ h7 b0
            have a3 : ∀ s H E cl fp, PE (X.blk s H scope (compEnvC scope cl E X.env) fp) x (LT X.K ct b0 (dT Kf R0 elt)) := fun s H E cl fp => (okE_ok elt (blk_ctx D.c bk s H E cl fp) _ h8).1 b0
            cases hs : swC nm y py (.ListComp x [⟨tt, ii, fs, 0⟩] scope p2) with
            | true =>
              have hl : X.env.scope.names.lookup y = some .local := by
                rw [D.names]
                simp only [swC, Bool.and_eq_true, decide_eq_true_eq] at hs
                exact hs.1.1
              have q := s_setC (ct := ct) (b0 := b0) (spos := p) D.c.calm hN (n_of D.c h1) hl (by rw [swap_eq D, hs]) (okI_ok it D.c tt ii h5 b0) bk a1 a2 a3 (fold_no h6)
              rw [own_map] at q
              refine ls_conv q fun n s h hx z => ?_
              obtain ⟨n1, n2, n3, n4, n5⟩ := n
              cases hx
              exact z
            | false =>
              have q := e_comp (pos := p2) (ct := ct) (b0 := b0) D.c.calm hN (okI_ok it D.c tt ii h5 b0) bk a1 a2 a3 (fold_no h6)
              rw [own_map] at q
              obtain ⟨l1, l2⟩ := loc_of D.c h2
              refine ls_conv (s_asg q (LG.w (g_nm (own := [i]) hN (n_of D.c h1) l1 l2 (List.mem_singleton_self i))) ((swap_eq D (l := p.line)).trans (congrArg pure hs)) rfl rfl) fun n s h hx z => ?_
              obtain ⟨n1, n2, n3, n4, n5⟩ := n
              cases hx
              exact z
          · rename_i i k v tg it own x x2 tt ii scope p2 _
            simp only [Bool.and_eq_true, Bool.not_eq_true'] at h
            obtain ⟨⟨⟨⟨⟨⟨⟨⟨h1, h2⟩, h3⟩, h4⟩, h5⟩, h6⟩, h7⟩, h8⟩, h9⟩ := h
            have bk := blk_of D.c h3
            have hN : X.N.Nodup := D.c.n ▸ D.c.nd
            have a1 : ∀ s H E cl fp, PG (X.blk s H scope (compEnvC scope cl E X.env) fp) tt (LGw X.K ct b0 ((ownP N own).map (·.2)) (dTg Kf R0 tg)) := fun s H E cl fp => by rw [own_map]; exact okT_ok tg own (blk_ctx D.c bk s H E cl fp) _ h4 b0
            have a2 : ∀ s H E cl fp, PE (X.blk s H scope (compEnvC scope cl E X.env) fp) x (LT X.K ct b0 (dT Kf R0 k)) := fun s H E cl fp => (okE_ok k (blk_ctx D.c bk s H E cl fp) _ h7).1 b0
            have a3 : ∀ s H E cl fp, PE (X.blk s H scope (compEnvC scope cl E X.env) fp) x2 (LT X.K ct b0 (dT Kf R0 v)) := fun s H E cl fp => (okE_ok v (blk_ctx D.c bk s H E cl fp) _ h8).1 b0
            cases hs : swC nm y py (.DictComp x x2 [⟨tt, ii, [], 0⟩] scope p2) with
            | true =>
              have hl : X.env.scope.names.lookup y = some .local := by
                rw [D.names]
                simp only [swC, Bool.and_eq_true, decide_eq_true_eq] at hs
                exact hs.1.1
              have q := s_setD (ct := ct) (b0 := b0) (spos := p) D.c.cp D.c.cw D.c.hu D.c.calm hN (n_of D.c h1) hl (by rw [swap_eqD D, hs]) (okI_ok it D.c tt ii h5 b0) bk a1 a2 a3 (fold_no h6)
              rw [own_map] at q
              refine ls_conv q fun n s h hx z => ?_
              obtain ⟨n1, n2, n3, n4, n5⟩ := n
              cases hx
              exact z
            | false =>
              have q := e_dcm (pos := p2) (ct := ct) (b0 := b0) D.c.cp D.c.cw D.c.hu D.c.calm hN (okI_ok it D.c tt ii h5 b0) bk a1 a2 a3 (fold_no h6)
              rw [own_map] at q
              obtain ⟨l1, l2⟩ := loc_of D.c h2
              refine ls_conv (s_asg q (LG.w (g_nm (own := [i]) hN (n_of D.c h1) l1 l2 (List.mem_singleton_self i))) ((swap_eqD D (l := p.line)).trans (congrArg pure hs)) rfl rfl) fun n s h hx z => ?_
              obtain ⟨n1, n2, n3, n4, n5⟩ := n
              cases hx
              exact z
          · cases h
        · cases h
    · cases h
  | .par ts es, X, nm, D, st, h => fun b0 => by
    simp only [okS] at h
    split at h
    · rename_i tgs k1 p1 vs k2 p2 p
      simp only [Bool.and_eq_true] at h
      obtain ⟨h1, h2⟩ := h
      have hN : X.N.Nodup := D.c.n ▸ D.c.nd
      have ha := (okEs_ok es D.c _ h2 b0).1
      unfold parN at h1
      split at h1
      · rename_i hs
        simp only [Bool.and_eq_true, decide_eq_true_eq] at h1
        obtain ⟨q1, q2, q3⟩ := okTs_ok ts _ D.c _ h1.1
        refine ls_conv (s_par ha (LG.w (g_tp D.c.calm (q1 b0) q2 q3)) (by have := h1.2; show tsLen ts ≤ 16777216; omega) rfl (sw_eq D.names D.kind hs) rfl) fun n s h hx z => ?_
        obtain ⟨n1, n2, n3, n4, n5⟩ := n
        cases hx
        exact z
      · rename_i names hs
        split at h1
        · rename_i i j x px y py a b
          simp only [Bool.and_eq_true, decide_eq_true_eq] at h1
          obtain ⟨⟨⟨⟨⟨rfl, h3⟩, h4⟩, h5⟩, h6⟩, h7⟩ := h1
          refine ls_conv (s_par2 D.c.calm hN (n_of D.c h3) (n_of D.c h4) h5 (by rw [D.names]; exact h6) (by rw [D.names]; exact h7) ha (sw_eq D.names D.kind hs) rfl) fun n s h hx z => ?_
          obtain ⟨n1, n2, n3, n4, n5⟩ := n
          cases hx
          have e2 : (fun (xs : List SL.D) (h1 : SL.Hp) => xs.length = tsLen (.cons (.nm i) (.cons (.nm j) .nil)) ∧ dTgs Kf R0 (.cons (.nm i) (.cons (.nm j) .nil)) xs s h1 n1) = fun xs h1 => match xs with
            | [u, v] => n1 ((s.set i (some u)).set j (some v)) h1
            | _ => False := by
            funext xs h1
            cases xs with
            | nil => simp [tsLen]
            | cons u xs =>
              cases xs with
              | nil => simp [tsLen]
              | cons v xs => cases xs <;> simp [tsLen, dTgs, dTg]
          have z' : dEs Kf R0 es s h (fun xs h1 => xs.length = tsLen (.cons (.nm i) (.cons (.nm j) .nil)) ∧ dTgs Kf R0 (.cons (.nm i) (.cons (.nm j) .nil)) xs s h1 n1) := z
          rw [e2] at z'
          exact z'
        · rename_i i j l x px y py w pw a b c
          simp only [Bool.and_eq_true, decide_eq_true_eq] at h1
          obtain ⟨⟨⟨⟨⟨⟨⟨⟨⟨rfl, h3⟩, h4⟩, h5⟩, h6⟩, h7⟩, h8⟩, h9⟩, h10⟩, h11⟩ := h1
          refine ls_conv (s_par3 D.c.calm hN (n_of D.c h3) (n_of D.c h4) (n_of D.c h5) h6 h7 h8 (by rw [D.names]; exact h9) (by rw [D.names]; exact h10) (by rw [D.names]; exact h11) ha (sw_eq D.names D.kind hs) rfl) fun n s h hx z => ?_
          obtain ⟨n1, n2, n3, n4, n5⟩ := n
          cases hx
          have e2 : (fun (xs : List SL.D) (h1 : SL.Hp) => xs.length = tsLen (.cons (.nm i) (.cons (.nm j) (.cons (.nm l) .nil))) ∧ dTgs Kf R0 (.cons (.nm i) (.cons (.nm j) (.cons (.nm l) .nil))) xs s h1 n1) = fun xs h1 => match xs with
            | [u, v, w] => n1 (((s.set i (some u)).set j (some v)).set l (some w)) h1
            | _ => False := by
            funext xs h1
            cases xs with
            | nil => simp [tsLen]
            | cons u xs =>
              cases xs with
              | nil => simp [tsLen]
              | cons v xs =>
                cases xs with
                | nil => simp [tsLen]
                | cons w xs => cases xs <;> simp [tsLen, dTgs, dTg]
          have z' : dEs Kf R0 es s h (fun xs h1 => xs.length = tsLen (.cons (.nm i) (.cons (.nm j) (.cons (.nm l) .nil))) ∧ dTgs Kf R0 (.cons (.nm i) (.cons (.nm j) (.cons (.nm l) .nil))) xs s h1 n1) := z
          rw [e2] at z'
          exact z'
        · cases h1
      · cases h1
    · cases h
  | .exp e, X, nm, D, st, h => fun b0 => by
    simp only [okS] at h
    split at h
    · simp only [Bool.and_eq_true, Bool.not_eq_true'] at h
      refine ls_conv (s_exp ((okE_ok e D.c _ h.1).1 b0) (swaps_no h.2)) fun n s h hx z => ?_
      obtain ⟨n1, n2, n3, n4, n5⟩ := n
      cases hx
      exact z
    · cases h
  | .ret e, X, nm, D, st, h => fun b0 => by
    simp only [okS] at h
    split at h
    · refine ls_conv (s_ret ((okE_ok e D.c _ h).1 b0)) fun n s h hx z => ?_
      obtain ⟨n1, n2, n3, n4, n5⟩ := n
      cases hx
      exact z
    · cases h
  | .retN, X, nm, D, st, h => fun b0 => by
    simp only [okS] at h
    split at h
    · exact s_retN
    · cases h
  | .ifs c a b, X, nm, D, st, h => fun b0 => by
    simp only [okS] at h
    split at h
    · simp only [Bool.and_eq_true] at h
      obtain ⟨⟨⟨h1, h2⟩, h3⟩, h4⟩ := h
      refine ls_conv (s_if ((okE_ok c D.c _ h1).2.1 h2 b0) (okSs_ok a D _ h3 b0) (okSs_ok b D _ h4 b0)) fun n s h hx z => ?_
      obtain ⟨n1, n2, n3, n4, n5⟩ := n
      cases hx
      exact z
    · cases h
  | .for t i b, X, nm, D, st, h => fun b0 => by
    simp only [okS] at h
    split at h
    · rename_i tg it body p
      simp only [Bool.and_eq_true, Bool.not_eq_true'] at h
      obtain ⟨⟨⟨h1, h2⟩, h3⟩, h4⟩ := h
      refine ls_conv (s_for D.own D.c.calm (okI_ok i D.c tg _ h2 b0) (LG.w (okT_ok t _ D.c _ h1 b0)) (okSs_ok b D _ h4) (fold_no h3)) fun n s h hx z => ?_
      obtain ⟨n1, n2, n3, n4, n5⟩ := n
      cases hx
      exact z
    · cases h
  | .whl c b, X, nm, D, st, h => fun b0 => by
    simp only [okS] at h
    split at h
    · simp only [Bool.and_eq_true] at h
      obtain ⟨⟨h1, h2⟩, h3⟩ := h
      refine ls_conv (s_whl D.own ((okE_ok c D.c _ h1).2.1 h2 b0) (okSs_ok b D _ h3 b0)) fun n s h hx z => ?_
      obtain ⟨n1, n2, n3, n4, n5⟩ := n
      cases hx
      exact z
    · cases h
  | .rai0 c, X, nm, D, st, h => fun b0 => s_no fun n s h hx z => by
    obtain ⟨n1, n2, n3, n4, n5⟩ := n
    cases hx
    exact z
  | .rai1 c f e, X, nm, D, st, h => fun b0 => by
    cases e with
    | cst d =>
      refine s_no fun n s h hx z => ?_
      obtain ⟨n1, n2, n3, n4, n5⟩ := n
      cases hx
      exact z
    | var i =>
      refine s_no fun n s h hx z => ?_
      obtain ⟨n1, n2, n3, n4, n5⟩ := n
      cases hx
      have z' : (match s[i]? with
        | some (some x) => False
        | _ => False) := z
      split at z' <;> exact z'
    | _ => simp [okS] at h
  | .tri _ _ _, X, nm, D, st, h => by simp [okS] at h
  | .del _ _, X, nm, D, st, h => by simp [okS] at h
  | .brk, X, nm, D, st, h => fun b0 => by
    simp only [okS] at h
    split at h
    · exact s_brk
    · cases h
  | .cnt, X, nm, D, st, h => fun b0 => by
    simp only [okS] at h
    split at h
    · exact s_cnt
    · cases h
  | .pas, X, nm, D, st, h => fun b0 => by
    simp only [okS] at h
    split at h
    · exact s_pas
    · exact s_doc
    · cases h
theorem okSs_ok : ∀ (ss : Ss) {X : L2.Cx} {nm : Nms} (D : DefOk X ct Kf G N nm) (xs : List Stmt), okSs G N ss nm xs = true → ∀ b0, PSs X xs (LS0 X.K ct b0 (dSs Kf ss))
  | .nil, X, nm, D, xs, h => fun b0 => by
    cases xs with
    | nil => exact ss_nil
    | cons _ _ => simp [okSs] at h
  | .cons s ss, X, nm, D, xs, h => fun b0 => by
    cases xs with
    | nil => simp [okSs] at h
    | cons x xs =>
      simp only [okSs, Bool.and_eq_true] at h
      exact lss_conv (ss_cons (t := dS Kf s) (u := dSs Kf ss) (okS_ok s D _ h.1 b0) (okSs_ok ss D _ h.2 b0)) fun n s h hx z => z
end
end
end SL

set_option linter.all false
set_option autoImplicit false
set_option maxRecDepth 100000
set_option Elab.async false
set_option maxHeartbeats 2000000
/-! SLProg: all defs together; the law's end. -/
namespace SL
open PySem PySem.Spec PyProof.Rows L2
/-- a def of the text and its term -/
structure Have (K : PySem.W.Frag) (mg : Str → Option Value) (G : Gt) (f : String) (fd : Fn) : Prop where
  ex : ∃ fa fdat qual params body scope N ps, FunD K (Str.ofString f) qual params body scope [] [] fa fdat ∧ mg (Str.ofString f) = some (.ref fa) ∧ FnScope N ps scope ∧ N.length = fd.ns ∧ ps.length = fd.np ∧ okSs G N fd.body scope.names body = true ∧ Binds K fdat ps []
structure Link (K : PySem.W.Frag) (mg : Str → Option Value) (G : Gt) (P : Prog) : Prop where
  have_ : ∀ f fd, P.lookup f = some fd → Have K mg G f fd
  fns : ∀ f np, G.fns.lookup f = some np → ∃ fd, P.lookup f = some fd ∧ fd.np = np
  con : ∀ x d, G.con.lookup x = some d → ∃ v u, mg x = some u ∧ RelV v u ∧ ∀ c, DR K c d v
  fre : ∀ x, x ∈ G.fre → mg x = none
theorem sto_ini {K : PySem.W.Frag} {c : Bs} {N : List Str} {np ns : Nat} {args : List D} {vs : List V} (r : DRs K c args vs) (h1 : args.length = np) (h2 : N.length = ns) : StoR K c (ini np ns args) (L2.start N vs) := by
  have hl := r.length
  refine ⟨?_, fun i x e => ?_⟩
  · unfold ini L2.start
    rw [List.length_append, List.length_append, List.length_map, List.length_map, List.length_replicate, List.length_replicate]
    omega
  · unfold ini at e
    by_cases hi : i < args.length
    · rw [List.getElem?_append_left (by rw [List.length_map]; exact hi), List.getElem?_map] at e
      obtain ⟨y, e1, e2⟩ := Option.map_eq_some_iff.mp e
      cases e2
      obtain ⟨v, h3, h4⟩ := DRs.get r e1
      refine ⟨v, ?_, h4⟩
      unfold L2.start
      rw [List.getElem?_append_left (by rw [List.length_map]; omega), List.getElem?_map, h3]
      rfl
    · rw [List.getElem?_append_right (by rw [List.length_map]; omega)] at e
      rw [List.getElem?_replicate] at e
      split at e <;> cases e
theorem prog_ok {Pg : Program} {w : World} {K : PySem.W.Frag} {ct : Ct} (hcp : ct.pr = Pg) (hcw : ct.w = w) {mg : Str → Option Value} {G : Gt} {P : Prog} (L : Link K mg G P) : ∀ (n : Nat) (base : Heap), K.In base → base.Ns mainGlobals mg → ∀ f fd, P.lookup f = some fd →
    ∃ fa fdat ps, mg (Str.ofString f) = some (.ref fa) ∧ PySem.W.keepIn K (.ref fa) = true ∧ Binds K fdat ps [] ∧ ps.length = fd.np ∧ FnG Pg w K mg base n fa fdat ps (spF K ct (callN P n) f fd.np)
  | 0, base, _, _, f, fd, hf => by
    obtain ⟨fa, fdat, qual, params, body, scope, N, ps, F, hm, S, l1, l2, ok, hb⟩ := (L.have_ f fd hf).ex
    refine ⟨fa, fdat, ps, hm, F.kp, hb, l2, ⟨fun vs H Q sp => ?_, fun A outer s H args us vs Q _ _ _ _ _ sp => ?_⟩⟩
    · obtain ⟨_, _, _, _, _, _, _, _, k, _⟩ := sp
      exact k.elim
    · obtain ⟨_, _, _, _, _, _, _, _, k, _⟩ := sp
      exact k.elim
  | n + 1, base, hK, hG, f, fd, hf => by
    obtain ⟨fa, fdat, qual, params, body, scope, N, ps, F, hm, S, l1, l2, ok, hb⟩ := (L.have_ f fd hf).ex
    refine ⟨fa, fdat, ps, hm, F.kp, hb, l2, FnG.of F S (fun vs H Q sp => ?_) fun cdv A outer s H vs Q hgd hr sp => ?_⟩
    · obtain ⟨_, _, _, _, _, _, drs, hl, _⟩ := sp
      rw [drs.length, hl, l2]
    · obtain ⟨c, h, args, Pq, rfl, sr, drs, hl, k, post⟩ := sp
      have D : DefOk (cxOf CX0 Pg w K mg base N qual scope fa cdv A outer s c.H E0) ct ⟨callN P n⟩ G N scope.names := by
        refine ⟨⟨rfl, S.nd, fun x k h _ => h, fun x h => .inr h, fun _ _ => rfl, rfl, hcp, hcw, ?_, hgd, L.con, L.fre, fun f' np' hf' => ?_⟩, rfl, S.kind, passes_of rfl⟩
        · have := hr.un
          show (A.deeper _).units + 200 < cLine
          omega
        · obtain ⟨fd', hp', rfl⟩ := L.fns f' np' hf'
          obtain ⟨fa', fdat', ps', m1, m2, m3, m4, m5⟩ := prog_ok hcp hcw L n base hK hG f' fd' hp'
          refine ⟨fun xs h Q R z => ?_, fa', fdat', n, ps', m1, m2, m3, m4, m5, hr, hgd⟩
          cases n with
          | zero => exact z.elim
          | succ n =>
            have z' : callN P (n + 1) f' xs h Q R := z
            simp only [callN, hp'] at z'
            exact z'.1
      have k' : callN P (n + 1) f args h Pq R0 := k
      simp only [callN, hf] at k'
      refine ⟨_, okSs_ok fd.body D body ok c, c, h, ini fd.np fd.ns args, _, rfl, rfl, Ex.refl c, sr, sto_ini drs k'.1 l1, k'.2, ?_, ?_, ?_, ?_⟩
      · exact fun s' h' p c' σ' ex' sr' st' => gcq_out (v := .non) sr ex' sr' (show DR K c' .non .non from rfl) p post
      · exact fun x h' p c' v ex' sr' r' => gcq_out sr ex' sr' r' p post
      · exact fun s' h' p => p.elim
      · exact fun s' h' p => p.elim
/-! ### the law's end -/
/-- no list is one of the module's -/
def noList (K : PySem.W.Frag) : Bool := K.all fun p => match p.2.cls with
  | .type c => !(c == "list")
  | _ => true
theorem noList_ok {K : PySem.W.Frag} {h : Heap} (X : K.In h) (n : noList K = true) {a : Addr} {o : Obj} (e : h.get? a = some o) (hc : o.cls = .type "list") : K.lookup a = none := by
  cases hk : K.lookup a with
  | none => rfl
  | some u =>
    have e2 := X a u hk
    rw [e] at e2
    cases e2
    have z := List.all_eq_true.mp n (a, o) (He.lookup_mem hk)
    simp only [hc] at z
    cases z
theorem law_G {Pg : Program} {w : World} {K : PySem.W.Frag} {mg mb : Str → Option Value} {k : Nat} {fa a : Addr} {sp : Sq} {s₁ : Shared} {vs : List Value} {ns : List Int} (KX : K.In s₁.heap) (hns : s₁.heap.Ns mainGlobals mg) (hb : s₁.heap.Ns builtinsNs mb)
    (hbb : ∀ x : Str, x ≠ "__name__" → mb x = bootBuiltins x) (hlim : s₁.heap.NoLimit) (hg : s₁.gens = #[]) (ha : s₁.heap.get? a = some { cls := .type "list", data := .seq vs.toArray }) (hi : IntsAre vs ns) (hl : ns.length ≤ sizeLine) (hr : Room k callerA) (hk : K.lookup a = none)
    (F : ∀ base : Heap, K.In base → base.Ns mainGlobals mg → ∃ fd x, BindsTo s₁ fd ⟨[.ref a], []⟩ [(x, .ref a)] ∧ FnG Pg w K mg base k fa fd [x] sp)
    (hsp : ∀ H : L2.Hp, Rd H a (.lst (ns.map V.int)) → sp [.ref a] H (fun v _ => v = .bl true)) :
    codeAny (model Pg w) callerA (.call (.ref fa) ⟨[.ref a], []⟩) (fun r s' => r = .ok (.ret (.bool true)) ∧ OldK s₁.heap s'.heap ∧ s'.os = s₁.os ∧ AllBare s'.gens) s₁ := by
  have rv := vals_ints hi
  let H : L2.Hp := fun b => if b = a then some (.frz { cls := .type "list", data := .seq vs.toArray } (.lst (ns.map V.int))) else none
  have Ha : H a = some (.frz { cls := .type "list", data := .seq vs.toArray } (.lst (ns.map V.int))) := if_pos rfl
  have Hn : ∀ b, b ≠ a → H b = none := fun b z => if_neg z
  have hok : HOk Pg w H s₁.heap := fun b u z => by
    by_cases q : b = a
    · subst q
      rw [Ha] at z
      cases z
      exact ⟨ha, by rw [List.length_map]; exact hl, vs, _, rv, ha⟩
    · rw [Hn b q] at z
      cases z
  have dictFree : ∀ {b : Addr} {o : Obj} {es : Array DictEntry} {ep : Nat}, s₁.heap.get? b = some o → o.data = .dict es ep → H b = none := fun {b o es ep} e d => by
    by_cases q : b = a
    · subst q
      rw [ha] at e
      cases e
      have d' : Data.seq vs.toArray _ = Data.dict es ep := d
      cases d'
    · exact Hn b q
  have ns_ : ∀ {b : Addr} {m : Str → Option Value}, s₁.heap.Ns b m → (hidT s₁.heap H).Ns b m := fun {b m} ⟨o, es, ep, e, d, r⟩ => ⟨o, es, ep, hidT_get e (dictFree e d), d, r⟩
  have hKb : K.In (hidT s₁.heap H) := fun b o e => hidT_get (KX b o e) (by
    by_cases q : b = a
    · rw [q, hk] at e
      cases e
    · exact Hn b q)
  have hM : Mod K mg (hidT s₁.heap H) := ⟨hKb, ns_ hns, ⟨mb, ns_ hb, hbb⟩, hlim.elim fun mc z => ⟨mc, ns_ z.1, z.2⟩⟩
  have e0 : Env0 Pg w K mg (hidT s₁.heap H) callerA [] s₁ H := ⟨rfl, hM, fun b o e => of_hidT e, Nat.le_of_eq (hidT_size _ _), trivial, fun b z => absurd (show b ∈ ([] : List Addr) from z) (by simp), hok, .of_eq hg⟩
  obtain ⟨fd, x, hbind, F1⟩ := F _ hKb (ns_ hns)
  refine codeAny_mono (F1.run callerA [] s₁ H ⟨[.ref a], []⟩ [.ref a] [.ref a] _ rfl hr e0 hbind (.cons rfl .nil) (hsp H (.inr ⟨_, Ha⟩))) fun r s' z => ?_
  cases r with
  | error e => exact False.elim z
  | ok fl =>
    cases fl with
    | ret u =>
      obtain ⟨v, H', os, bare, un, hok', r', q⟩ := z
      have q' : v = .bl true := q
      subst q'
      obtain rfl : u = Value.bool true := r'
      refine ⟨rfl, OldK.of_keep fun b o e => ?_, os, bare⟩
      by_cases z : b = a
      · subst z
        obtain ⟨e2, _⟩ := hok' b _ (un.frzs b _ _ Ha)
        rw [ha] at e
        cases e
        exact e2
      · exact un.keep b o e (Hn b z) (fun y => absurd (show b ∈ ([] : List Addr) from y) (by simp)) (by simp)
    | _ => exact False.elim z
theorem walk_G {l : PySem.W.OpenLaw} {n k : Nat} {q : Program} {loose : List Str} {XP : (Str → Option Value) → Heap → Prop} {d : DefRec} {m : Nat} {fa : List He.Fa} {fn : List He.DefD} {P : Prog} {G : Gt} (hn : l.most = some n) (hn2 : n ≤ sizeLine) (hdf : d.params.defaults = []) (hr : Room k callerA) (hd : d.name = Str.ofString "law")
    (L : ∀ (K : PySem.W.Frag) (h : Heap) (mg : Str → Option Value), K.In h → h.Ns mainGlobals mg → He.SaysD fa fn K → Link K mg G P)
    {fdl : Fn} (hlw : P.lookup "law" = some fdl) (hnp : fdl.np = 1)
    (math : ∀ ns : List Int, ns.length ≤ n → callN P k "law" [.ref 0] [.fz (ns.map D.int)] (fun v _ => v = .bl true) R0) :
    PySem.W.WalkO q loose XP (He.hookX m fa fn [] [] noList).says l.row.toRowW d [] (fun f vs => PySem.call f vs) := by
  refine Att.attach_call hn hdf fun w s₀ s₁ mg mb f o pm cd doc a vs ns Gr Y ho hd2 hcd hmg hobj hints hlen hg => ?_
  obtain ⟨K, KX, S⟩ := Y
  rw [hd] at hmg
  have Lk := L K _ mg KX Gr.T.g S.t.d
  refine law_G KX Gr.T.g Gr.T.b Gr.T.builtins Gr.T.nolimit hg hobj hints (Nat.le_trans hlen hn2) hr (noList_ok KX S.more hobj rfl) (sp := spF K ⟨fun _ => 0, l.prog, w⟩ (callN P k) "law" 1) (fun base kb gb => by
    obtain ⟨fa', fdat, ps, m1, m2, m3, m4, m5⟩ := prog_ok (Pg := l.prog) (w := w) (ct := ⟨fun _ => 0, l.prog, w⟩) rfl rfl Lk k base kb gb "law" fdl hlw
    rw [hmg] at m1
    cases m1
    rw [hnp] at m4 m5
    cases ps with
    | nil => cases m4
    | cons x ps =>
      cases ps with
      | cons _ _ => cases m4
      | nil => exact ⟨fdat, x, m3 s₁ [.ref a] KX rfl, m5⟩) fun H hS => ?_
  refine ⟨⟨fun _ => a, 1, H⟩, [.fz (ns.map D.int)], [.ref 0], fun v _ => v = .bl true, rfl, ⟨rfl, fun i j hi hj _ => ?_, fun i o e => ?_⟩, ⟨.ref a, [], rfl, ⟨Nat.zero_lt_one, rfl⟩, rfl⟩, rfl, math ns hlen, fun d' h' p c' v ex' sr' r' => ?_⟩
  · have h1 : i < 1 := hi
    have h2 : j < 1 := hj
    omega
  · have h1 : i < 1 := (List.getElem?_eq_some_iff.mp e).1
    have : i = 0 := by omega
    subst this
    cases e
    refine ⟨ns.map V.int, hS, ?_⟩
    have go : ∀ ns : List Int, DRs K ⟨fun _ => a, 1, H⟩ (ns.map D.int) (ns.map V.int) := fun ns => by
      induction ns with
      | nil => rfl
      | cons i ns ih => exact ⟨_, _, rfl, rfl, ih⟩
    exact go ns
  · rw [show d' = .bl true from p] at r'
    exact r'
/-! ### putting the defs together -/
section
variable {K : PySem.W.Frag} {mg : Str → Option Value} {G : Gt}
theorem have_nil : ∀ f fd, ([] : Prog).lookup f = some fd → Have K mg G f fd := fun _ _ h => by cases h
theorem have_cons {g : String} {gd : Fn} {P : Prog} (h : Have K mg G g gd) (t : ∀ f fd, P.lookup f = some fd → Have K mg G f fd) : ∀ f fd, ((g, gd) :: P).lookup f = some fd → Have K mg G f fd := fun f fd z => by
  rw [List.lookup_cons] at z
  split at z
  · rename_i e
    cases z
    rw [eq_of_beq e]
    exact h
  · exact t f fd z
theorem fns_of : ∀ (P : Prog) (f : String) (np : Nat), (P.map fun p => (p.1, p.2.np)).lookup f = some np → ∃ fd, P.lookup f = some fd ∧ fd.np = np
  | [], _, _, h => by cases h
  | (g, gd) :: P, f, np, h => by
    rw [List.map_cons, List.lookup_cons] at h
    rw [List.lookup_cons]
    split at h
    · rename_i e
      cases h
      exact ⟨gd, by rw [e], rfl⟩
    · rename_i e
      obtain ⟨fd, h1, h2⟩ := fns_of P f np h
      exact ⟨fd, by rw [e]; exact h1, h2⟩
abbrev ConOk (K : PySem.W.Frag) (mg : Str → Option Value) (x : Str) (d : D) : Prop := ∃ v u, mg x = some u ∧ RelV v u ∧ ∀ c, DR K c d v
theorem con_nil : ∀ x d, ([] : List (Str × D)).lookup x = some d → ConOk K mg x d := fun _ _ h => by cases h
theorem con_cons {y : Str} {e : D} {l : List (Str × D)} (h : ConOk K mg y e) (t : ∀ x d, l.lookup x = some d → ConOk K mg x d) : ∀ x d, ((y, e) :: l).lookup x = some d → ConOk K mg x d := fun x d z => by
  rw [List.lookup_cons] at z
  split at z
  · rename_i q
    cases z
    rw [eq_of_beq q]
    exact h
  · exact t x d z
theorem con_str {h : Heap} {x z : Str} (X : K.In h) (Gn : h.Ns mainGlobals mg) (c : (He.Fa.str x z).ok K = true) : ConOk K mg x (.str z.cps.toList) := by
  obtain ⟨t, e⟩ := He.str_ok X Gn c
  exact ⟨.str z, .str z t, e, ⟨t, rfl⟩, fun _ => rfl⟩
theorem con_int {h : Heap} {x : Str} {i : Int} (X : K.In h) (Gn : h.Ns mainGlobals mg) (c : (He.Fa.int x i).ok K = true) : ConOk K mg x (.int i) := by
  obtain ⟨t, e⟩ := He.int_ok X Gn c
  exact ⟨.int i, .int i t, e, ⟨t, rfl⟩, fun _ => rfl⟩
theorem have_of {h : Heap} {f : String} {fd : Fn} {d : He.DefD} {N ps : List Str} {fa : List He.Fa} {fn : List He.DefD} (X : K.In h) (Gn : h.Ns mainGlobals mg) (c : He.SaysD fa fn K) (hd : d ∈ fn) (hg : He.Fa.glo (Str.ofString f) ∈ fa) (ha : d.at_ = (Str.ofString f, none)) (hn : d.name = Str.ofString f) (h0 : d.dfl = []) (h1 : d.kwd = [])
    (S : FnScope N ps d.scope) (l1 : N.length = fd.ns) (l2 : ps.length = fd.np) (ok : okSs G N fd.body d.scope.names d.body = true)
    (hb : ∀ (kV doc pm : Value) (an : Option Addr) (cdv ct : Value) (us : List Value), us.length = ps.length → bindArgs (PySem.W.fnOf d.name d.qual d.params d.body d.scope .none kV doc pm an cdv ct) ⟨us, []⟩ = pure (ps.zip us)) : Have K mg G f fd := by
  obtain ⟨fdat, F⟩ := c.defs hd
  have e1 : d.dvs K = [] := by unfold He.DefD.dvs; rw [h0]; rfl
  have e2 : d.kws K = [] := by unfold He.DefD.kws; rw [h1]; rfl
  rw [e1, e2] at F
  have e3 : He.fAd K d.at_ = He.ga K (Str.ofString f) := by rw [ha]; rfl
  rw [e3] at F
  have bd := F.bindsN hb
  rw [hn] at F
  exact ⟨_, fdat, _, _, _, _, N, ps, F, He.glo_ok X Gn (c.facts hg), S, l1, l2, ok, bd⟩
end
end SL

set_option linter.all false
set_option autoImplicit false
set_option maxRecDepth 100000
set_option Elab.async false
set_option maxHeartbeats 4000000
namespace Lw
open PySem SL
abbrev R0' : XR := fun _ _ _ => False
/-- is_below -/
def belowD (lim : Int) : D → Bool
  | .int i => decide (0 ≤ i) && decide (i < lim)
  | _ => false
/-- what stands at a place is a list or so, nothing odd -/
def plainO (h : Hp) : D → Prop
  | .ref l => ∃ xs, h[l]? = some (.lst xs) ∨ h[l]? = some (.fz xs)
  | _ => True
def f_is_below : Fn := ⟨2, 2, (.cons (.ret (.and (.isi (.var 0) .int) (.and (.nt (.isi (.var 0) .bool)) (.chn .le .lt (.cst (.int 0)) (.var 0) (.var 1)))))
    Ss.nil)⟩
theorem call_go {P : Prog} {n : Nat} {f : String} {fd : Fn} {args : List D} {h : Hp} {Q : D → Hp → Prop} (hf : P.lookup f = some fd) (hl : args.length = fd.np)
    (k : dSs ⟨callN P n⟩ fd.body ⟨fun _ h2 => gcq h Q .non h2, gcq h Q, fun _ _ => False, fun _ _ => False, fun c fs _ h2 => R0' c fs h2⟩ (ini fd.np fd.ns args) h) : callN P (n + 1) f args h Q R0' := by
  simp only [callN, hf]
  exact ⟨hl, k⟩
theorem gc0 {h : Hp} {Q : D → Hp → Prop} {v : D} {h2 : Hp} (q : Q v h2) : gcq h Q v h2 := .inl q
theorem sp_is_below {P : Prog} (hP : P.lookup "is_below" = some f_is_below) {n : Nat} {v : D} {lim : Int} {h : Hp} {Q : D → Hp → Prop} (hv : plainO h v) (q : Q (.bl (belowD lim v)) h) : callN P (n + 1) "is_below" [v, .int lim] h Q R0' := by
  refine call_go hP rfl ?_
  cases v with
  | ref l =>
    obtain ⟨xs, e | e⟩ := hv
    · simp [f_is_below, dSs, dS, dT, dEs, dTs, dIfs, dI, dTg, dTgs, lay, tst, ini, tsLen, SL.bi, SL.lm, SL.lmT, SL.cmp, op2, SL.wipe, lmOk, SL.isi, tru, idx, slc, rev, walk, walkL, walk2, items, intD, addD, mulD, lstOf, ordD, eqD, inn, isO, isD, lmAppend, lmIndex, biLen, biInt, biMin, rdT, SL.len, compGo, forGo, cut, ix, HT.sIx, e]
      exact gc0 q
    · simp [f_is_below, dSs, dS, dT, dEs, dTs, dIfs, dI, dTg, dTgs, lay, tst, ini, tsLen, SL.bi, SL.lm, SL.lmT, SL.cmp, op2, SL.wipe, lmOk, SL.isi, tru, idx, slc, rev, walk, walkL, walk2, items, intD, addD, mulD, lstOf, ordD, eqD, inn, isO, isD, lmAppend, lmIndex, biLen, biInt, biMin, rdT, SL.len, compGo, forGo, cut, ix, HT.sIx, e]
      exact gc0 q
  | int i =>
    simp [f_is_below, dSs, dS, dT, dEs, dTs, dIfs, dI, dTg, dTgs, lay, tst, ini, tsLen, SL.bi, SL.lm, SL.lmT, SL.cmp, op2, SL.wipe, lmOk, SL.isi, tru, idx, slc, rev, walk, walkL, walk2, items, intD, addD, mulD, lstOf, ordD, eqD, inn, isO, isD, lmAppend, lmIndex, biLen, biInt, biMin, rdT, SL.len, compGo, forGo, cut, ix, HT.sIx]
    simp only [belowD] at q
    by_cases h0 : 0 ≤ i
    · simp [h0] at q ⊢
      exact gc0 q
    · simp [h0] at q ⊢
      exact gc0 q
  | _ =>
    simp [f_is_below, dSs, dS, dT, dEs, dTs, dIfs, dI, dTg, dTgs, lay, tst, ini, tsLen, SL.bi, SL.lm, SL.lmT, SL.cmp, op2, SL.wipe, lmOk, SL.isi, tru, idx, slc, rev, walk, walkL, walk2, items, intD, addD, mulD, lstOf, ordD, eqD, inn, isO, isD, lmAppend, lmIndex, biLen, biInt, biMin, rdT, SL.len, compGo, forGo, cut, ix, HT.sIx]
    exact gc0 q
/-! ### loops -/
theorem comp_map {st : Hp → Prop} {turn : D → Hp → (Option D → Hp → Prop) → Prop} (f : D → D) {h : Hp} {Q : List D → Hp → Prop} (hst : st h) : ∀ (xs acc : List D), acc.length + xs.length ≤ sz → (∀ x, x ∈ xs → ∀ q : Option D → Hp → Prop, q (some (f x)) h → turn x h q) → Q (acc ++ xs.map f) h → compGo st turn xs h acc Q
  | [], acc, _, _, q => ⟨hst, by simpa using q⟩
  | x :: xs, acc, hl, ht, q => by
    rw [List.length_cons] at hl
    refine ⟨hst, by omega, ht x (List.mem_cons_self ..) _ ?_⟩
    exact comp_map f hst xs (acc ++ [f x]) (by simp; omega) (fun y hy => ht y (List.mem_cons_of_mem _ hy)) (by simpa using q)
theorem comp_filter {st : Hp → Prop} {turn : D → Hp → (Option D → Hp → Prop) → Prop} (f : D → Option D) {h : Hp} {Q : List D → Hp → Prop} (hst : st h) : ∀ (xs acc : List D), acc.length + xs.length ≤ sz → (∀ x, x ∈ xs → ∀ q : Option D → Hp → Prop, q (f x) h → turn x h q) → Q (acc ++ xs.filterMap f) h → compGo st turn xs h acc Q
  | [], acc, _, _, q => ⟨hst, by simpa using q⟩
  | x :: xs, acc, hl, ht, q => by
    rw [List.length_cons] at hl
    refine ⟨hst, by omega, ht x (List.mem_cons_self ..) _ ?_⟩
    cases e : f x with
    | none =>
      show compGo st turn xs h acc Q
      exact comp_filter f hst xs acc (by omega) (fun y hy => ht y (List.mem_cons_of_mem _ hy)) (by simpa [List.filterMap_cons, e] using q)
    | some y =>
      show compGo st turn xs h (acc ++ [y]) Q
      exact comp_filter f hst xs (acc ++ [y]) (by simp; omega) (fun y hy => ht y (List.mem_cons_of_mem _ hy)) (by simpa [List.filterMap_cons, e] using q)
theorem for_inv {st : Hp → Prop} {turn : D → (Sto → Hp → Prop) → Sto → Hp → Prop} {nx : Sto → Hp → Prop} (Iv : List D → Sto → Hp → Prop) (step : ∀ x r s h, Iv (x :: r) s h → st h ∧ ∀ N : Sto → Hp → Prop, (∀ s h, Iv r s h → N s h) → turn x N s h) (done : ∀ s h, Iv [] s h → st h ∧ nx s h) :
    ∀ (xs : List D) (s : Sto) (h : Hp), Iv xs s h → forGo st turn nx xs s h
  | [], s, h, i => done s h i
  | x :: xs, s, h, i => ⟨(step x xs s h i).1, (step x xs s h i).2 _ fun s h i => for_inv Iv step done xs s h i⟩
/-! ### machines -/
def f_is_rising : Fn := ⟨2, 4, (.cons (.ifs (.or (.nt (.isi (.var 0) .tuple)) (.nt (.bi .all (.cons (.comp (.call "is_below" (.cons (.var 2) (.cons (.var 1) Es.nil))) (.nm 2) (.val (.var 0)) Es.nil [2]) Es.nil)))) (.cons (.ret (.cst (.bl false)))
    Ss.nil) Ss.nil)
    (.cons (.ret (.bi .all (.cons (.comp (.cmp .lt (.var 2) (.var 3)) (.tp (.cons (.nm 2) (.cons (.nm 3) Ts.nil))) (.zip (.var 0) (.slF (.var 0) (.cst (.int 1)))) Es.nil [2, 3]) Es.nil)))
    Ss.nil))⟩
def f_is_letters : Fn := ⟨1, 1, (.cons (.ret (.and (.call "is_below" (.cons (.var 0) (.cons (.op .add (.bi .len (.cons (.cst (.str [97, 98, 99])) Es.nil)) (.cst (.int 1))) Es.nil))) (.cmp .gt (.var 0) (.cst (.int 0)))))
    Ss.nil)⟩
def f_is_row : Fn := ⟨3, 4, (.cons (.ret (.and (.isi (.var 0) .tuple) (.and (.cmp .eq (.bi .len (.cons (.var 0) Es.nil)) (.var 1)) (.bi .all (.cons (.comp (.call "is_below" (.cons (.var 3) (.cons (.var 2) Es.nil))) (.nm 3) (.val (.var 0)) Es.nil [3]) Es.nil)))))
    Ss.nil)⟩
def f_is_machine : Fn := ⟨1, 3, (.cons (.ifs (.or (.nt (.isi (.var 0) .tuple)) (.or (.cmp .ne (.bi .len (.cons (.var 0) Es.nil)) (.cst (.int 3))) (.or (.nt (.call "is_letters" (.cons (.idx (.var 0) (.cst (.int 0))) Es.nil))) (.nt (.isi (.idx (.var 0) (.cst (.int 1))) .tuple))))) (.cons (.ret (.cst (.bl false)))
    Ss.nil) Ss.nil)
    (.cons (.asg (.nm 1) (.bi .len (.cons (.idx (.var 0) (.cst (.int 1))) Es.nil)))
    (.cons (.ifs (.or (.nt (.chn .le .le (.cst (.int 1)) (.var 1) (.cst (.int 32)))) (.nt (.bi .all (.cons (.comp (.call "is_row" (.cons (.var 2) (.cons (.idx (.var 0) (.cst (.int 0))) (.cons (.var 1) Es.nil)))) (.nm 2) (.val (.idx (.var 0) (.cst (.int 1)))) Es.nil [2]) Es.nil)))) (.cons (.ret (.cst (.bl false)))
    Ss.nil) Ss.nil)
    (.cons (.ret (.call "is_rising" (.cons (.idx (.var 0) (.cst (.int 2))) (.cons (.var 1) Es.nil))))
    Ss.nil))))⟩
/-- the defs that are there -/
structure KM (P : Prog) : Prop where
  below : P.lookup "is_below" = some f_is_below
  rising : P.lookup "is_rising" = some f_is_rising
  letters : P.lookup "is_letters" = some f_is_letters
  row : P.lookup "is_row" = some f_is_row
  machine : P.lookup "is_machine" = some f_is_machine
theorem bools_map {α : Type} (f : α → Bool) (g : α → D) : ∀ xs : List α, (∀ x, x ∈ xs → g x = .bl (f x)) → boolsOf (xs.map g) = some (xs.map f)
  | [], _ => rfl
  | x :: xs, h => by
    rw [List.map_cons, h x (List.mem_cons_self ..), List.map_cons]
    show (boolsOf (xs.map g)).map _ = _
    rw [bools_map f g xs fun y hy => h y (List.mem_cons_of_mem _ hy)]
    rfl
theorem all_map {α : Type} (f : α → Bool) (xs : List α) : (xs.map f).all id = xs.all f := by rw [List.all_map]; rfl
/-- all(..) of a list of bools just made -/
theorem biAll_l {h : Hp} {xs : List D} {bs : List Bool} {Q : TV → Hp → Prop} (e : boolsOf xs = some bs) (q : Q (.d (.bl (bs.all id))) h) : biAll h [.l xs] Q := by
  simp only [biAll, tvL, Option.bind, e]
  exact q
def Pl (h : Hp) : Nat → D → Prop
  | _, .ref l => ∃ xs, h[l]? = some (.lst xs) ∨ h[l]? = some (.fz xs)
  | n + 1, .tup xs => xs.length ≤ 1000 ∧ ∀ x, x ∈ xs → Pl h n x
  | _, _ => True
theorem Pl.o {h : Hp} {n : Nat} {v : D} (p : Pl h n v) : plainO h v := by
  cases v with
  | ref l => cases n <;> exact p
  | _ => trivial
def upD : D → D → Bool
  | .int i, .int j => decide (i < j)
  | _, _ => false
def pairsUp : List D → Bool
  | x :: y :: r => upD x y && pairsUp (y :: r)
  | _ => true
def risingD (lim : Int) : D → Bool
  | .tup xs => xs.all (belowD lim) && pairsUp xs
  | _ => false
theorem isi_tup {h : Hp} {v : D} (p : plainO h v) : ∃ b, SL.isi h .tuple (.d v) = some b ∧ (b = true ↔ ∃ xs, v = .tup xs) := by
  cases v with
  | ref l =>
    obtain ⟨xs, e | e⟩ := p
    · exact ⟨false, by simp [SL.isi, e], by simp⟩
    · exact ⟨false, by simp [SL.isi, e], by simp⟩
  | tup xs => exact ⟨true, rfl, by simp⟩
  | _ => exact ⟨false, rfl, by simp⟩
theorem below_all {P : Prog} (hP : KM P) {n : Nat} {lim : Int} {h : Hp} {xs : List D} (hx : ∀ x, x ∈ xs → plainO h x) : ∀ x, x ∈ xs → ∀ q : D → Hp → Prop, q (.bl (belowD lim x)) h → callN P (n + 1) "is_below" [x, .int lim] h q R0' := fun x m q z => sp_is_below hP.below (hx x m) z
theorem zip_up : ∀ xs : List D, ((xs.zip (xs.drop 1)).map fun p => D.tup [p.1, p.2]) = (xs.zip (xs.drop 1)).map (fun p => D.tup [p.1, p.2]) := fun _ => rfl
def upP : D → Bool
  | .tup [x, y] => upD x y
  | _ => false
theorem up_all : ∀ xs : List D, ((xs.zip (xs.drop 1)).map fun p => D.tup [p.1, p.2]).all upP = pairsUp xs
  | [] => rfl
  | [x] => rfl
  | x :: y :: r => by
    have ih := up_all (y :: r)
    show (upP (.tup [x, y]) && (((y :: r).zip ((y :: r).drop 1)).map fun p => D.tup [p.1, p.2]).all upP) = _
    rw [ih]
    rfl
theorem sp_is_rising {P : Prog} (hP : KM P) {n : Nat} {v : D} {lim : Int} {h : Hp} {Q : D → Hp → Prop} (hv : Pl h 1 v) (q : Q (.bl (risingD lim v)) h) : callN P (n + 2) "is_rising" [v, .int lim] h Q R0' := by
  refine call_go hP.rising rfl ?_
  obtain ⟨b, hb, hi⟩ := isi_tup hv.o
  cases b with
  | false =>
    have e : risingD lim v = false := by
      cases v with
      | tup xs => exact absurd (hi.mpr ⟨xs, rfl⟩) (by simp)
      | _ => rfl
    rw [e] at q
    simp [f_is_rising, dSs, dS, dT, dEs, dTs, dIfs, dI, dTg, dTgs, lay, tst, ini, tsLen, SL.bi, SL.lm, SL.lmT, SL.cmp, op2, SL.wipe, hb, tru]
    exact gc0 q
  | true =>
    obtain ⟨xs, rfl⟩ := hi.mp rfl
    have hx : ∀ x, x ∈ xs → plainO h x := fun x m => (hv.2 x m).o
    have hl : xs.length ≤ 1000 := hv.1
    simp [f_is_rising, dSs, dS, dT, dEs, dTs, dIfs, dI, dTg, dTgs, lay, tst, ini, tsLen, SL.bi, SL.lm, SL.lmT, SL.cmp, op2, SL.wipe, hb, tru, walk]
    refine comp_map (fun x => .bl (belowD lim x)) trivial xs [] (by simp [sz]; omega) (fun x m q z => ?_) ?_
    · exact below_all hP hx x m _ z
    · refine biAll_l (bools_map (belowD lim) _ xs fun x _ => rfl) ?_
      rw [all_map]
      cases ha : xs.all (belowD lim) with
      | false =>
        simp
        have e : risingD lim (.tup xs) = false := by simp only [risingD, ha]; rfl
        rw [e] at q
        exact gc0 q
      | true =>
        simp [slc, walk2]
        have allI : ∀ x, x ∈ xs → ∃ i, x = .int i := fun x m => by
          have := List.all_eq_true.mp ha x m
          cases x with
          | int i => exact ⟨i, rfl⟩
          | _ => cases this
        have hc : cut xs (some 1) none = xs.drop 1 := by
          cases xs with
          | nil => rfl
          | cons a r => simp [cut, ix, HT.sIx]
        rw [hc]
        refine comp_map (fun p => .bl (upP p)) trivial _ [] (by simp [sz]; omega) (fun x m q z => ?_) ?_
        · obtain ⟨⟨a, b⟩, m1, rfl⟩ := List.mem_map.mp m
          have m2 := List.of_mem_zip m1
          obtain ⟨i, rfl⟩ := allI a m2.1
          obtain ⟨j, rfl⟩ := allI b (List.mem_of_mem_drop m2.2)
          exact ⟨rfl, z⟩
        · refine biAll_l (bools_map upP _ _ fun x _ => rfl) ?_
          rw [all_map, up_all]
          have e : risingD lim (.tup xs) = pairsUp xs := by simp only [risingD, ha, Bool.true_and]
          rw [e] at q
          exact gc0 q
/-- the letters of a machine -/
def lettersD (v : D) : Bool := belowD 4 v && (match v with
  | .int i => decide (0 < i)
  | _ => false)
theorem sp_is_letters {P : Prog} (hP : KM P) {n : Nat} {v : D} {h : Hp} {Q : D → Hp → Prop} (hv : plainO h v) (q : Q (.bl (lettersD v)) h) : callN P (n + 2) "is_letters" [v] h Q R0' := by
  refine call_go hP.letters rfl ?_
  simp [f_is_letters, dSs, dS, dT, dEs, dTs, dIfs, dI, dTg, dTgs, lay, tst, ini, tsLen, SL.bi, SL.lm, SL.lmT, SL.cmp, op2, SL.wipe, biLen, SL.len, addD]
  refine sp_is_below (lim := 4) hP.below hv ?_
  simp only [tru]
  cases hb : belowD 4 v with
  | false =>
    have e : lettersD v = false := by simp only [lettersD, hb, Bool.false_and]
    rw [e] at q
    exact gc0 q
  | true =>
    cases v with
    | int i =>
      have e : lettersD (.int i) = decide (0 < i) := by simp only [lettersD, hb, Bool.true_and]
      rw [e] at q
      exact gc0 q
    | _ => cases hb
def rowD (l many : Int) : D → Bool
  | .tup xs => decide ((xs.length : Int) = l) && xs.all (belowD many)
  | _ => false
theorem eqv_int (i j : Int) : PyData.eqv (.int i) (.int j) = decide (i = j) := by
  show (i == j) = _
  rw [Bool.eq_iff_iff]
  simp
theorem sp_is_row {P : Prog} (hP : KM P) {n : Nat} {v : D} {l many : Int} {h : Hp} {Q : D → Hp → Prop} (hv : Pl h 1 v) (q : Q (.bl (rowD l many v)) h) : callN P (n + 2) "is_row" [v, .int l, .int many] h Q R0' := by
  refine call_go hP.row rfl ?_
  obtain ⟨b, hb, hi⟩ := isi_tup hv.o
  cases b with
  | false =>
    have e : rowD l many v = false := by
      cases v with
      | tup xs => exact absurd (hi.mpr ⟨xs, rfl⟩) (by simp)
      | _ => rfl
    rw [e] at q
    simp [f_is_row, dSs, dS, dT, dEs, dTs, dIfs, dI, dTg, dTgs, lay, tst, ini, tsLen, SL.bi, SL.lm, SL.lmT, SL.cmp, op2, SL.wipe, hb, tru]
    exact gc0 q
  | true =>
    obtain ⟨xs, rfl⟩ := hi.mp rfl
    simp [f_is_row, dSs, dS, dT, dEs, dTs, dIfs, dI, dTg, dTgs, lay, tst, ini, tsLen, SL.bi, SL.lm, SL.lmT, SL.cmp, op2, SL.wipe, hb, tru, biLen, SL.len, eqD, rdT, rd, eqv_int, walk]
    by_cases hl : (xs.length : Int) = l
    · simp [hl]
      refine comp_map (fun x => .bl (belowD many x)) trivial xs [] (by have := hv.1; simp [sz]; omega) (fun x m q z => below_all hP (fun y my => (hv.2 y my).o) x m _ z) ?_
      refine biAll_l (bools_map (belowD many) _ xs fun x _ => rfl) ?_
      rw [all_map]
      have e : rowD l many (.tup xs) = xs.all (belowD many) := by simp only [rowD, hl, decide_true, Bool.true_and]
      rw [e] at q
      exact gc0 q
    · simp [hl]
      have e : rowD l many (.tup xs) = false := by simp only [rowD, hl, decide_false, Bool.false_and]
      rw [e] at q
      exact gc0 q
/-- a machine -/
def machineD : D → Bool
  | .tup [l, .tup rows, ends] => lettersD l && (decide (1 ≤ rows.length) && decide (rows.length ≤ 32) && (rows.all fun r => rowD (match l with | .int i => i | _ => 0) rows.length r) && risingD rows.length ends)
  | _ => false
theorem sp_is_machine {P : Prog} (hP : KM P) {n : Nat} {v : D} {h : Hp} {Q : D → Hp → Prop} (hv : Pl h 3 v) (q : Q (.bl (machineD v)) h) : callN P (n + 3) "is_machine" [v] h Q R0' := by
  refine call_go hP.machine rfl ?_
  obtain ⟨b, hb, hi⟩ := isi_tup hv.o
  cases b with
  | false =>
    have e : machineD v = false := by
      cases v with
      | tup xs => exact absurd (hi.mpr ⟨xs, rfl⟩) (by simp)
      | _ => rfl
    rw [e] at q
    simp [f_is_machine, dSs, dS, dT, dEs, dTs, dIfs, dI, dTg, dTgs, lay, tst, ini, tsLen, SL.bi, SL.lm, SL.lmT, SL.cmp, op2, SL.wipe, hb, tru]
    exact gc0 q
  | true =>
    obtain ⟨xs, rfl⟩ := hi.mp rfl
    by_cases h3 : xs.length = 3
    · match xs, h3, hv with
      | [l, m, e], _, hv =>
        have hl : Pl h 2 l := hv.2 l (by simp)
        have hm : Pl h 2 m := hv.2 m (by simp)
        have he : Pl h 2 e := hv.2 e (by simp)
        simp [f_is_machine, dSs, dS, dT, dEs, dTs, dIfs, dI, dTg, dTgs, lay, tst, ini, tsLen, SL.bi, SL.lm, SL.lmT, SL.cmp, op2, SL.wipe, hb, tru, biLen, SL.len, eqD, rdT, rd, eqv_int, idx, L2.atI, L2.ixN]
        refine sp_is_letters hP hl.o ?_
        cases hL : lettersD l with
        | false =>
          have e1 : machineD (.tup [l, m, e]) = false := by
            unfold machineD
            split
            · rename_i z
              cases z
              rw [hL, Bool.false_and]
            · rfl
          rw [e1] at q
          simp
          exact gc0 q
        | true =>
          obtain ⟨b2, hb2, hi2⟩ := isi_tup hm.o
          simp [hb2]
          cases b2 with
          | false =>
            have e1 : machineD (.tup [l, m, e]) = false := by
              unfold machineD
              split
              · rename_i z
                cases z
                exact absurd (hi2.mpr ⟨_, rfl⟩) (by simp)
              · rfl
            rw [e1] at q
            simp
            exact gc0 q
          | true =>
            obtain ⟨rows, rfl⟩ := hi2.mp rfl
            obtain ⟨li, rfl⟩ : ∃ i, l = .int i := by
              cases l with
              | int i => exact ⟨i, rfl⟩
              | _ => cases hL
            have hrl : rows.length ≤ 1000 := hm.1
            have e1 : machineD (.tup [.int li, .tup rows, e]) = ((decide (1 ≤ rows.length) && decide (rows.length ≤ 32) && rows.all (rowD li rows.length)) && risingD rows.length e) := by
              simp only [machineD, hL, Bool.true_and]
            rw [e1] at q
            simp
            by_cases h1 : 1 ≤ rows.length
            · have h1' : (1 : Int) ≤ rows.length := by omega
              by_cases h2 : rows.length ≤ 32
              · have h2' : (rows.length : Int) ≤ 32 := by omega
                simp [h1', h2', walk, ordD]
                refine comp_map (fun r => .bl (rowD li rows.length r)) trivial rows [] (by simp [sz]; omega) (fun x mx q z => sp_is_row hP (hm.2 x mx) z) ?_
                refine biAll_l (bools_map (rowD li rows.length) _ rows fun x _ => rfl) ?_
                rw [all_map]
                cases hr : rows.all (rowD li rows.length) with
                | false =>
                  rw [hr] at q
                  simp [h1, h2] at q ⊢
                  exact gc0 q
                | true =>
                  rw [hr] at q
                  simp [h1, h2] at q ⊢
                  exact sp_is_rising hP (by cases e with | tup es => exact ⟨he.1, fun x mx => by have := he.2 x mx; cases x with | ref _ => exact this | tup _ => trivial | _ => trivial⟩ | ref _ => exact he | _ => trivial) (gc0 q)
              · have h2' : ¬ ((rows.length : Int) ≤ 32) := by omega
                simp [h1', h2', ordD]
                simp [h2] at q
                exact gc0 q
            · have h1' : ¬ ((1 : Int) ≤ rows.length) := by omega
              simp [h1', ordD]
              simp [h1] at q
              exact gc0 q
    · have e : machineD (.tup xs) = false := by
        unfold machineD
        split
        · rename_i z
          cases z
          exact absurd rfl h3
        · rfl
      rw [e] at q
      have h3' : ¬ ((xs.length : Int) = 3) := by omega
      simp [f_is_machine, dSs, dS, dT, dEs, dTs, dIfs, dI, dTg, dTgs, lay, tst, ini, tsLen, SL.bi, SL.lm, SL.lmT, SL.cmp, op2, SL.wipe, hb, tru, biLen, SL.len, eqD, rdT, rd, eqv_int, h3']
      exact gc0 q
end Lw

set_option linter.all false
set_option autoImplicit false
set_option maxRecDepth 100000
set_option Elab.async false
set_option maxHeartbeats 4000000
namespace Lw
open PySem SL
def f_law_spread : Fn := ⟨2, 8, (.cons (.ifs (.cmp .ge (.var 0) (.op .pow (.cst (.int 10)) (.cst (.int 18)))) (.cons (.ret (.var 0))
    Ss.nil) Ss.nil)
    (.cons (.asg (.nm 2) (.lst (.cons (.cst (.int 2147483629)) (.cons (.cst (.int 2147483587)) (.cons (.cst (.int 2147483579)) (.cons (.cst (.int 2147483563)) (.cons (.cst (.int 2147483549)) (.cons (.cst (.int 2147483543)) (.cons (.cst (.int 2147483497)) Es.nil)))))))))
    (.cons (.asg (.nm 2) (.op .add (.var 2) (.lst (.cons (.cst (.int 2147483489)) (.cons (.cst (.int 2147483477)) (.cons (.cst (.int 2147483423)) (.cons (.cst (.int 2147483399)) (.cons (.cst (.int 2147483353)) (.cons (.cst (.int 2147483323)) Es.nil)))))))))
    (.cons (.asg (.nm 3) (.op .add (.op .add (.op .mul (.op .mod (.bi .int (.cons (.var 0) Es.nil)) (.cst (.int 1000000007))) (.op .add (.op .mul (.cst (.int 2)) (.var 1)) (.cst (.int 69069)))) (.op .mul (.var 1) (.cst (.int 40503)))) (.cst (.int 977))))
    (.cons (.asg (.nm 4) (.op .mod (.bi .int (.cons (.op .pow (.var 3) (.cst (.int 3))) Es.nil)) (.idx (.var 2) (.op .mod (.bi .int (.cons (.var 1) Es.nil)) (.cst (.int 13))))))
    (.cons (.asg (.nm 5) (.op .add (.op .mod (.bi .int (.cons (.var 0) Es.nil)) (.cst (.int 65537))) (.cst (.int 5))))
    (.cons (.asg (.nm 6) (.op .mod (.bi .int (.cons (.op .pow (.op .add (.op .mul (.var 4) (.op .add (.var 1) (.cst (.int 3)))) (.var 5)) (.cst (.int 5))) Es.nil)) (.idx (.var 2) (.op .mod (.bi .int (.cons (.op .add (.var 1) (.cst (.int 5))) Es.nil)) (.cst (.int 13))))))
    (.cons (.asg (.nm 7) (.op .mod (.bi .int (.cons (.op .pow (.op .add (.op .add (.var 6) (.op .mod (.bi .int (.cons (.var 4) Es.nil)) (.cst (.int 1009)))) (.var 1)) (.cst (.int 3))) Es.nil)) (.idx (.var 2) (.op .mod (.bi .int (.cons (.op .add (.var 1) (.cst (.int 7))) Es.nil)) (.cst (.int 13))))))
    (.cons (.ret (.op .add (.op .mul (.op .add (.op .mul (.var 4) (.cst (.int 2147483647))) (.var 6)) (.cst (.int 2147483647))) (.var 7)))
    Ss.nil)))))))))⟩
def f_law_open : Fn := ⟨1, 4, (.cons (.asg (.nm 1) (.toL (.val (.slT (.var 0) (.cst (.int 12))))))
    (.cons (.for (.tp (.cons (.nm 2) (.cons (.nm 3) Ts.nil))) (.enu (.slB (.var 0) (.cst (.int 12)) (.cst (.int 63)))) (.cons (.asg (.sb (.var 1) (.op .mod (.bi .int (.cons (.var 2) Es.nil)) (.cst (.int 12)))) (.op .add (.idx (.var 1) (.op .mod (.bi .int (.cons (.var 2) Es.nil)) (.cst (.int 12)))) (.var 3)))
    Ss.nil))
    (.cons (.ret (.lst (.cons (.var 1) (.cons (.cst (.int 0)) (.cons (.cst (.int 0)) Es.nil)))))
    Ss.nil)))⟩
def tkT : Ss := (.cons (.asg (.nm 4) (.op .mod (.bi .int (.cons (.idx (.var 0) (.cst (.int 2))) Es.nil)) (.var 1)))
    (.cons (.asg (.sb (.var 0) (.cst (.int 2))) (.op .fdiv (.idx (.var 0) (.cst (.int 2))) (.var 1)))
    (.cons (.ret (.var 4))
    Ss.nil)))
def tkM : Ss := (.cons (.asg (.sb (.var 0) (.cst (.int 1))) (.op .add (.var 2) (.cst (.int 1))))
    (.cons (.asg (.sb (.var 0) (.cst (.int 2))) (.call "_law_spread" (.cons (.var 3) (.cons (.var 2) Es.nil))))
    Ss.nil))
def f_law_take : Fn := ⟨2, 5, (.cons (.ifs (.cmp .lt (.idx (.var 0) (.cst (.int 2))) (.var 1)) (.cons (.asg (.nm 2) (.idx (.var 0) (.cst (.int 1))))
    (.cons (.asg (.nm 3) (.cst (.int 0)))
    (.cons (.ifs (.cmp .lt (.var 2) (.bi .len (.cons (.idx (.var 0) (.cst (.int 0))) Es.nil))) (.cons (.asg (.nm 3) (.idx (.idx (.var 0) (.cst (.int 0))) (.var 2)))
    Ss.nil) (.cons (.ifs (.cmp .gt (.bi .len (.cons (.idx (.var 0) (.cst (.int 0))) Es.nil)) (.cst (.int 0))) (.cons (.asg (.nm 3) (.op .mod (.bi .int (.cons (.idx (.idx (.var 0) (.cst (.int 0))) (.op .mod (.bi .int (.cons (.op .add (.op .mul (.var 2) (.cst (.int 5))) (.cst (.int 3))) Es.nil)) (.bi .len (.cons (.idx (.var 0) (.cst (.int 0))) Es.nil)))) Es.nil)) (.op .add (.op .pow (.cst (.int 10)) (.cst (.int 17))) (.var 2))))
    Ss.nil) Ss.nil)
    Ss.nil))
    tkM))) Ss.nil)
    tkT)⟩
def f_law_anew : Fn := ⟨1, 1, (.cons (.asg (.sb (.var 0) (.cst (.int 2))) (.cst (.int 0)))
    (.cons (.ret (.var 0))
    Ss.nil))⟩
def f_law_one : Fn := ⟨2, 2, (.cons (.ret (.idx (.var 1) (.call "_law_take" (.cons (.var 0) (.cons (.bi .len (.cons (.var 1) Es.nil)) Es.nil)))))
    Ss.nil)⟩
structure KP (P : Prog) : Prop where
  spread : P.lookup "_law_spread" = some f_law_spread
  open_ : P.lookup "_law_open" = some f_law_open
  take : P.lookup "_law_take" = some f_law_take
  anew : P.lookup "_law_anew" = some f_law_anew
  one : P.lookup "_law_one" = some f_law_one
theorem gc2 {h : Hp} {Q : D → Hp → Prop} {v : D} {g : List O} (hc : clo h.length v = true) (q : Q v h) : gcq h Q v (h ++ g) := .inr (.inl ⟨h, g, rfl, ⟨rfl, fun i o e => .inl e⟩, hc, q⟩)
def prim : List Int := [2147483629, 2147483587, 2147483579, 2147483563, 2147483549, 2147483543, 2147483497, 2147483489, 2147483477, 2147483423, 2147483399, 2147483353, 2147483323]
theorem prim_at {a : Int} (ha : 0 ≤ a) : ∃ m : Int, L2.atI (prim.map D.int) (a % 13) = some (.int m) ∧ 0 < m ∧ m < 2147483648 := by
  have h1 : 0 ≤ a % 13 := Int.emod_nonneg _ (by decide)
  have h2 : a % 13 < 13 := Int.emod_lt_of_pos _ (by decide)
  generalize a % 13 = k at h1 h2
  have : k = 0 ∨ k = 1 ∨ k = 2 ∨ k = 3 ∨ k = 4 ∨ k = 5 ∨ k = 6 ∨ k = 7 ∨ k = 8 ∨ k = 9 ∨ k = 10 ∨ k = 11 ∨ k = 12 := by omega
  rcases this with rfl | rfl | rfl | rfl | rfl | rfl | rfl | rfl | rfl | rfl | rfl | rfl | rfl <;> exact ⟨_, rfl, by decide, by decide⟩
theorem idx_prim {h : Hp} {o : O} {a : Int} {Q : TV → Prop} (ha : 0 ≤ a) (q : ∀ m : Int, 0 < m → m < 2147483648 → Q (.d (.int m))) :
    idx (h ++ [o, O.lst [D.int 2147483629, D.int 2147483587, D.int 2147483579, D.int 2147483563, D.int 2147483549, D.int 2147483543, D.int 2147483497, D.int 2147483489, D.int 2147483477, D.int 2147483423, D.int 2147483399, D.int 2147483353, D.int 2147483323]]) (.d (.ref (h.length + 1))) (.d (.int (a % 13))) Q := by
  obtain ⟨m, e, h1, h2⟩ := prim_at ha
  simp only [idx]
  rw [List.getElem?_append_right (by omega), show h.length + 1 - h.length = 1 by omega]
  show (match L2.atI (prim.map D.int) (a % 13) with
    | some v => Q (.d v)
    | none => False)
  rw [e]
  exact q m h1 h2
theorem sp_spread {P : Prog} (hP : KP P) {n : Nat} {cell a : Int} {h : Hp} {Q : D → Hp → Prop} (ha : 0 ≤ a) (ha2 : a ≤ 1048576) (q : ∀ r : Int, 0 ≤ r → Q (.int r) h) : callN P (n + 1) "_law_spread" [.int cell, .int a] h Q R0' := by
  refine call_go hP.spread rfl ?_
  simp [f_law_spread, dSs, dS, dT, dEs, dTs, dIfs, dI, dTg, dTgs, lay, tst, ini, tsLen, SL.bi, SL.lm, SL.lmT, SL.cmp, op2, SL.wipe, intD, ordD]
  by_cases hc : (10 : Int) ^ 18 ≤ cell
  · have hc' : (1000000000000000000 : Int) ≤ cell := hc
    simp [tru, hc']
    exact gc0 (q cell (by omega))
  · have hc' : ¬ ((1000000000000000000 : Int) ≤ cell) := hc
    simp [tru, hc', addD, lstOf, sz, mulD, biInt]
    have c0 : 0 ≤ cell % 1000000007 := Int.emod_nonneg _ (by decide)
    have c1 : cell % 1000000007 < 1000000007 := Int.emod_lt_of_pos _ (by decide)
    have b0 : 0 ≤ cell % 65537 := Int.emod_nonneg _ (by decide)
    have b1 : cell % 65537 < 65537 := Int.emod_lt_of_pos _ (by decide)
    have pr : 0 ≤ cell % 1000000007 * (2 * a + 69069) ∧ cell % 1000000007 * (2 * a + 69069) ≤ 1000000007 * 2166221 := ⟨Int.mul_nonneg c0 (by omega), Int.mul_le_mul (by omega) (by omega) (by omega) (by omega)⟩
    refine ⟨.inr (by omega), by omega, idx_prim ha fun m m1 m2 => ?_⟩
    have mod : ∀ x k : Int, 0 < k → 0 ≤ x % k ∧ x % k < k := fun x k hk => ⟨Int.emod_nonneg _ (by omega), Int.emod_lt_of_pos _ hk⟩
    simp only
    obtain ⟨i0, i1⟩ := mod ((cell % 1000000007 * (2 * a + 69069) + a * 40503 + 977) ^ 3) m m1
    generalize (cell % 1000000007 * (2 * a + 69069) + a * 40503 + 977) ^ 3 % m = one at i0 i1 ⊢
    have p1 : 0 ≤ one * (a + 3) ∧ one * (a + 3) ≤ 2147483648 * 1048579 := ⟨Int.mul_nonneg i0 (by omega), Int.mul_le_mul (by omega) (by omega) (by omega) (by omega)⟩
    refine ⟨m1, .inr (by omega), by omega, idx_prim (by omega) fun m' m1' m2' => ?_⟩
    simp only
    obtain ⟨j0, j1⟩ := mod ((one * (a + 3) + (cell % 65537 + 5)) ^ 5) m' m1'
    generalize (one * (a + 3) + (cell % 65537 + 5)) ^ 5 % m' = two at j0 j1 ⊢
    obtain ⟨l0, l1⟩ := mod one 1009 (by decide)
    refine ⟨m1', by omega, idx_prim (by omega) fun m3 m31 m32 => ?_⟩
    simp only
    obtain ⟨k0, k1⟩ := mod ((two + one % 1009 + a) ^ 3) m3 m31
    refine ⟨m31, gc2 rfl (q _ ?_)⟩
    have z1 : 0 ≤ one * 2147483647 + two := by omega
    have z2 : 0 ≤ (one * 2147483647 + two) * 2147483647 := Int.mul_nonneg z1 (by decide)
    omega
/-- the pen at p, its cells at c -/
structure PenAt (h : Hp) (p c : Nat) (cells : List Int) (a r : Int) : Prop where
  pen : h[p]? = some (.lst [.ref c, .int a, .int r])
  cel : h[c]? = some (.lst (cells.map .int))
  ne : c ≠ p
  a0 : 0 ≤ a
  r0 : 0 ≤ r
/-- only the pen has changed -/
structure Fr (p : Nat) (h h' : Hp) : Prop where
  len : h'.length = h.length
  same : ∀ i : Nat, i ≠ p → h'[i]? = h[i]?
theorem Fr.refl (p : Nat) (h : Hp) : Fr p h h := ⟨rfl, fun _ _ => rfl⟩
theorem Fr.trans {p : Nat} {a b c : Hp} (x : Fr p a b) (y : Fr p b c) : Fr p a c := ⟨y.len.trans x.len, fun i hi => (y.same i hi).trans (x.same i hi)⟩
theorem Fr.set {p : Nat} {h : Hp} {o : O} : Fr p h (h.set p o) := ⟨List.length_set .., fun i hi => List.getElem?_set_ne (fun e => hi e.symm)⟩
theorem PenAt.lt {h : Hp} {p c : Nat} {cells : List Int} {a r : Int} (x : PenAt h p c cells a r) : p < h.length := (List.getElem?_eq_some_iff.mp x.pen).1
theorem PenAt.set {h : Hp} {p c : Nat} {cells : List Int} {a r a' r' : Int} (x : PenAt h p c cells a r) (ha : 0 ≤ a') (hr : 0 ≤ r') : PenAt (h.set p (.lst [.ref c, .int a', .int r'])) p c cells a' r' :=
  ⟨List.getElem?_set_self x.lt, by rw [List.getElem?_set_ne (fun e => x.ne e.symm)]; exact x.cel, x.ne, ha, hr⟩
theorem pen2 {h : Hp} {p c : Nat} {cells : List Int} {a r : Int} (x : PenAt h p c cells a r) (Q : TV → Prop) : idx h (.d (.ref p)) (.d (.int 2)) Q = Q (.d (.int r)) := by
  simp [idx, x.pen, L2.atI, L2.ixN]
theorem pen1 {h : Hp} {p c : Nat} {cells : List Int} {a r : Int} (x : PenAt h p c cells a r) (Q : TV → Prop) : idx h (.d (.ref p)) (.d (.int 1)) Q = Q (.d (.int a)) := by
  simp [idx, x.pen, L2.atI, L2.ixN]
theorem pen0 {h : Hp} {p c : Nat} {cells : List Int} {a r : Int} (x : PenAt h p c cells a r) (Q : TV → Prop) : idx h (.d (.ref p)) (.d (.int 0)) Q = Q (.d (.ref c)) := by
  simp [idx, x.pen, L2.atI, L2.ixN]
theorem take_tail {P : Prog} {n : Nat} {h : Hp} {p c : Nat} {cells : List Int} {a r many : Int} {R : D → Hp → Prop} {e : En} {u v w : Option D} (x : PenAt h p c cells a r) (hm : 1 ≤ many) (hm2 : many < 1073741824) (he : e.rt = R) (q : R (.int (r % many)) (h.set p (.lst [.ref c, .int a, .int (r / many)]))) :
    dSs ⟨callN P n⟩ tkT e [some (.ref p), some (.int many), u, v, w] h := by
  obtain ⟨e1, e2, e3, e4, e5⟩ := e
  cases he
  have m0 : 0 < many := by omega
  simp [tkT, dSs, dS, dT, dEs, dTs, dIfs, dI, dTg, dTgs, lay, tst, ini, tsLen, SL.bi, SL.lm, SL.lmT, SL.cmp, op2, SL.wipe, pen2 x, biInt, intD, x.pen, m0, hm2]
  exact q
theorem take_mid {P : Prog} (hP : KP P) {n : Nat} {h : Hp} {p c : Nat} {cells : List Int} {a r many cell : Int} {e : En} {w : Option D} (x : PenAt h p c cells a r) (ha2 : a ≤ 1048576) (he : e.xr = fun _ _ _ _ => False)
    (q : ∀ r', 0 ≤ r' → e.nx [some (.ref p), some (.int many), some (.int a), some (.int cell), w] (h.set p (.lst [.ref c, .int (a + 1), .int r']))) : dSs ⟨callN P (n + 1)⟩ tkM e [some (.ref p), some (.int many), some (.int a), some (.int cell), w] h := by
  have hl := x.lt
  obtain ⟨e1, e2, e3, e4, e5⟩ := e
  cases he
  simp [tkM, dSs, dS, dT, dEs, dTs, dIfs, dI, dTg, dTgs, lay, tst, ini, tsLen, SL.bi, SL.lm, SL.lmT, SL.cmp, op2, SL.wipe, addD, x.pen]
  refine sp_spread hP x.a0 ha2 fun r' hr => ?_
  simp [List.getElem?_set_self hl, List.set_set]
  exact q r' hr
theorem sp_take {P : Prog} (hP : KP P) {n : Nat} {h : Hp} {p c : Nat} {cells : List Int} {a r many : Int} {Q : D → Hp → Prop} (x : PenAt h p c cells a r) (hm : 1 ≤ many) (hm2 : many < 1073741824) (ha2 : a ≤ 1048576)
    (q : ∀ (v : Int) (h' : Hp) (a' r' : Int), 0 ≤ v → v < many → PenAt h' p c cells a' r' → Fr p h h' → a' ≤ a + 1 → Q (.int v) h') : callN P (n + 2) "_law_take" [.ref p, .int many] h Q R0' := by
  have hc := x.cel
  have a0 := x.a0
  have r0 := x.r0
  have fin : ∀ (a' r' : Int), 0 ≤ a' → 0 ≤ r' → a' ≤ a + 1 → ∀ h1 : Hp, PenAt h1 p c cells a' r' → Fr p h h1 → gcq h Q (.int (r' % many)) (h1.set p (.lst [.ref c, .int a', .int (r' / many)])) := fun a' r' z1 z2 z3 h1 p1 f1 =>
    gc0 (q _ _ a' (r' / many) (Int.emod_nonneg _ (by omega)) (Int.emod_lt_of_pos _ (by omega)) (p1.set z1 (Int.ediv_nonneg z2 (by omega))) (f1.trans Fr.set) z3)
  refine call_go hP.take rfl ?_
  simp [f_law_take, dSs, dS, dT, dEs, dTs, dIfs, dI, dTg, dTgs, lay, tst, ini, tsLen, SL.bi, SL.lm, SL.lmT, SL.cmp, op2, SL.wipe, intD, ordD, pen2 x, tru]
  by_cases hr : r < many
  · simp [hr, biLen, SL.len, hc, pen0 x, pen1 x]
    have tl : ∀ (r' : Int) (e : En) (u v w : Option D), 0 ≤ r' → e.rt = gcq h Q → dSs ⟨callN P (n + 1)⟩ tkT e [some (.ref p), some (.int many), u, v, w] (h.set p (.lst [.ref c, .int (a + 1), .int r'])) := fun r' e u v w hr' he => by
      have x2 : PenAt (h.set p (.lst [.ref c, .int (a + 1), .int r'])) p c cells (a + 1) r' := x.set (by omega) hr'
      exact take_tail x2 hm hm2 he (fin (a + 1) r' (by omega) hr' (by omega) _ x2 Fr.set)
    by_cases ha : a < cells.length
    · have e1 : L2.atI (cells.map D.int) a = some (.int (cells[a.toNat]'(by omega))) := by
        simp only [L2.atI, L2.ixN, List.length_map]
        rw [if_pos a0, if_pos ha]
        show (cells.map D.int)[a.toNat]? = _
        rw [List.getElem?_map, List.getElem?_eq_getElem (by omega)]
        rfl
      simp [ha, idx, hc, e1]
      exact take_mid hP x ha2 rfl fun r' hr' => tl r' _ _ _ _ hr' rfl
    · simp [ha]
      by_cases h0 : 0 < cells.length
      · have h0' : (0 : Int) < cells.length := by omega
        have k0 : 0 ≤ (a * 5 + 3) % (cells.length : Int) := Int.emod_nonneg _ (by omega)
        have k1 : (a * 5 + 3) % (cells.length : Int) < cells.length := Int.emod_lt_of_pos _ h0'
        have e1 : L2.atI (cells.map D.int) ((a * 5 + 3) % (cells.length : Int)) = some (.int (cells[((a * 5 + 3) % (cells.length : Int)).toNat]'(by omega))) := by
          simp only [L2.atI, L2.ixN, List.length_map]
          rw [if_pos k0, if_pos k1]
          show (cells.map D.int)[((a * 5 + 3) % (cells.length : Int)).toNat]? = _
          rw [List.getElem?_map, List.getElem?_eq_getElem (by omega)]
          rfl
        simp [h0, h0', mulD, addD, biInt, pen0 x]
        simp [h0, h0', mulD, addD, biInt, biLen, SL.len, hc, pen0 x]
        have i1 : ∀ Q : TV → Prop, idx h (.d (.ref c)) (.d (.int ((a * 5 + 3) % (cells.length : Int)))) Q = Q (.d (.int (cells[((a * 5 + 3) % (cells.length : Int)).toNat]'(by omega)))) := fun Q => by
          simp only [idx, hc, e1]
        simp [i1]
        exact ⟨by omega, take_mid hP x ha2 rfl fun r' hr' => tl r' _ _ _ _ hr' rfl⟩
      · simp [h0]
        exact take_mid hP x ha2 rfl fun r' hr' => tl r' _ _ _ _ hr' rfl
  · simp [hr]
    exact take_tail x hm hm2 rfl (fin a r a0 r0 (by omega) h x (Fr.refl p h))
theorem sp_anew {P : Prog} (hP : KP P) {n : Nat} {h : Hp} {p c : Nat} {cells : List Int} {a r : Int} {Q : D → Hp → Prop} (x : PenAt h p c cells a r) (q : ∀ h', PenAt h' p c cells a 0 → Fr p h h' → Q (.ref p) h') : callN P (n + 1) "_law_anew" [.ref p] h Q R0' := by
  refine call_go hP.anew rfl ?_
  simp [f_law_anew, dSs, dS, dT, dEs, dTs, dIfs, dI, dTg, dTgs, lay, tst, ini, tsLen, SL.bi, SL.lm, SL.lmT, SL.cmp, op2, SL.wipe, x.pen]
  exact gc0 (q _ (x.set x.a0 (Int.le_refl 0)) Fr.set)
theorem sp_one {P : Prog} (hP : KP P) {n : Nat} {h : Hp} {p c l : Nat} {cells : List Int} {a r : Int} {xs : List D} {Q : D → Hp → Prop} (x : PenAt h p c cells a r) (hl : h[l]? = some (.lst xs)) (hlp : l ≠ p) (h0 : xs ≠ []) (h1 : xs.length < 1000000) (ha2 : a ≤ 1048576)
    (q : ∀ (v : D) (h' : Hp) (a' r' : Int), v ∈ xs → PenAt h' p c cells a' r' → Fr p h h' → a' ≤ a + 1 → Q v h') : callN P (n + 3) "_law_one" [.ref p, .ref l] h Q R0' := by
  refine call_go hP.one rfl ?_
  simp [f_law_one, dSs, dS, dT, dEs, dTs, dIfs, dI, dTg, dTgs, lay, tst, ini, tsLen, SL.bi, SL.lm, SL.lmT, SL.cmp, op2, SL.wipe, biLen, SL.len, hl]
  have hne : 0 < xs.length := List.length_pos_iff.mpr h0
  refine sp_take hP x (by omega) (by omega) ha2 fun v h' a' r' v0 v1 p' f' ha' => ?_
  have e1 : h'[l]? = some (.lst xs) := (f'.same l hlp).trans hl
  have e2 : L2.atI xs v = some (xs[v.toNat]'(by omega)) := by
    simp only [L2.atI, L2.ixN]
    rw [if_pos v0, if_pos v1]
    show xs[v.toNat]? = _
    rw [List.getElem?_eq_getElem (by omega)]
  simp [idx, e1, e2]
  exact gc0 (q _ h' a' r' (List.getElem_mem _) p' f' ha')
end Lw

set_option linter.all false
set_option autoImplicit false
set_option maxRecDepth 100000
set_option Elab.async false
set_option maxHeartbeats 4000000
namespace Lw
open PySem SL
theorem cut_map (ns : List Int) (lo hi : Option Int) : cut (ns.map D.int) lo hi = (cut ns lo hi).map D.int := by
  unfold cut
  rw [List.length_map, List.map_take, List.map_drop]
theorem sp_open {P : Prog} (hP : KP P) {n : Nat} {ns : List Int} {Q : D → Hp → Prop} (q : ∀ cells : List Int, Q (.ref 2) [.fz (ns.map .int), .lst (cells.map .int), .lst [.ref 1, .int 0, .int 0]]) (hn : ns.length ≤ 63) : callN P (n + 1) "_law_open" [.ref 0] [.fz (ns.map .int)] Q R0' := by
  refine call_go hP.open_ rfl ?_
  simp [f_law_open, dSs, dS, dT, dEs, dTs, dIfs, dI, dTg, dTgs, lay, tst, ini, tsLen, SL.bi, SL.lm, SL.lmT, SL.cmp, op2, SL.wipe, slc, items, walk, walkL, cut_map]
  have c1 : cut ns none (some 12) = ns.take 12 := by
    simp only [cut, ix, HT.sIx]
    rw [List.drop_zero, Nat.sub_zero]
    show ns.take (min 12 ns.length) = _
    rw [List.take_eq_take_iff]
    omega
  have c2 : cut ns (some 12) (some 63) = ns.drop 12 := by
    simp only [cut, ix, HT.sIx]
    show (ns.drop (min 12 ns.length)).take (min 63 ns.length - min 12 ns.length) = _
    by_cases h : ns.length ≤ 12
    · rw [List.drop_eq_nil_of_le (show ns.length ≤ 12 from h), List.drop_eq_nil_of_le (by omega)]
      exact List.take_nil
    · rw [show min 12 ns.length = 12 by omega, show min 63 ns.length = ns.length by omega]
      rw [List.take_of_length_le (by rw [List.length_drop]; omega)]
  rw [c1]
  simp [sz]
  refine ⟨by omega, ?_⟩
  rw [c2]
  refine for_inv (fun r s h => (∃ cs : List Int, cs.length = min 12 ns.length ∧ h = [O.fz (ns.map .int), .lst (cs.map .int)] ∧ ∃ u v, s = [some (D.ref 0), some (.ref 1), u, v]) ∧ ∀ x, x ∈ r → (∃ (k : Nat) (i : Int), x = .tup [.int k, .int i]) ∧ 12 ≤ ns.length) ?_ ?_ _ _ _ ?_
  · rintro x r s h ⟨⟨cs, hl, rfl, u, v, rfl⟩, hr⟩
    obtain ⟨⟨k, i, rfl⟩, h12⟩ := hr x (List.mem_cons_self ..)
    refine ⟨trivial, fun N hN => ?_⟩
    have k0 : 0 ≤ (k : Int) % 12 := Int.emod_nonneg _ (by decide)
    have k1 : (k : Int) % 12 < 12 := Int.emod_lt_of_pos _ (by decide)
    have e1 : L2.atI (cs.map D.int) ((k : Int) % 12) = some (.int (cs[((k : Int) % 12).toNat]'(by omega))) := by
      simp only [L2.atI, L2.ixN, List.length_map]
      rw [if_pos k0, if_pos (by omega)]
      show (cs.map D.int)[((k : Int) % 12).toNat]? = _
      rw [List.getElem?_map, List.getElem?_eq_getElem (by omega)]
      rfl
    simp [dSs, dS, dT, dEs, dTs, dIfs, dI, dTg, dTgs, lay, tst, ini, tsLen, SL.bi, SL.lm, SL.lmT, SL.cmp, op2, SL.wipe, biInt, intD, idx, e1, addD, lstOf]
    refine ⟨k0, by omega, hN _ _ ⟨⟨cs.set ((k : Int) % 12).toNat (cs[((k : Int) % 12).toNat]'(by omega) + i), by rw [List.length_set]; exact hl, by rw [List.map_set], _, _, rfl⟩, fun y hy => hr y (List.mem_cons_of_mem _ hy)⟩⟩
  · rintro s h ⟨⟨cs, hl, rfl, u, v, rfl⟩, _⟩
    refine ⟨trivial, ?_⟩
    simp [dSs, dS, dT, dEs, dTs, dIfs, dI, dTg, dTgs, lay, tst, ini, tsLen, SL.bi, SL.lm, SL.lmT, SL.cmp, op2, SL.wipe]
    exact gc0 (q cs)
  · refine ⟨⟨ns.take 12, by rw [List.length_take], by rw [List.map_take], _, _, rfl⟩, fun x hx => ?_⟩
    simp only [List.mem_map, List.mem_zipIdx_iff_getElem?] at hx
    obtain ⟨⟨d, j⟩, h1, rfl⟩ := hx
    simp only [List.getElem?_map] at h1
    obtain ⟨i, h2, rfl⟩ := Option.map_eq_some_iff.mp h1
    refine ⟨⟨j, i, rfl⟩, ?_⟩
    have := (List.getElem?_eq_some_iff.mp h2).1
    rw [List.length_drop] at this
    omega
end Lw

set_option linter.all false
set_option autoImplicit false
set_option maxRecDepth 100000
set_option Elab.async false
set_option maxHeartbeats 4000000
namespace Lw
open PySem SL
/-! ### the heap has grown, and the pen has changed -/
structure FrE (p : Nat) (h h' : Hp) : Prop where
  len : h.length ≤ h'.length
  same : ∀ i : Nat, i < h.length → i ≠ p → h'[i]? = h[i]?
theorem FrE.refl (p : Nat) (h : Hp) : FrE p h h := ⟨Nat.le_refl _, fun _ _ _ => rfl⟩
theorem FrE.trans {p : Nat} {a b c : Hp} (x : FrE p a b) (y : FrE p b c) : FrE p a c := ⟨Nat.le_trans x.len y.len, fun i hi hp => (y.same i (Nat.lt_of_lt_of_le hi x.len) hp).trans (x.same i hi hp)⟩
theorem Fr.e {p : Nat} {a b : Hp} (x : Fr p a b) : FrE p a b := ⟨by rw [x.len]; exact Nat.le_refl _, fun i _ hp => x.same i hp⟩
theorem FrE.app (p : Nat) (h g : Hp) : FrE p h (h ++ g) := ⟨by rw [List.length_append]; omega, fun i hi _ => List.getElem?_append_left hi⟩
theorem FrE.put {p l : Nat} {h h' : Hp} {o : O} (x : FrE p h h') (hl : h.length ≤ l) : FrE p h (h'.set l o) := ⟨by rw [List.length_set]; exact x.len, fun i hi hp => by rw [List.getElem?_set_ne (by omega)]; exact x.same i hi hp⟩
theorem PenAt.app {h g : Hp} {p c : Nat} {cells : List Int} {a r : Int} (x : PenAt h p c cells a r) : PenAt (h ++ g) p c cells a r :=
  ⟨by rw [List.getElem?_append_left x.lt]; exact x.pen, by rw [List.getElem?_append_left (List.getElem?_eq_some_iff.mp x.cel).1]; exact x.cel, x.ne, x.a0, x.r0⟩
theorem PenAt.put {h : Hp} {p c l : Nat} {cells : List Int} {a r : Int} {o : O} (x : PenAt h p c cells a r) (h1 : l ≠ p) (h2 : l ≠ c) : PenAt (h.set l o) p c cells a r :=
  ⟨by rw [List.getElem?_set_ne h1]; exact x.pen, by rw [List.getElem?_set_ne h2]; exact x.cel, x.ne, x.a0, x.r0⟩
theorem PenAt.clt {h : Hp} {p c : Nat} {cells : List Int} {a r : Int} (x : PenAt h p c cells a r) : c < h.length := (List.getElem?_eq_some_iff.mp x.cel).1
theorem gcE {h H : Hp} {p c : Nat} {cells cells' : List Int} {a r a' r' : Int} {Q : D → Hp → Prop} {v : D} (x : PenAt h p c cells a r) (y : PenAt H p c cells' a' r') (f : FrE p h H) (hv : clo h.length v = true) (q : ∀ h', PenAt h' p c cells' a' r' → Fr p h h' → Q v h') : gcq h Q v H := by
  have hl : (H.take h.length).length = h.length := by rw [List.length_take]; have := f.len; omega
  have g : ∀ i : Nat, i < h.length → (H.take h.length)[i]? = H[i]? := fun i hi => by rw [List.getElem?_take_of_lt hi]
  refine .inr (.inl ⟨H.take h.length, H.drop h.length, (List.take_append_drop _ _).symm, ⟨hl, fun i o e => ?_⟩, hv, q _ ⟨by rw [g p x.lt]; exact y.pen, by rw [g c x.clt]; exact y.cel, y.ne, y.a0, y.r0⟩ ⟨hl, fun i hi => ?_⟩⟩)
  · have hi : i < h.length := by rw [← hl]; exact (List.getElem?_eq_some_iff.mp e).1
    rw [g i hi] at e
    by_cases hp : i = p
    · right
      subst hp
      rw [y.pen] at e
      cases e
      have := x.clt
      simp [cloO, clo, this]
    · left
      rw [← f.same i hi hp]
      exact e
  · by_cases h1 : i < h.length
    · rw [g i h1]
      exact f.same i h1 hi
    · rw [List.getElem?_eq_none (by omega), List.getElem?_eq_none (by omega)]
/-! ### machines -/
structure Mach where
  l : Int
  rows : List (List Int)
  ends : List Int
def rowsD (rows : List (List Int)) : List D := rows.map fun r => .tup (r.map .int)
def mD (m : Mach) : D := .tup [.int m.l, .tup (rowsD m.rows), .tup (m.ends.map .int)]
def upL : List Int → Bool
  | x :: y :: r => decide (x < y) && upL (y :: r)
  | _ => true
def inR (many : Int) (xs : List Int) : Prop := ∀ x, x ∈ xs → 0 ≤ x ∧ x < many
structure MachOk (m : Mach) : Prop where
  l1 : 1 ≤ m.l
  l3 : m.l ≤ 3
  n1 : 1 ≤ m.rows.length
  n32 : m.rows.length ≤ 32
  row : ∀ r, r ∈ m.rows → (r.length : Int) = m.l ∧ inR m.rows.length r
  ends : inR m.rows.length m.ends
  up : upL m.ends = true
theorem below_in {many x : Int} (h : 0 ≤ x ∧ x < many) : belowD many (.int x) = true := by
  show (decide (0 ≤ x) && decide (x < many)) = true
  rw [decide_eq_true h.1, decide_eq_true h.2]
  rfl
theorem below_all_in {many : Int} {xs : List Int} (h : inR many xs) : (xs.map D.int).all (belowD many) = true := by
  rw [List.all_map, List.all_eq_true]
  exact fun x m => below_in (h x m)
theorem up_map : ∀ xs : List Int, pairsUp (xs.map D.int) = upL xs
  | [] => rfl
  | [x] => rfl
  | x :: y :: r => by
    show (upD (.int x) (.int y) && pairsUp ((y :: r).map D.int)) = _
    rw [up_map (y :: r)]
    rfl
theorem rowsD_len (rows : List (List Int)) : (rowsD rows).length = rows.length := by unfold rowsD; rw [List.length_map]
theorem mach_true {m : Mach} (k : MachOk m) : machineD (mD m) = true := by
  have l1 := k.l1
  have l3 := k.l3
  have n1 := k.n1
  have n32 := k.n32
  show (lettersD (.int m.l) && (decide (1 ≤ (rowsD m.rows).length) && decide ((rowsD m.rows).length ≤ 32) && ((rowsD m.rows).all fun r => rowD m.l (rowsD m.rows).length r) && risingD (rowsD m.rows).length (.tup (m.ends.map .int)))) = true
  rw [rowsD_len]
  have e1 : lettersD (.int m.l) = true := by
    show (belowD 4 (.int m.l) && decide (0 < m.l)) = true
    rw [below_in (by omega), decide_eq_true (by omega)]
    rfl
  have e2 : ((rowsD m.rows).all fun r => rowD m.l m.rows.length r) = true := by
    unfold rowsD
    rw [List.all_map, List.all_eq_true]
    intro r hr
    obtain ⟨h1, h2⟩ := k.row r hr
    show (decide (((r.map D.int).length : Int) = m.l) && (r.map D.int).all (belowD m.rows.length)) = true
    rw [List.length_map, decide_eq_true h1, below_all_in h2]
    rfl
  have e3 : risingD m.rows.length (.tup (m.ends.map .int)) = true := by
    show ((m.ends.map D.int).all (belowD m.rows.length) && pairsUp (m.ends.map D.int)) = true
    rw [below_all_in k.ends, up_map, k.up]
    rfl
  rw [e1, e2, e3, decide_eq_true n1, decide_eq_true n32]
  rfl
theorem up_len : ∀ {xs : List Int} {many : Int} {lo : Int}, upL xs = true → (∀ x, x ∈ xs → lo ≤ x ∧ x < many) → (xs.length : Int) ≤ max 0 (many - lo)
  | [], _, _, _, _ => by simp; omega
  | [x], many, lo, _, h => by
    have := h x (List.mem_cons_self ..)
    simp
    omega
  | x :: y :: r, many, lo, hu, h => by
    have hu' : (decide (x < y) && upL (y :: r)) = true := hu
    rw [Bool.and_eq_true] at hu'
    have hxy : x < y := of_decide_eq_true hu'.1
    have hx := h x (List.mem_cons_self ..)
    have low : ∀ (r : List Int) (y : Int), upL (y :: r) = true → ∀ z, z ∈ y :: r → y ≤ z := fun r => by
      induction r with
      | nil => intro y _ z hz; simp at hz; omega
      | cons w r ih =>
        intro y hy z hz
        have hy' : (decide (y < w) && upL (w :: r)) = true := hy
        rw [Bool.and_eq_true] at hy'
        have := of_decide_eq_true hy'.1
        rcases List.mem_cons.mp hz with e | m
        · omega
        · have := ih w hy'.2 z m
          omega
    have ih := up_len (xs := y :: r) (many := many) (lo := lo + 1) hu'.2 fun z hz => ⟨by have := low r y hu'.2 z hz; omega, (h z (List.mem_cons_of_mem _ hz)).2⟩
    rw [List.length_cons]
    omega
theorem mach_pl {h : Hp} {m : Mach} (k : MachOk m) : Pl h 3 (mD m) := by
  have n32 := k.n32
  have l3 := k.l3
  refine ⟨by simp, fun x hx => ?_⟩
  have hx' : x = .int m.l ∨ x = .tup (rowsD m.rows) ∨ x = .tup (m.ends.map .int) := by simpa using hx
  rcases hx' with rfl | rfl | rfl
  · trivial
  · refine ⟨by rw [rowsD_len]; omega, fun r hr => ?_⟩
    obtain ⟨r', hr', rfl⟩ := List.mem_map.mp hr
    have := (k.row r' hr').1
    refine ⟨by rw [List.length_map]; omega, fun y hy => ?_⟩
    obtain ⟨i, _, rfl⟩ := List.mem_map.mp hy
    trivial
  · have := up_len (lo := 0) k.up fun x hx => k.ends x hx
    refine ⟨by rw [List.length_map]; omega, fun y hy => ?_⟩
    obtain ⟨i, _, rfl⟩ := List.mem_map.mp hy
    trivial
end Lw

set_option linter.all false
set_option autoImplicit false
set_option maxRecDepth 100000
set_option Elab.async false
set_option maxHeartbeats 4000000
namespace Lw
open PySem SL
def dmA : Ss := (.cons (.exp (.lm .append (.var 6) (.cons (.var 8) Es.nil)))
    Ss.nil)
def dmI : Ss := (.cons (.asg (.nm 8) (.call "_law_take" (.cons (.var 0) (.cons (.var 2) Es.nil))))
    (.cons (.ifs (.cmp .eq (.var 3) (.cst (.int 1))) (.cons (.asg (.nm 8) (.bi .min (.cons (.op .sub (.var 2) (.cst (.int 1))) (.cons (.op .add (.op .add (.var 5) (.cst (.int 1))) (.call "_law_one" (.cons (.var 0) (.cons (.lst (.cons (.cst (.int 0)) (.cons (.cst (.int 0)) (.cons (.cst (.int 0)) (.cons (.cst (.int 1)) (.cons (.var 2) Es.nil)))))) Es.nil)))) Es.nil))))
    Ss.nil) (.cons (.ifs (.cmp .eq (.var 3) (.cst (.int 2))) (.cons (.asg (.nm 8) (.call "_law_one" (.cons (.var 0) (.cons (.lst (.cons (.var 5) (.cons (.var 5) (.cons (.bi .min (.cons (.op .sub (.var 2) (.cst (.int 1))) (.cons (.op .add (.var 5) (.cst (.int 1))) Es.nil))) (.cons (.var 8) Es.nil))))) Es.nil))))
    Ss.nil) Ss.nil)
    Ss.nil))
    dmA))
def dmB : Ss := (.cons (.exp (.lm .append (.var 4) (.cons (.toT (.seq (.var 6))) Es.nil)))
    Ss.nil)
def dmE : Ss := (.cons (.ifs (.and (.cmp .eq (.var 10) (.lst Es.nil)) (.cmp .gt (.call "_law_take" (.cons (.var 0) (.cons (.cst (.int 4)) Es.nil))) (.cst (.int 0)))) (.cons (.asg (.nm 10) (.lst (.cons (.call "_law_take" (.cons (.var 0) (.cons (.var 2) Es.nil))) Es.nil)))
    Ss.nil) Ss.nil)
    (.cons (.ret (.tup (.cons (.var 1) (.cons (.toT (.seq (.var 4))) (.cons (.toT (.seq (.var 10))) Es.nil)))))
    Ss.nil))
def dmC : Ss := (.cons (.asg (.nm 9) (.call "_law_one" (.cons (.var 0) (.cons (.lst (.cons (.cst (.int 2)) (.cons (.cst (.int 2)) (.cons (.cst (.int 3)) (.cons (.cst (.int 4)) Es.nil))))) Es.nil))))
    (.cons (.asg (.nm 10) (.comp (.var 5) (.nm 5) (.rng (.var 2)) (.cons (.cmp .eq (.call "_law_take" (.cons (.var 0) (.cons (.var 9) Es.nil))) (.cst (.int 0))) Es.nil) [5]))
    dmE))
def dmO : Ss := (.cons (.asg (.nm 6) (.lst Es.nil))
    (.cons (.for (.nm 7) (.rng (.var 1)) dmI)
    dmB))
def f_law_drawn_machine : Fn := ⟨3, 11, (.cons (.par (.cons (.nm 3) (.cons (.nm 4) Ts.nil)) (.cons (.call "_law_one" (.cons (.var 0) (.cons (.lst (.cons (.cst (.int 0)) (.cons (.cst (.int 0)) (.cons (.cst (.int 1)) (.cons (.cst (.int 1)) (.cons (.cst (.int 2)) Es.nil)))))) Es.nil))) (.cons (.lst Es.nil) Es.nil)))
    (.cons (.for (.nm 5) (.rng (.var 2)) dmO)
    dmC))⟩
/-- one number is put into a row -/
theorem dm_app {P : Prog} {n l : Nat} {H : Hp} {ts : List Int} {to : Int} {e : En} {x0 x1 x2 x3 x4 x5 x7 x9 x10 : Option D} (hr : H[l]? = some (.lst (ts.map D.int))) (hl : ts.length < 1000) (q : e.nx [x0, x1, x2, x3, x4, x5, some (.ref l), x7, some (.int to), x9, x10] (H.set l (.lst ((ts ++ [to]).map D.int)))) :
    dSs ⟨callN P n⟩ dmA e [x0, x1, x2, x3, x4, x5, some (.ref l), x7, some (.int to), x9, x10] H := by
  simp [dmA, dSs, dS, dT, dEs, dTs, dIfs, dI, dTg, dTgs, lay, tst, ini, tsLen, SL.bi, SL.lm, SL.lmT, SL.cmp, op2, SL.wipe, lmOk, lstOf, hr, lmAppend, sz]
  refine ⟨by omega, ?_⟩
  rw [List.map_append] at q
  exact q
theorem clo_set_self {H : Hp} {l : Nat} {o : O} (h : l < H.length) : (H.set l o)[l]? = some o := List.getElem?_set_self h
theorem at_end {h : Hp} {o : O} : (h ++ [o])[h.length]? = some o := by simp
/-- one number of a row is drawn -/
theorem dm_turn {P : Prog} (hP : KP P) {n p c l mv : Nat} {H : Hp} {cells ts : List Int} {a r many lt srt st nu : Int} {e : En} {x8 x9 x10 : Option D} (x : PenAt H p c cells a r) (hm1 : 1 ≤ many) (hm2 : many ≤ 32) (ha : a ≤ 1000000) (hst : 0 ≤ st ∧ st < many)
    (hr : H[l]? = some (.lst (ts.map D.int))) (hlp : l ≠ p) (hlc : l ≠ c) (hl : ts.length < 1000) (he : e.xr = fun _ _ _ _ => False)
    (q : ∀ (to : Int) (H' : Hp) (a' r' : Int) (y8 : Option D), 0 ≤ to → to < many → PenAt H' p c cells a' r' → FrE p (H.set l (.lst ((ts ++ [to]).map D.int))) H' → a' ≤ a + 2 → H'[l]? = some (.lst ((ts ++ [to]).map D.int)) →
      e.nx [some (.ref p), some (.int lt), some (.int many), some (.int srt), some (.ref mv), some (.int st), some (.ref l), some (.int nu), y8, x9, x10] H') :
    dSs ⟨callN P (n + 3)⟩ dmI e [some (.ref p), some (.int lt), some (.int many), some (.int srt), some (.ref mv), some (.int st), some (.ref l), some (.int nu), x8, x9, x10] H := by
  obtain ⟨e1, e2, e3, e4, e5⟩ := e
  cases he
  have hll : l < H.length := (List.getElem?_eq_some_iff.mp hr).1
  simp [dmI, dSs, dS, dT, dEs, dTs, dIfs, dI, dTg, dTgs, lay, tst, ini, tsLen, SL.bi, SL.lm, SL.lmT, SL.cmp, op2, SL.wipe]
  refine sp_take hP (n := n + 1) x hm1 (by omega) (by omega) fun v h1 a1 r1 v0 v1 p1 f1 ha1 => ?_
  simp [eqD, rdT, rd, eqv_int, tru]
  -- the end of each way
  have fin : ∀ (to : Int) (H2 : Hp) (a2 r2 : Int) (e : En), 0 ≤ to → to < many → PenAt H2 p c cells a2 r2 → FrE p H H2 → a2 ≤ a + 2 → e.nx = e1 → dSs ⟨callN P (n + 3)⟩ dmA e [some (.ref p), some (.int lt), some (.int many), some (.int srt), some (.ref mv), some (.int st), some (.ref l), some (.int nu), some (.int to), x9, x10] H2 := fun to H2 a2 r2 e t0 t1 p2 f2 ha2 en => by
    have hr2 : H2[l]? = some (.lst (ts.map D.int)) := (f2.same l hll hlp).trans hr
    refine dm_app hr2 hl ?_
    rw [en]
    have hl2 : l < H2.length := (List.getElem?_eq_some_iff.mp hr2).1
    refine q to _ a2 r2 _ t0 t1 (p2.put hlp hlc) ⟨?_, fun i hi hp => ?_⟩ ha2 (clo_set_self hl2)
    · rw [List.length_set, List.length_set]
      exact f2.len
    · rw [List.length_set] at hi
      by_cases z : i = l
      · subst z
        rw [clo_set_self hl2, clo_set_self hll]
      · rw [List.getElem?_set_ne (fun e => z e.symm), List.getElem?_set_ne (fun e => z e.symm)]
        exact f2.same i hi hp
  by_cases s1 : srt = 1
  · simp [s1, intD, addD, sz]
    refine sp_one hP (n := n) (p1.app) (l := h1.length) at_end (by have := p1.lt; omega) (by simp) (by simp) (by omega) fun v2 h2 a2 r2 m2 p2 f2 ha2 => ?_
    have iv : ∃ i : Int, v2 = .int i ∧ 0 ≤ i := by
      simp at m2
      rcases m2 with rfl | rfl | rfl
      · exact ⟨_, rfl, by omega⟩
      · exact ⟨_, rfl, by omega⟩
      · exact ⟨_, rfl, by omega⟩
    obtain ⟨i, rfl, i0⟩ := iv
    simp [addD, biMin]
    rw [s1] at fin
    refine fin _ h2 a2 r2 _ ?_ ?_ p2 ((f1.e.trans (FrE.app p h1 _)).trans f2.e) (by omega) rfl
    · split <;> omega
    · split <;> omega
  · simp [s1]
    by_cases s2 : srt = 2
    · simp [s2, intD, addD, sz, biMin]
      refine sp_one hP (n := n) (p1.app) (l := h1.length) at_end (by have := p1.lt; omega) (by simp) (by simp) (by omega) fun v2 h2 a2 r2 m2 p2 f2 ha2 => ?_
      have iv : ∃ i : Int, v2 = .int i ∧ 0 ≤ i ∧ i < many := by
        simp at m2
        rcases m2 with rfl | rfl | rfl
        · exact ⟨_, rfl, hst⟩
        · exact ⟨_, rfl, by split <;> omega, by split <;> omega⟩
        · exact ⟨_, rfl, v0, v1⟩
      obtain ⟨i, rfl, i0, i1⟩ := iv
      rw [s2] at fin
      exact fin _ h2 a2 r2 _ i0 i1 p2 ((f1.e.trans (FrE.app p h1 _)).trans f2.e) (by omega) rfl
    · simp [s2]
      exact fin v h1 a1 r1 _ v0 v1 p1 f1.e (by omega) rfl
/-- a row is drawn -/
theorem rng_map (n : Nat) : (List.range n).map (fun (i : Nat) => D.int i) = (List.range' 0 n).map fun (i : Nat) => D.int i := by rw [List.range_eq_range']
end Lw

set_option linter.all false
set_option autoImplicit false
set_option maxRecDepth 100000
set_option Elab.async false
set_option maxHeartbeats 4000000
namespace Lw
open PySem SL
theorem rng_cons {k N : Nat} (h : k < N) : (List.range' k (N - k)).map (fun (i : Nat) => D.int i) = D.int k :: (List.range' (k + 1) (N - (k + 1))).map fun (i : Nat) => D.int i := by
  rw [show N - k = (N - (k + 1)) + 1 by omega, List.range'_succ]
  rfl
theorem for_rng {st : Hp → Prop} {turn : D → (Sto → Hp → Prop) → Sto → Hp → Prop} {nx : Sto → Hp → Prop} (hst : ∀ h, st h) (N : Nat) (Iv : Nat → Sto → Hp → Prop) (step : ∀ (k : Nat) s h, k < N → Iv k s h → ∀ Nx : Sto → Hp → Prop, (∀ s h, Iv (k + 1) s h → Nx s h) → turn (.int k) Nx s h) (done : ∀ s h, Iv N s h → nx s h)
    (s : Sto) (h : Hp) (h0 : Iv 0 s h) : forGo st turn nx ((List.range N).map fun (i : Nat) => D.int i) s h := by
  rw [rng_map]
  refine for_inv (fun r s h => ∃ k, k ≤ N ∧ r = (List.range' k (N - k)).map (fun (i : Nat) => D.int i) ∧ Iv k s h) ?_ ?_ _ s h ⟨0, Nat.zero_le _, rfl, h0⟩
  · rintro x r s h ⟨k, hk, e, iv⟩
    by_cases hlt : k < N
    · rw [rng_cons hlt] at e
      cases e
      exact ⟨hst h, fun Nx hN => step k s h hlt iv Nx fun s h z => hN s h ⟨k + 1, hlt, rfl, z⟩⟩
    · rw [show N - k = 0 by omega] at e
      cases e
  · rintro s h ⟨k, hk, e, iv⟩
    by_cases hlt : k < N
    · rw [rng_cons hlt] at e
      cases e
    · have : k = N := by omega
      subst this
      exact ⟨hst h, done s h iv⟩
theorem comp_inv {st : Hp → Prop} {turn : D → Hp → (Option D → Hp → Prop) → Prop} {Q : List D → Hp → Prop} (Iv : List D → List D → Hp → Prop) (step : ∀ x r acc h, Iv (x :: r) acc h → st h ∧ acc.length < sz ∧ ∀ q : Option D → Hp → Prop, (∀ (y : Option D) h', Iv r (acc ++ y.toList) h' → q y h') → turn x h q)
    (done : ∀ acc h, Iv [] acc h → st h ∧ Q acc h) : ∀ (xs : List D) (h : Hp) (acc : List D), Iv xs acc h → compGo st turn xs h acc Q
  | [], h, acc, i => done acc h i
  | x :: xs, h, acc, i => by
    obtain ⟨h1, h2, h3⟩ := step x xs acc h i
    refine ⟨h1, h2, h3 _ fun y h' z => ?_⟩
    cases y with
    | none =>
      rw [show acc ++ (none : Option D).toList = acc by simp] at z
      exact comp_inv Iv step done xs h' acc z
    | some y => exact comp_inv Iv step done xs h' (acc ++ [y]) z
theorem comp_rng {st : Hp → Prop} {turn : D → Hp → (Option D → Hp → Prop) → Prop} {Q : List D → Hp → Prop} (hst : ∀ h, st h) (N : Nat) (hN : N ≤ 10000) (Iv : Nat → List D → Hp → Prop) (len : ∀ k acc h, Iv k acc h → acc.length ≤ k)
    (step : ∀ (k : Nat) acc h, k < N → Iv k acc h → ∀ q : Option D → Hp → Prop, (∀ (y : Option D) h', Iv (k + 1) (acc ++ y.toList) h' → q y h') → turn (.int k) h q) (done : ∀ acc h, Iv N acc h → Q acc h) (h : Hp) (h0 : Iv 0 [] h) :
    compGo st turn ((List.range N).map fun (i : Nat) => D.int i) h [] Q := by
  rw [rng_map]
  refine comp_inv (fun r acc h => ∃ k, k ≤ N ∧ r = (List.range' k (N - k)).map (fun (i : Nat) => D.int i) ∧ Iv k acc h) ?_ ?_ _ h [] ⟨0, Nat.zero_le _, rfl, h0⟩
  · rintro x r acc h ⟨k, hk, e, iv⟩
    by_cases hlt : k < N
    · rw [rng_cons hlt] at e
      cases e
      exact ⟨hst h, by have := len k acc h iv; simp only [sz]; omega, fun q hq => step k acc h hlt iv q fun y h' z => hq y h' ⟨k + 1, hlt, rfl, z⟩⟩
    · rw [show N - k = 0 by omega] at e
      cases e
  · rintro acc h ⟨k, hk, e, iv⟩
    by_cases hlt : k < N
    · rw [rng_cons hlt] at e
      cases e
    · have : k = N := by omega
      subst this
      exact ⟨hst h, done acc h iv⟩
/-- what holds within the drawing of a machine: moves at mv -/
structure DmIv (h : Hp) (p c mv : Nat) (cells : List Int) (a0 : Int) (lt many : Int) (k : Nat) (rows : List (List Int)) (H : Hp) : Prop where
  pen : ∃ a r, PenAt H p c cells a r ∧ a ≤ a0 + 6 * k
  fr : FrE p h H
  mvp : mv ≠ p
  mvc : mv ≠ c
  mvh : h.length ≤ mv
  mv : H[mv]? = some (.lst (rowsD rows))
  len : rows.length = k
  row : ∀ r, r ∈ rows → (r.length : Int) = lt ∧ inR many r
theorem dm_outer {P : Prog} (hP : KP P) {n p c mv : Nat} {h H : Hp} {cells : List Int} {a0 many lt srt : Int} {k : Nat} {rows : List (List Int)} {e : En} {x6 x7 x8 x9 x10 : Option D} (iv : DmIv h p c mv cells a0 lt many k rows H) (hm1 : 1 ≤ many) (hm2 : many ≤ 32) (l1 : 1 ≤ lt) (l3 : lt ≤ 3) (ha : a0 ≤ 900000) (hk : (k : Int) < many) (he : e.xr = fun _ _ _ _ => False)
    (q : ∀ (row : List Int) (H' : Hp) (y5 y6 y7 y8 : Option D), DmIv h p c mv cells a0 lt many (k + 1) (rows ++ [row]) H' → e.nx [some (.ref p), some (.int lt), some (.int many), some (.int srt), some (.ref mv), y5, y6, y7, y8, x9, x10] H') :
    dSs ⟨callN P (n + 3)⟩ dmO e [some (.ref p), some (.int lt), some (.int many), some (.int srt), some (.ref mv), some (.int k), x6, x7, x8, x9, x10] H := by
  obtain ⟨e1, e2, e3, e4, e5⟩ := e
  cases he
  obtain ⟨a, r, px, pa⟩ := iv.pen
  have ltn : ((lt.toNat : Nat) : Int) = lt := by omega
  have hmv : mv < H.length := (List.getElem?_eq_some_iff.mp iv.mv).1
  simp [dmO, dSs, dS, dT, dEs, dTs, dIfs, dI, dTg, dTgs, lay, tst, ini, tsLen, SL.bi, SL.lm, SL.lmT, SL.cmp, op2, SL.wipe, sz]
  refine ⟨by omega, by omega, ?_⟩
  refine for_rng (fun _ => trivial) lt.toNat (fun j s H1 => ∃ (ts : List Int) (a1 r1 : Int) (y7 y8 : Option D), s = [some (.ref p), some (.int lt), some (.int many), some (.int srt), some (.ref mv), some (.int k), some (.ref H.length), y7, y8, x9, x10] ∧ PenAt H1 p c cells a1 r1 ∧ a1 ≤ a0 + 6 * k + 2 * j ∧ FrE p h H1 ∧ H1[mv]? = some (.lst (rowsD rows)) ∧
      H1[H.length]? = some (.lst (ts.map D.int)) ∧ ts.length = j ∧ inR many ts) ?_ ?_ _ _ ⟨[], a, r, _, _, rfl, px.app, by omega, iv.fr.trans (FrE.app p H _), by rw [List.getElem?_append_left hmv]; exact iv.mv, at_end, rfl, fun x hx => by cases hx⟩
  · rintro j s H1 hj ⟨ts, a1, r1, y7, y8, rfl, p1, ha1, f1, m1, t1, tl, tr⟩ Nx hN
    simp [dTg]
    refine dm_turn hP p1 hm1 hm2 (by omega) ⟨by omega, hk⟩ t1 (by have := px.lt; omega) (by have := px.clt; omega) (by omega) rfl fun to H2 a2 r2 y8' t0 tm p2 f2 ha2 e2 => hN _ _ ⟨ts ++ [to], a2, r2, _, _, rfl, p2, by omega, ?_, ?_, e2, by simp [tl], ?_⟩
    · exact ⟨by have h1 := f1.len; have h2 := f2.len; rw [List.length_set] at h2; omega, fun i hi hp => by
        rw [f2.same i (by rw [List.length_set]; have := f1.len; omega) hp, List.getElem?_set_ne (by have := iv.fr.len; omega)]
        exact f1.same i hi hp⟩
    · have hm1' : mv < H1.length := (List.getElem?_eq_some_iff.mp m1).1
      rw [f2.same mv (by rw [List.length_set]; exact hm1') iv.mvp, List.getElem?_set_ne (by omega)]
      exact m1
    · intro x hx
      rcases List.mem_append.mp hx with z | z
      · exact tr x z
      · rw [List.mem_singleton.mp z]
        exact ⟨t0, tm⟩
  · rintro s H1 ⟨ts, a1, r1, y7, y8, rfl, p1, ha1, f1, m1, t1, tl, tr⟩
    have hm1' : mv < H1.length := (List.getElem?_eq_some_iff.mp m1).1
    simp [dmB, dSs, dS, dT, dEs, dTs, dIfs, dI, dTg, dTgs, lay, tst, ini, tsLen, SL.bi, SL.lm, SL.lmT, SL.cmp, op2, SL.wipe, lmOk, lstOf, m1, items, t1, lmAppend, sz]
    have rl : (rowsD rows).length = k := by rw [rowsD_len, iv.len]
    refine ⟨by omega, by omega, q ts _ _ _ _ _ ⟨⟨a1, r1, p1.put iv.mvp iv.mvc, by omega⟩, f1.put iv.mvh, iv.mvp, iv.mvc, iv.mvh, ?_, by simp [iv.len], fun x hx => ?_⟩⟩
    · rw [clo_set_self hm1']
      simp [rowsD]
    · rcases List.mem_append.mp hx with z | z
      · exact iv.row x z
      · rw [List.mem_singleton.mp z]
        exact ⟨by omega, tr⟩
end Lw

set_option linter.all false
set_option autoImplicit false
set_option maxRecDepth 100000
set_option Elab.async false
set_option maxHeartbeats 4000000
namespace Lw
open PySem SL
theorem upL_app : ∀ (xs : List Int) (y : Int), upL xs = true → (∀ x, x ∈ xs → x < y) → upL (xs ++ [y]) = true
  | [], _, _, _ => rfl
  | [x], y, _, h => by
    show (decide (x < y) && true) = true
    rw [decide_eq_true (h x (List.mem_cons_self ..))]
    rfl
  | x :: z :: r, y, hu, h => by
    have hu' : (decide (x < z) && upL (z :: r)) = true := hu
    rw [Bool.and_eq_true] at hu'
    show (decide (x < z) && upL ((z :: r) ++ [y])) = true
    rw [hu'.1, upL_app (z :: r) y hu'.2 fun w hw => h w (List.mem_cons_of_mem _ hw)]
    rfl
theorem rdAll_int (h : Hp) (n : Nat) : ∀ xs : List Int, rdAll (rd h (n + 1)) (xs.map D.int) = some (xs.map PyData.int)
  | [] => rfl
  | x :: xs => by
    rw [List.map_cons]
    show (match some (PyData.int x), rdAll (rd h (n + 1)) (xs.map D.int) with
      | some p, some ps => some (p :: ps)
      | _, _ => none) = _
    rw [rdAll_int h n xs]
    rfl
theorem eqv_list_nil (xs : List Int) : PyData.eqv (.list (xs.map PyData.int)) (.list []) = xs.isEmpty := by
  cases xs with
  | nil => rfl
  | cons x xs => rfl
/-- the last part: the ends are known, but for one that may be drawn -/
theorem dm_end {P : Prog} (hP : KP P) {n p c mv en : Nat} {h H : Hp} {cells ends : List Int} {a r a0 lt many : Int} {rows : List (List Int)} {r' : Int} {Q : D → Hp → Prop} {e : En} {x3 x5 x6 x7 x8 x9 : Option D} (x : PenAt h p c cells a0 r') (p1 : PenAt H p c cells a r) (f : FrE p h H) (hmp : mv ≠ p) (hmv : H[mv]? = some (.lst (rowsD rows))) (hen : H[en]? = some (.lst (ends.map .int))) (hep : en ≠ p)
    (hm1 : 1 ≤ many) (hm2 : many ≤ 32) (l1 : 1 ≤ lt) (l3 : lt ≤ 3) (hr : (rows.length : Int) = many) (hrow : ∀ r, r ∈ rows → (r.length : Int) = lt ∧ inR many r) (he : inR many ends) (hu : upL ends = true) (hel : ends.length ≤ 32) (ha : a ≤ 1000000) (hrt : ∀ v H, gcq h Q v H → e.rt v H) (hxr : e.xr = fun _ _ _ _ => False)
    (q : ∀ (m : Mach) (h' : Hp) (a2 r2 : Int), MachOk m → m.l = lt → (m.rows.length : Int) = many → PenAt h' p c cells a2 r2 → Fr p h h' → a2 ≤ a + 2 → Q (mD m) h') :
    dSs ⟨callN P (n + 2)⟩ dmE e [some (.ref p), some (.int lt), some (.int many), x3, some (.ref mv), x5, x6, x7, x8, x9, some (.ref en)] H := by
  obtain ⟨e1, e2, e3, e4, e5⟩ := e
  cases hxr
  have fin : ∀ (ends : List Int) (H2 : Hp) (a2 r2 : Int), inR many ends → upL ends = true → PenAt H2 p c cells a2 r2 → FrE p h H2 → a2 ≤ a + 2 → e2 (.tup [.int lt, .tup (rowsD rows), .tup (ends.map .int)]) H2 := fun ends H2 a2 r2 k1 k2 p2 f2 h2 => hrt _ _ <| by
    have ok : MachOk ⟨lt, rows, ends⟩ := ⟨l1, l3, by show 1 ≤ rows.length; omega, by show rows.length ≤ 32; omega, fun r m => ⟨(hrow r m).1, by show inR rows.length r; rw [hr]; exact (hrow r m).2⟩, by show inR rows.length ends; rw [hr]; exact k1, k2⟩
    refine gcE x p2 f2 ?_ fun h' p3 f3 => q ⟨lt, rows, ends⟩ h' a2 r2 ok rfl hr p3 f3 h2
    have c1 : ∀ (m : Nat) (xs : List Int), SL.clo.cloL m (xs.map D.int) = true := fun m xs => by
      induction xs with
      | nil => rfl
      | cons a xs ih =>
        show (true && SL.clo.cloL m (xs.map D.int)) = true
        rw [ih]
        rfl
    have c2 : ∀ (m : Nat) (xs : List (List Int)), SL.clo.cloL m (rowsD xs) = true := fun m xs => by
      induction xs with
      | nil => rfl
      | cons a xs ih =>
        show (SL.clo.cloL m (a.map D.int) && SL.clo.cloL m (rowsD xs)) = true
        rw [ih, c1]
        rfl
    show (true && (SL.clo.cloL h.length (rowsD rows) && (SL.clo.cloL h.length (ends.map D.int) && true))) = true
    rw [c1, c2]
    rfl
  have hrl : (rowsD rows).length ≤ sz := by rw [rowsD_len]; simp only [sz]; omega
  have rdE : rdT H (.d (.ref en)) = some (.list (ends.map .int)) := by
    show rd H 60 (.ref en) = _
    simp only [rd, hen]
    rw [rdAll_int]
    rfl
  have hlmv : mv < H.length := (List.getElem?_eq_some_iff.mp hmv).1
  simp [dmE, dSs, dS, dT, dEs, dTs, dIfs, dI, dTg, dTgs, lay, tst, ini, tsLen, SL.bi, SL.lm, SL.lmT, SL.cmp, op2, SL.wipe, sz, eqD, rdE]
  have e0 : rdT H (.l []) = some (.list []) := rfl
  simp [e0, eqv_list_nil, tru]
  cases ends with
  | cons y ys =>
    simp [items, hmv, hen]
    refine ⟨by rw [rowsD_len]; omega, by simp at hel; omega, fin (y :: ys) H a r he hu p1 f (by omega)⟩
  | nil =>
    simp
    refine sp_take hP p1 (by decide) (by decide) (by omega) fun v h1 a1 r1 v0 v1 p2 f2 ha1 => ?_
    have hmv1 : h1[mv]? = some (.lst (rowsD rows)) := (f2.same mv hmp).trans hmv
    have hen1 : h1[en]? = some (.lst []) := (f2.same en hep).trans hen
    simp [ordD, tru]
    by_cases hv : 0 < v
    · simp [hv]
      refine sp_take hP p2 hm1 (by omega) (by omega) fun v2 h2 a2 r2 w0 w1 p3 f3 ha2 => ?_
      have hmv2 : h2[mv]? = some (.lst (rowsD rows)) := (f3.same mv hmp).trans hmv1
      have hlm : mv < h2.length := (List.getElem?_eq_some_iff.mp hmv2).1
      have g1 : (h2 ++ [O.lst [.int v2]])[mv]? = some (.lst (rowsD rows)) := by rw [List.getElem?_append_left hlm]; exact hmv2
      have g2 : (h2 ++ [O.lst [.int v2]])[h2.length]? = some (.lst [.int v2]) := at_end
      simp [items, g1, g2, sz]
      refine ⟨by rw [rowsD_len]; omega, fin [v2] _ a2 r2 (fun z hz => by rw [List.mem_singleton.mp hz]; exact ⟨w0, w1⟩) rfl p3.app ((f.trans (f2.trans f3).e).trans (FrE.app p h2 _)) (by omega)⟩
    · simp [hv, items, hmv1, hen1]
      exact ⟨by rw [rowsD_len]; omega, fin [] h1 a1 r1 (fun z hz => by cases hz) rfl p2 (f.trans f2.e) (by omega)⟩
theorem sp_drawn {P : Prog} (hP : KP P) (hf : P.lookup "_law_drawn_machine" = some f_law_drawn_machine) {n p c : Nat} {h : Hp} {cells : List Int} {a r lt many : Int} {Q : D → Hp → Prop} (x : PenAt h p c cells a r) (hm1 : 1 ≤ many) (hm2 : many ≤ 32) (l1 : 1 ≤ lt) (l3 : lt ≤ 3) (ha : a ≤ 800000)
    (q : ∀ (m : Mach) (h' : Hp) (a2 r2 : Int), MachOk m → m.l = lt → (m.rows.length : Int) = many → PenAt h' p c cells a2 r2 → Fr p h h' → a2 ≤ a + 1000 → Q (mD m) h') : callN P (n + 4) "_law_drawn_machine" [.ref p, .int lt, .int many] h Q R0' := by
  refine call_go hf rfl ?_
  have mn : ((many.toNat : Nat) : Int) = many := by omega
  simp [f_law_drawn_machine, dSs, dS, dT, dEs, dTs, dIfs, dI, dTg, dTgs, lay, tst, ini, tsLen, SL.bi, SL.lm, SL.lmT, SL.cmp, op2, SL.wipe, sz]
  refine sp_one hP (n := n) x.app (l := h.length) at_end (by have := x.lt; omega) (by simp) (by simp) (by omega) fun v h1 a1 r1 m1 p1 f1 ha1 => ?_
  have iv : ∃ i : Int, v = .int i := by
    simp at m1
    rcases m1 with rfl | rfl | rfl <;> exact ⟨_, rfl⟩
  obtain ⟨srt, rfl⟩ := iv
  have hl1 : h1.length = h.length + 1 := by rw [f1.len]; simp
  have fr1 : FrE p h (h1 ++ [O.lst []]) := ((FrE.app p h _).trans f1.e).trans (FrE.app p h1 _)
  refine ⟨by omega, by omega, ?_⟩
  refine for_rng (fun _ => trivial) many.toNat (fun k s H => ∃ (rows : List (List Int)) (y5 y6 y7 y8 : Option D), s = [some (.ref p), some (.int lt), some (.int many), some (.int srt), some (.ref h1.length), y5, y6, y7, y8, none, none] ∧ DmIv h p c h1.length cells a1 lt many k rows H) ?_ ?_ _ _ ⟨[], _, _, _, _, rfl, ⟨⟨a1, r1, p1.app, by omega⟩, fr1, by have := x.lt; omega, by have := x.clt; omega, by omega, at_end, rfl, fun z hz => by cases hz⟩⟩
  · rintro k s H hk ⟨rows, y5, y6, y7, y8, rfl, iv⟩ Nx hN
    simp [dTg]
    exact dm_outer (e := ⟨Nx, _, _, Nx, _⟩) hP iv hm1 hm2 l1 l3 (by omega) (by omega) rfl fun row H' z5 z6 z7 z8 iv' => hN _ _ ⟨rows ++ [row], z5, z6, z7, z8, rfl, iv'⟩
  · rintro s H ⟨rows, y5, y6, y7, y8, rfl, iv⟩
    obtain ⟨a2, r2, p2, ha2⟩ := iv.pen
    have hmvl : h1.length < H.length := (List.getElem?_eq_some_iff.mp iv.mv).1
    simp [dmC, dSs, dS, dT, dEs, dTs, dIfs, dI, dTg, dTgs, lay, tst, ini, tsLen, SL.bi, SL.lm, SL.lmT, SL.cmp, op2, SL.wipe, sz]
    refine sp_one hP (n := n) p2.app (l := H.length) at_end (by have := p2.lt; omega) (by simp) (by simp) (by omega) fun v3 h3 a3 r3 m3 p3 f3 ha3 => ?_
    have iv3 : ∃ i : Int, v3 = .int i ∧ 1 ≤ i ∧ i ≤ 4 := by
      simp at m3
      rcases m3 with rfl | rfl | rfl <;> exact ⟨_, rfl, by omega, by omega⟩
    obtain ⟨odds, rfl, o1, o4⟩ := iv3
    have mv3 : h3[h1.length]? = some (.lst (rowsD rows)) := by
      rw [f3.same _ (iv.mvp), List.getElem?_append_left hmvl]
      exact iv.mv
    have fr3 : FrE p h h3 := (iv.fr.trans (FrE.app p H _)).trans f3.e
    refine ⟨by omega, by omega, ?_⟩
    refine comp_rng (fun _ => trivial) many.toNat (by omega) (fun k acc H3 => ∃ (es : List Int) (a4 r4 : Int), acc = es.map .int ∧ PenAt H3 p c cells a4 r4 ∧ a4 ≤ a3 + k ∧ Fr p h3 H3 ∧ inR k es ∧ upL es = true ∧ es.length ≤ k) ?_ ?_ ?_ _ ⟨[], a3, r3, rfl, p3, by omega, Fr.refl p h3, fun z hz => (by cases hz), rfl, Nat.le_refl _⟩
    · rintro k acc H3 ⟨es, a4, r4, rfl, _, _, _, _, _, hl⟩
      rw [List.length_map]
      exact hl
    · rintro k acc H3 hk ⟨es, a4, r4, rfl, p4, ha4, f4, hin, hup, hle⟩ qq hq
      try simp [dTg, dIfs, dT, dEs, lay]
      refine sp_take hP (n := n + 1) p4 (by omega) (by omega) (by omega) fun v5 h5 a5 r5 v50 v51 p5 f5 ha5 => ?_
      simp [SL.cmp, eqD, rdT, rd, eqv_int, tru]
      have up' : inR ((k + 1 : Nat) : Int) es := fun z hz => by have := hin z hz; omega
      by_cases hv : v5 = 0
      · simp [hv]
        refine hq (some (.int k)) h5 ⟨es ++ [(k : Int)], a5, r5, by simp, p5, by omega, f4.trans f5, fun z hz => ?_, upL_app es k hup fun z hz => (hin z hz).2, by simp; omega⟩
        rcases List.mem_append.mp hz with y | y
        · exact up' z y
        · rw [List.mem_singleton.mp y]
          omega
      · simp [hv]
        exact hq none h5 ⟨es, a5, r5, by simp, p5, by omega, f4.trans f5, up', hup, by omega⟩
    · rintro acc H3 ⟨es, a4, r4, rfl, p4, ha4, f4, hin, hup, hle⟩
      have mv4 : H3[h1.length]? = some (.lst (rowsD rows)) := (f4.same _ iv.mvp).trans mv3
      have hl4 : h1.length < H3.length := (List.getElem?_eq_some_iff.mp mv4).1
      have rl := iv.len
      refine dm_end (n := n + 1) hP x (p4.app (g := [O.lst (es.map .int)])) ((fr3.trans f4.e).trans (FrE.app p H3 _)) iv.mvp (by rw [List.getElem?_append_left hl4]; exact mv4) at_end (by have := p4.lt; omega) hm1 hm2 l1 l3 (by omega) iv.row (by rw [mn] at hin; exact hin) hup (by omega) (by omega) (fun _ _ z => z) rfl ?_
      exact fun m h' a6 r6 ok e1 e2 p6 f6 ha6 => q m h' a6 r6 ok e1 e2 p6 f6 (by omega)
end Lw

set_option linter.all false
set_option autoImplicit false
set_option maxRecDepth 100000
set_option Elab.async false
set_option maxHeartbeats 4000000
namespace Lw
open PySem SL
def f_need_machine : Fn := ⟨1, 1, (.cons (.ifs (.nt (.call "is_machine" (.cons (.var 0) Es.nil))) (.cons (.rai0 "NoMachine")
    Ss.nil) Ss.nil)
    Ss.nil)⟩
def f_is_word_of : Fn := ⟨2, 3, (.cons (.ret (.and (.isi (.var 1) .str) (.bi .all (.cons (.comp (.cmp .inn (.var 2) (.slT (.cst (.str [97, 98, 99])) (.var 0))) (.nm 2) (.val (.var 1)) Es.nil [2]) Es.nil))))
    Ss.nil)⟩
def f_need_word : Fn := ⟨2, 2, (.cons (.ifs (.nt (.call "is_word_of" (.cons (.idx (.var 0) (.cst (.int 0))) (.cons (.var 1) Es.nil)))) (.cons (.rai0 "NoWord")
    Ss.nil) Ss.nil)
    Ss.nil)⟩
def f_lead : Fn := ⟨3, 4, (.cons (.for (.nm 3) (.val (.var 2)) (.cons (.asg (.nm 1) (.idx (.idx (.idx (.var 0) (.cst (.int 1))) (.var 1)) (.lm .index (.cst (.str [97, 98, 99])) (.cons (.var 3) Es.nil))))
    Ss.nil))
    (.cons (.ret (.var 1))
    Ss.nil))⟩
def f_does_take : Fn := ⟨2, 2, (.cons (.ret (.cmp .inn (.call "lead" (.cons (.var 0) (.cons (.cst (.int 0)) (.cons (.var 1) Es.nil)))) (.idx (.var 0) (.cst (.int 2)))))
    Ss.nil)⟩
def f_is_word : Fn := ⟨2, 2, (.cons (.exp (.call "need_machine" (.cons (.var 0) Es.nil)))
    (.cons (.ret (.call "is_word_of" (.cons (.idx (.var 0) (.cst (.int 0))) (.cons (.var 1) Es.nil))))
    Ss.nil))⟩
def f_standing_of : Fn := ⟨2, 2, (.cons (.exp (.call "need_machine" (.cons (.var 0) Es.nil)))
    (.cons (.exp (.call "need_word" (.cons (.var 0) (.cons (.var 1) Es.nil))))
    (.cons (.ret (.call "lead" (.cons (.var 0) (.cons (.cst (.int 0)) (.cons (.var 1) Es.nil)))))
    Ss.nil)))⟩
def f_takes : Fn := ⟨2, 2, (.cons (.exp (.call "need_machine" (.cons (.var 0) Es.nil)))
    (.cons (.exp (.call "need_word" (.cons (.var 0) (.cons (.var 1) Es.nil))))
    (.cons (.ret (.call "does_take" (.cons (.var 0) (.cons (.var 1) Es.nil))))
    Ss.nil)))⟩
def f_law_lead : Fn := ⟨3, 4, (.cons (.for (.nm 3) (.val (.var 2)) (.cons (.asg (.nm 1) (.idx (.idx (.idx (.var 0) (.cst (.int 1))) (.var 1)) (.lm .index (.cst (.str [97, 98, 99])) (.cons (.var 3) Es.nil))))
    Ss.nil))
    (.cons (.ret (.var 1))
    Ss.nil))⟩
def f_law_does_take : Fn := ⟨2, 2, (.cons (.ret (.cmp .inn (.call "_law_lead" (.cons (.var 0) (.cons (.cst (.int 0)) (.cons (.var 1) Es.nil)))) (.idx (.var 0) (.cst (.int 2)))))
    Ss.nil)⟩
def f_law_is_word : Fn := ⟨2, 3, (.cons (.ret (.and (.isi (.var 1) .str) (.cmp .eq (.comp (.var 2) (.nm 2) (.val (.var 1)) (.cons (.cmp .nin (.var 2) (.slT (.cst (.str [97, 98, 99])) (.var 0))) Es.nil) [2]) (.lst Es.nil))))
    Ss.nil)⟩
structure KN (P : Prog) : Prop extends KM P where
  need : P.lookup "need_machine" = some f_need_machine
structure KV (P : Prog) : Prop extends KN P where
  wordOf : P.lookup "is_word_of" = some f_is_word_of
  needW : P.lookup "need_word" = some f_need_word
  lead : P.lookup "lead" = some f_lead
  doesT : P.lookup "does_take" = some f_does_take
  takes : P.lookup "takes" = some f_takes
structure KW (P : Prog) : Prop extends KV P where
  isWord : P.lookup "is_word" = some f_is_word
  stand : P.lookup "standing_of" = some f_standing_of
def abc (l : Int) : Tx := ([97, 98, 99] : List Nat).take l.toNat
def wordIn (l : Int) (w : Tx) : Bool := w.all fun c => decide (c ∈ abc l)
def wordD (l : Int) : D → Bool
  | .str w => wordIn l w
  | _ => false
theorem cut_abc {l : Int} (l1 : 1 ≤ l) (l3 : l ≤ 3) : cut ([97, 98, 99] : List Nat) none (some l) = abc l := by
  have : l = 1 ∨ l = 2 ∨ l = 3 := by omega
  rcases this with rfl | rfl | rfl <;> rfl
theorem isi_str {h : Hp} {v : D} (p : plainO h v) : ∃ b, SL.isi h .str (.d v) = some b ∧ (b = true ↔ ∃ w, v = .str w) := by
  cases v with
  | ref l =>
    obtain ⟨xs, e | e⟩ := p
    · exact ⟨false, by simp [SL.isi, e], by simp⟩
    · exact ⟨false, by simp [SL.isi, e], by simp⟩
  | str xs => exact ⟨true, rfl, by simp⟩
  | _ => exact ⟨false, rfl, by simp⟩
theorem mem_sig {w : Tx} {x : D} (h : x ∈ w.map fun c => D.str [c]) : ∃ c, c ∈ w ∧ x = .str [c] := by
  obtain ⟨c, h1, rfl⟩ := List.mem_map.mp h
  exact ⟨c, h1, rfl⟩
def sigIn (l : Int) : D → Bool
  | .str [c] => decide (c ∈ abc l)
  | _ => false
theorem sp_is_word_of {P : Prog} (hP : KV P) {n : Nat} {v : D} {l : Int} {h : Hp} {Q : D → Hp → Prop} (hv : plainO h v) (hw : ∀ w, v = .str w → w.length ≤ 2000) (l1 : 1 ≤ l) (l3 : l ≤ 3) (q : Q (.bl (wordD l v)) h) : callN P (n + 1) "is_word_of" [.int l, v] h Q R0' := by
  refine call_go hP.wordOf rfl ?_
  obtain ⟨b, hb, hi⟩ := isi_str hv
  cases b with
  | false =>
    have e : wordD l v = false := by
      cases v with
      | str xs => exact absurd (hi.mpr ⟨xs, rfl⟩) (by simp)
      | _ => rfl
    rw [e] at q
    simp [f_is_word_of, dSs, dS, dT, dEs, dTs, dIfs, dI, dTg, dTgs, lay, tst, ini, tsLen, SL.bi, SL.lm, SL.lmT, SL.cmp, op2, SL.wipe, hb, tru]
    exact gc0 q
  | true =>
    obtain ⟨w, rfl⟩ := hi.mp rfl
    have hl := hw w rfl
    simp [f_is_word_of, dSs, dS, dT, dEs, dTs, dIfs, dI, dTg, dTgs, lay, tst, ini, tsLen, SL.bi, SL.lm, SL.lmT, SL.cmp, op2, SL.wipe, hb, tru, walk, slc, cut_abc l1 l3, sz]
    refine comp_map (fun x => .bl (sigIn l x)) trivial _ [] (by simp [sz]; omega) (fun x m q z => ?_) ?_
    · obtain ⟨c, _, rfl⟩ := mem_sig m
      exact z
    · refine biAll_l (bools_map (sigIn l) _ _ fun x _ => rfl) ?_
      rw [all_map, List.all_map]
      exact gc0 q
theorem sp_need {P : Prog} (hP : KN P) {n : Nat} {m : Mach} {h : Hp} {Q : D → Hp → Prop} (k : MachOk m) (q : Q .non h) : callN P (n + 4) "need_machine" [mD m] h Q R0' := by
  refine call_go hP.need rfl ?_
  simp [f_need_machine, dSs, dS, dT, dEs, dTs, dIfs, dI, dTg, dTgs, lay, tst, ini, tsLen, SL.bi, SL.lm, SL.lmT, SL.cmp, op2, SL.wipe]
  refine sp_is_machine hP.toKM (mach_pl k) ?_
  rw [mach_true k]
  simp [tru]
  exact gc0 q
theorem m0 {h : Hp} (m : Mach) (Q : TV → Prop) : idx h (.d (mD m)) (.d (.int 0)) Q = Q (.d (.int m.l)) := by simp [idx, mD, L2.atI, L2.ixN]
theorem m1 {h : Hp} (m : Mach) (Q : TV → Prop) : idx h (.d (mD m)) (.d (.int 1)) Q = Q (.d (.tup (rowsD m.rows))) := by simp [idx, mD, L2.atI, L2.ixN]
theorem m2 {h : Hp} (m : Mach) (Q : TV → Prop) : idx h (.d (mD m)) (.d (.int 2)) Q = Q (.d (.tup (m.ends.map .int))) := by simp [idx, mD, L2.atI, L2.ixN]
theorem sp_needW {P : Prog} (hP : KV P) {n : Nat} {m : Mach} {w : Tx} {h : Hp} {Q : D → Hp → Prop} (k : MachOk m) (hl : w.length ≤ 2000) (hw : wordIn m.l w = true) (q : Q .non h) : callN P (n + 2) "need_word" [mD m, .str w] h Q R0' := by
  refine call_go hP.needW rfl ?_
  simp [f_need_word, dSs, dS, dT, dEs, dTs, dIfs, dI, dTg, dTgs, lay, tst, ini, tsLen, SL.bi, SL.lm, SL.lmT, SL.cmp, op2, SL.wipe, m0]
  refine sp_is_word_of hP trivial (fun w' e => by cases e; exact hl) k.l1 k.l3 ?_
  rw [show wordD m.l (.str w) = true from hw]
  simp [tru]
  exact gc0 q
/-! ### where a word leads -/
def stepM (m : Mach) (s : Int) (c : Nat) : Int := ((m.rows.getD s.toNat []).getD (([97, 98, 99] : List Nat).idxOf c) 0)
def leadM (m : Mach) (s : Int) (w : Tx) : Int := w.foldl (stepM m) s
theorem step_ok {m : Mach} (k : MachOk m) {s : Int} {c : Nat} (h0 : 0 ≤ s) (h1 : s < m.rows.length) (hc : c ∈ abc m.l) :
    ∃ r : List Int, L2.atI (rowsD m.rows) s = some (.tup (r.map .int)) ∧ L2.atI (r.map D.int) ((([97, 98, 99] : List Nat).idxOf c : Nat) : Int) = some (.int (stepM m s c)) ∧ c ∈ ([97, 98, 99] : List Nat) ∧ 0 ≤ stepM m s c ∧ stepM m s c < m.rows.length := by
  have hs : s.toNat < m.rows.length := by omega
  have hr := k.row m.rows[s.toNat] (List.getElem_mem _)
  have l1 := k.l1
  have l3 := k.l3
  have hi : (([97, 98, 99] : List Nat).idxOf c) < m.l.toNat ∧ c ∈ ([97, 98, 99] : List Nat) := by
    have : m.l = 1 ∨ m.l = 2 ∨ m.l = 3 := by omega
    rcases this with e | e | e <;> rw [e] at hc ⊢ <;> simp [abc] at hc
    · subst hc; decide
    · rcases hc with rfl | rfl <;> decide
    · rcases hc with rfl | rfl | rfl <;> decide
  have hil : (([97, 98, 99] : List Nat).idxOf c) < (m.rows[s.toNat]).length := by omega
  have e1 : stepM m s c = (m.rows[s.toNat])[(([97, 98, 99] : List Nat).idxOf c)] := by
    have e0 : m.rows.getD s.toNat [] = m.rows[s.toNat] := by
      rw [List.getD_eq_getElem?_getD, List.getElem?_eq_getElem hs, Option.getD_some]
    unfold stepM
    rw [e0, List.getD_eq_getElem?_getD, List.getElem?_eq_getElem hil, Option.getD_some]
  have hin := hr.2 _ (List.getElem_mem hil)
  refine ⟨m.rows[s.toNat], ?_, ?_, hi.2, by rw [e1]; exact hin.1, by rw [e1]; exact hin.2⟩
  · simp only [L2.atI, L2.ixN, rowsD_len]
    rw [if_pos h0, if_pos h1]
    show (rowsD m.rows)[s.toNat]? = _
    unfold rowsD
    rw [List.getElem?_map, List.getElem?_eq_getElem hs]
    rfl
  · simp only [L2.atI, L2.ixN, List.length_map]
    rw [if_pos (by omega), if_pos (by omega)]
    show ((m.rows[s.toNat]).map D.int)[((([97, 98, 99] : List Nat).idxOf c : Nat) : Int).toNat]? = _
    rw [Int.toNat_natCast, List.getElem?_map, List.getElem?_eq_getElem hil, e1]
    rfl
theorem lead_go {P : Prog} {n : Nat} {nm : String} (hf : P.lookup nm = some f_lead) {m : Mach} (k : MachOk m) {w : Tx} {s : Int} {h : Hp} {Q : D → Hp → Prop} (hw : wordIn m.l w = true) (h0 : 0 ≤ s) (h1 : s < m.rows.length) (q : 0 ≤ leadM m s w → leadM m s w < m.rows.length → Q (.int (leadM m s w)) h) :
    callN P (n + 1) nm [mD m, .int s, .str w] h Q R0' := by
  refine call_go hf rfl ?_
  simp [f_lead, dSs, dS, dT, dEs, dTs, dIfs, dI, dTg, dTgs, lay, tst, ini, tsLen, SL.bi, SL.lm, SL.lmT, SL.cmp, op2, SL.wipe, walk]
  refine for_inv (fun r st h2 => ∃ (w2 : Tx) (t : Int) (x : Option D), r = w2.map (fun c => D.str [c]) ∧ st = [some (mD m), some (.int t), some (.str w), x] ∧ h2 = h ∧ leadM m t w2 = leadM m s w ∧ wordIn m.l w2 = true ∧ 0 ≤ t ∧ t < m.rows.length) ?_ ?_ _ _ _ ⟨w, s, _, rfl, rfl, rfl, rfl, hw, h0, h1⟩
  · rintro x r st h2 ⟨w2, t, y, e, rfl, rfl, hl, hw2, t0, t1⟩
    cases w2 with
    | nil => cases e
    | cons c w2 =>
      cases e
      have hw3 : (decide (c ∈ abc m.l) && wordIn m.l w2) = true := hw2
      rw [Bool.and_eq_true] at hw3
      obtain ⟨row, a1, a2, a3, a4, a5⟩ := step_ok k t0 t1 (of_decide_eq_true hw3.1)
      refine ⟨trivial, fun Nx hN => ?_⟩
      simp [dSs, dS, dT, dEs, dTs, dIfs, dI, dTg, dTgs, lay, tst, ini, tsLen, SL.bi, SL.lm, SL.lmT, SL.cmp, op2, SL.wipe, m1, lmOk, lmIndex]
      simp [idx, a1]
      have a3' : c = 97 ∨ c = 98 ∨ c = 99 := by simpa using a3
      refine ⟨a3', ?_⟩
      simp [a2]
      exact hN _ _ ⟨w2, stepM m t c, _, rfl, rfl, rfl, hl, hw3.2, a4, a5⟩
  · rintro st h2 ⟨w2, t, y, e, rfl, rfl, hl, hw2, t0, t1⟩
    cases w2 with
    | cons c w2 => cases e
    | nil =>
      refine ⟨trivial, ?_⟩
      simp [dSs, dS, dT, dEs, dTs, dIfs, dI, dTg, dTgs, lay, tst, ini, tsLen, SL.bi, SL.lm, SL.lmT, SL.cmp, op2, SL.wipe]
      have e1 : t = leadM m s w := hl
      rw [e1] at t0 t1 ⊢
      exact gc0 (q t0 t1)
def takeM (m : Mach) (w : Tx) : Bool := decide (leadM m 0 w ∈ m.ends)
theorem any_int (x : Int) (xs : List Int) : ((xs.map PyData.int).any fun q => PyData.eqv q (.int x)) = decide (x ∈ xs) := by
  rw [List.any_map, Bool.eq_iff_iff, List.any_eq_true, decide_eq_true_eq]
  constructor
  · rintro ⟨y, hy, e⟩
    have e' : decide (y = x) = true := by rw [← eqv_int]; exact e
    rw [of_decide_eq_true e'] at hy
    exact hy
  · intro h
    exact ⟨x, h, by show PyData.eqv (.int x) (.int x) = true; rw [eqv_int]; simp⟩
theorem inn_ends {h : Hp} {x : Int} {xs : List Int} {Q : Bool → Prop} (q : Q (decide (x ∈ xs))) : inn h (.d (.int x)) (.d (.tup (xs.map .int))) Q := by
  have e : rdL h (xs.map D.int) = some (xs.map PyData.int) := rdAll_int h 59 xs
  have e0 : rdT h (.d (.int x)) = some (.int x) := rfl
  simp only [inn, e, e0]
  rw [any_int]
  exact q
theorem does_go {P : Prog} {n : Nat} {nm lead : String} {fd : Fn} (hf : P.lookup nm = some fd) (hfd : fd = ⟨2, 2, (.cons (.ret (.cmp .inn (.call lead (.cons (.var 0) (.cons (.cst (.int 0)) (.cons (.var 1) Es.nil)))) (.idx (.var 0) (.cst (.int 2))))) Ss.nil)⟩) (hl : P.lookup lead = some f_lead) {m : Mach} (k : MachOk m) {w : Tx} {h : Hp} {Q : D → Hp → Prop} (hw : wordIn m.l w = true) (q : Q (.bl (takeM m w)) h) :
    callN P (n + 2) nm [mD m, .str w] h Q R0' := by
  subst hfd
  refine call_go hf rfl ?_
  have n1 := k.n1
  simp [dSs, dS, dT, dEs, dTs, dIfs, dI, dTg, dTgs, lay, tst, ini, tsLen, SL.bi, SL.lm, SL.lmT, SL.cmp, op2, SL.wipe]
  refine lead_go hl k hw (by omega) (by omega) fun _ _ => ?_
  simp [m2]
  exact inn_ends (gc0 q)
theorem sp_standing {P : Prog} (hP : KW P) {n : Nat} {m : Mach} {w : Tx} {h : Hp} {Q : D → Hp → Prop} (k : MachOk m) (hl : w.length ≤ 2000) (hw : wordIn m.l w = true) (q : 0 ≤ leadM m 0 w → leadM m 0 w < m.rows.length → Q (.int (leadM m 0 w)) h) : callN P (n + 5) "standing_of" [mD m, .str w] h Q R0' := by
  refine call_go hP.stand rfl ?_
  have n1 := k.n1
  simp [f_standing_of, dSs, dS, dT, dEs, dTs, dIfs, dI, dTg, dTgs, lay, tst, ini, tsLen, SL.bi, SL.lm, SL.lmT, SL.cmp, op2, SL.wipe]
  refine sp_need hP.toKN k (sp_needW hP.toKV k hl hw ?_)
  exact lead_go hP.lead k hw (by omega) (by omega) fun a b => gc0 (q a b)
theorem sp_takes {P : Prog} (hP : KV P) {n : Nat} {m : Mach} {w : Tx} {h : Hp} {Q : D → Hp → Prop} (k : MachOk m) (hl : w.length ≤ 2000) (hw : wordIn m.l w = true) (q : Q (.bl (takeM m w)) h) : callN P (n + 5) "takes" [mD m, .str w] h Q R0' := by
  refine call_go hP.takes rfl ?_
  simp [f_takes, dSs, dS, dT, dEs, dTs, dIfs, dI, dTg, dTgs, lay, tst, ini, tsLen, SL.bi, SL.lm, SL.lmT, SL.cmp, op2, SL.wipe]
  refine sp_need hP.toKN k (sp_needW hP k hl hw ?_)
  exact does_go hP.doesT rfl hP.lead k hw (gc0 q)
theorem sp_is_word {P : Prog} (hP : KW P) {n : Nat} {m : Mach} {v : D} {h : Hp} {Q : D → Hp → Prop} (k : MachOk m) (hv : plainO h v) (hw : ∀ w, v = .str w → w.length ≤ 2000) (q : Q (.bl (wordD m.l v)) h) : callN P (n + 5) "is_word" [mD m, v] h Q R0' := by
  refine call_go hP.isWord rfl ?_
  simp [f_is_word, dSs, dS, dT, dEs, dTs, dIfs, dI, dTg, dTgs, lay, tst, ini, tsLen, SL.bi, SL.lm, SL.lmT, SL.cmp, op2, SL.wipe]
  refine sp_need hP.toKN k ?_
  simp [m0]
  exact sp_is_word_of hP.toKV hv hw k.l1 k.l3 (gc0 q)
end Lw

set_option linter.all false
set_option autoImplicit false
set_option maxRecDepth 100000
set_option Elab.async false
set_option maxHeartbeats 4000000
namespace Lw
open PySem SL
/-! ### what is shown -/
theorem small_int : ∀ i : Fin 100, ((PyData.int (i.val : Int)).shown.length ≤ 2) ∧ (PyData.int (i.val : Int)).showable = true := by decide +kernel
theorem int_shown {i : Int} (h0 : 0 ≤ i) (h1 : i < 100) : (PyData.int i).shown.length ≤ 2 ∧ (PyData.int i).showable = true := by
  have := small_int ⟨i.toNat, by omega⟩
  simp only at this
  rw [show ((i.toNat : Nat) : Int) = i by omega] at this
  exact this
theorem piled_le {B : Nat} : ∀ ts : List Str, (∀ t, t ∈ ts → t.length ≤ B) → piled ts ≤ ts.length * (B + 2)
  | [], _ => Nat.zero_le _
  | t :: ts, h => by
    have ih := piled_le ts fun x hx => h x (List.mem_cons_of_mem _ hx)
    have h1 := h t (List.mem_cons_self ..)
    show t.length + 2 + piled ts ≤ (ts.length + 1) * (B + 2)
    rw [Nat.add_mul]
    omega
theorem str_app (a b : Str) : (a ++ b).length = a.length + b.length := Array.size_append ..
theorem tupleText_le {B : Nat} {ts : List Str} (h : ∀ t, t ∈ ts → t.length ≤ B) : (tupleText ts).length ≤ ts.length * (B + 2) + 3 := by
  unfold tupleText
  rw [str_app, str_app]
  have e1 : ("(" : Str).length = 1 := by decide
  have e2 : ((if ts.length == 1 then ",)" else ")" : String) : Str).length ≤ 2 := by
    split <;> decide
  have e3 : (Str.join ", " ts).length ≤ piled ts := by
    cases ts with
    | nil => decide
    | cons t ts =>
      have := join_length_add (t :: ts) (by simp)
      omega
  have e4 := piled_le ts h
  omega
theorem shownAll_map (xs : List PyData) : PyData.shownAll xs = xs.map PyData.shown := by
  induction xs with
  | nil => rfl
  | cons x xs ih =>
    show x.shown :: PyData.shownAll xs = _
    rw [ih]
    rfl
theorem tup_shown {B : Nat} {xs : List PyData} (h : ∀ x, x ∈ xs → x.shown.length ≤ B) : (PyData.tuple xs).shown.length ≤ xs.length * (B + 2) + 3 := by
  show (tupleText (PyData.shownAll xs)).length ≤ _
  rw [shownAll_map]
  have := tupleText_le (B := B) (ts := xs.map PyData.shown) fun t ht => by
    obtain ⟨x, hx, rfl⟩ := List.mem_map.mp ht
    exact h x hx
  rw [List.length_map] at this
  exact this
theorem showableAll_of : ∀ xs : List PyData, (∀ x, x ∈ xs → x.showable = true) → PyData.showableAll xs = true
  | [], _ => rfl
  | x :: xs, h => by
    show (x.showable && PyData.showableAll xs) = true
    rw [h x (List.mem_cons_self ..), showableAll_of xs fun y hy => h y (List.mem_cons_of_mem _ hy)]
    rfl
def mP (m : Mach) : PyData := .tuple [.int m.l, .tuple (m.rows.map fun r => .tuple (r.map .int)), .tuple (m.ends.map .int)]
theorem rows_rd (h : Hp) (n : Nat) : ∀ rows : List (List Int), rdAll (rd h (n + 2)) (rowsD rows) = some (rows.map fun r => PyData.tuple (r.map .int))
  | [] => rfl
  | r :: rows => by
    have e : rd h (n + 2) (.tup (r.map .int)) = some (.tuple (r.map .int)) := by
      show (rdAll (rd h (n + 1)) (r.map .int)).map PyData.tuple = _
      rw [rdAll_int]
      rfl
    show (match rd h (n + 2) (.tup (r.map .int)), rdAll (rd h (n + 2)) (rowsD rows) with
      | some p, some ps => some (p :: ps)
      | _, _ => none) = _
    rw [e, rows_rd h n rows]
    rfl
theorem m_rd (h : Hp) (m : Mach) : rdT h (.d (mD m)) = some (mP m) := by
  show (rdAll (rd h 59) [.int m.l, .tup (rowsD m.rows), .tup (m.ends.map .int)]).map PyData.tuple = _
  have e1 : rd h 59 (.tup (rowsD m.rows)) = some (.tuple (m.rows.map fun r => PyData.tuple (r.map .int))) := by
    show (rdAll (rd h 58) (rowsD m.rows)).map PyData.tuple = _
    rw [rows_rd]
    rfl
  have e2 : rd h 59 (.tup (m.ends.map .int)) = some (.tuple (m.ends.map .int)) := by
    show (rdAll (rd h 58) (m.ends.map .int)).map PyData.tuple = _
    rw [rdAll_int]
    rfl
  have e3 : rd h 59 (.int m.l) = some (.int m.l) := rfl
  simp only [rdAll, e1, e2, e3]
  rfl
theorem m_shown {m : Mach} (k : MachOk m) : (mP m).showable = true ∧ (mP m).shown.length ≤ 2000 := by
  have l1 := k.l1
  have l3 := k.l3
  have n32 := k.n32
  have endl := up_len (lo := 0) k.up fun x hx => k.ends x hx
  have allI : ∀ (xs : List Int), inR m.rows.length xs → (∀ x, x ∈ xs.map PyData.int → x.shown.length ≤ 2) ∧ ∀ x, x ∈ xs.map PyData.int → x.showable = true := fun xs hx => by
    constructor <;> intro x hm <;> obtain ⟨i, hi, rfl⟩ := List.mem_map.mp hm
    · have := hx i hi
      exact (int_shown this.1 (by omega)).1
    · have := hx i hi
      exact (int_shown this.1 (by omega)).2
  have rowS : ∀ x, x ∈ (m.rows.map fun r => PyData.tuple (r.map .int)) → x.shown.length ≤ 15 ∧ x.showable = true := fun x hx => by
    obtain ⟨r, hr, rfl⟩ := List.mem_map.mp hx
    obtain ⟨h1, h2⟩ := k.row r hr
    obtain ⟨a, b⟩ := allI r h2
    have := tup_shown a
    rw [List.length_map] at this
    exact ⟨by omega, showableAll_of _ b⟩
  obtain ⟨a, b⟩ := allI m.ends k.ends
  have e1 := tup_shown a
  have e2 := tup_shown fun x hx => (rowS x hx).1
  rw [List.length_map] at e1 e2
  have e3 := int_shown (show 0 ≤ m.l by omega) (by omega)
  refine ⟨showableAll_of _ fun x hx => ?_, ?_⟩
  · have hx' : x = .int m.l ∨ x = .tuple (m.rows.map fun r => PyData.tuple (r.map .int)) ∨ x = .tuple (m.ends.map .int) := by simpa using hx
    rcases hx' with rfl | rfl | rfl
    · exact e3.2
    · exact showableAll_of _ fun y hy => (rowS y hy).2
    · exact showableAll_of _ b
  · have := tup_shown (B := 600) (xs := [.int m.l, .tuple (m.rows.map fun r => PyData.tuple (r.map .int)), .tuple (m.ends.map .int)]) fun x hx => by
      have hx' : x = .int m.l ∨ x = .tuple (m.rows.map fun r => PyData.tuple (r.map .int)) ∨ x = .tuple (m.ends.map .int) := by simpa using hx
      rcases hx' with rfl | rfl | rfl
      · omega
      · omega
      · omega
    exact Nat.le_trans this (by show 3 * (600 + 2) + 3 ≤ 2000; decide)
theorem biRepr_int {h : Hp} {i : Int} {Q : TV → Hp → Prop} (h0 : 0 ≤ i) (h1 : i < 100) (q : Q (.d (.str (PyData.int i).shown.cps.toList)) h) : biRepr h [.d (.int i)] Q := by
  have e : rdT h (.d (.int i)) = some (.int i) := rfl
  obtain ⟨a, b⟩ := int_shown h0 h1
  simp only [biRepr, e]
  exact ⟨b, by simp only [sz]; omega, q⟩
theorem biRepr_bl {h : Hp} {b : Bool} {Q : TV → Hp → Prop} (q : Q (.d (.str (PyData.bool b).shown.cps.toList)) h) : biRepr h [.d (.bl b)] Q := by
  have e : rdT h (.d (.bl b)) = some (.bool b) := rfl
  simp only [biRepr, e]
  refine ⟨rfl, ?_, q⟩
  cases b <;> decide
theorem biRepr_m {h : Hp} {m : Mach} {Q : TV → Hp → Prop} (k : MachOk m) (q : Q (.d (.str (mP m).shown.cps.toList)) h) : biRepr h [.d (mD m)] Q := by
  obtain ⟨a, b⟩ := m_shown k
  simp only [biRepr, m_rd]
  exact ⟨a, by simp only [sz]; omega, q⟩
theorem eqD_str {h : Hp} {x : Tx} {Q : Bool → Prop} (q : Q true) : eqD h (.d (.str x)) (.d (.str x)) Q := by
  have e : rdT h (.d (.str x)) = some (.str (tS x)) := rfl
  simp only [eqD, e]
  have : PyData.eqv (.str (tS x)) (.str (tS x)) = true := by
    show (tS x == tS x) = true
    simp
  rw [this]
  exact q
/-! ### the law's own words -/
def wdI : Ss := (.cons (.asg (.nm 5) (.op .add (.var 5) (.comp (.op .add (.var 6) (.var 7)) (.nm 7) (.val (.slT (.cst (.str [97, 98, 99])) (.var 0))) Es.nil [7])))
    Ss.nil)
def f_law_words : Fn := ⟨2, 8, (.cons (.par (.cons (.nm 2) (.cons (.nm 3) Ts.nil)) (.cons (.lst (.cons (.cst (.str [])) Es.nil)) (.cons (.lst (.cons (.cst (.str [])) Es.nil)) Es.nil)))
    (.cons (.for (.nm 4) (.rng (.var 1)) (.cons (.asg (.nm 5) (.lst Es.nil))
    (.cons (.for (.nm 6) (.val (.var 3)) wdI)
    (.cons (.par (.cons (.nm 2) (.cons (.nm 3) Ts.nil)) (.cons (.op .add (.var 2) (.var 5)) (.cons (.var 5) Es.nil)))
    Ss.nil))))
    (.cons (.ret (.var 2))
    Ss.nil)))⟩
def f_law_drawn_word : Fn := ⟨3, 4, (.cons (.ret (.lmT .join (.cst (.str [])) (.comp (.idx (.cst (.str [97, 98, 99])) (.call "_law_take" (.cons (.var 0) (.cons (.var 1) Es.nil)))) (.nm 3) (.rng (.call "_law_take" (.cons (.var 0) (.cons (.op .add (.var 2) (.cst (.int 1))) Es.nil)))) Es.nil [3])))
    Ss.nil)⟩
structure KL (P : Prog) : Prop extends KP P, KW P where
  lLead : P.lookup "_law_lead" = some f_law_lead
  lDoes : P.lookup "_law_does_take" = some f_law_does_take
  lWords : P.lookup "_law_words" = some f_law_words
  lWord : P.lookup "_law_drawn_word" = some f_law_drawn_word
  lDrawn : P.lookup "_law_drawn_machine" = some f_law_drawn_machine
  lIs : P.lookup "_law_is_word" = some f_law_is_word
def WOk (l : Int) (n : Nat) (ws : List Tx) : Prop := ∀ w, w ∈ ws → wordIn l w = true ∧ w.length ≤ n
theorem WOk.app {l : Int} {n : Nat} {xs ys : List Tx} (a : WOk l n xs) (b : WOk l n ys) : WOk l n (xs ++ ys) := fun w h => (List.mem_append.mp h).elim (a w) (b w)
theorem WOk.mono {l : Int} {n m : Nat} {xs : List Tx} (a : WOk l n xs) (h : n ≤ m) : WOk l m xs := fun w hw => ⟨(a w hw).1, Nat.le_trans (a w hw).2 h⟩
theorem abc_len (l : Int) (l1 : 1 ≤ l) (l3 : l ≤ 3) : (abc l).length ≤ 3 := by
  unfold abc
  rw [List.length_take]
  exact Nat.min_le_right ..
/-- the heap has grown -/
def Gr (h h' : Hp) : Prop := ∃ g, h' = h ++ g
theorem Gr.refl (h : Hp) : Gr h h := ⟨[], by simp⟩
theorem Gr.app {h h' : Hp} (x : Gr h h') (o : O) : Gr h (h' ++ [o]) := by
  obtain ⟨g, rfl⟩ := x
  exact ⟨g ++ [o], by simp⟩
theorem Gr.len {h h' : Hp} (x : Gr h h') : h.length ≤ h'.length := by
  obtain ⟨g, rfl⟩ := x
  simp
theorem at_app {h : Hp} {o : O} {i : Nat} {u : O} (e : h[i]? = some u) : (h ++ [o])[i]? = some u := by
  rw [List.getElem?_append_left (List.getElem?_eq_some_iff.mp e).1]
  exact e
theorem clo_strs (n : Nat) (ws : List Tx) : cloO n (.lst (ws.map .str)) = true := by
  show (ws.map D.str).all (clo n) = true
  rw [List.all_map, List.all_eq_true]
  exact fun _ _ => rfl
theorem gc3 {h H : Hp} {l : Nat} {o : O} {Q : D → Hp → Prop} (g : Gr h H) (hl : h.length ≤ l) (ho : H[l]? = some o) (hc : cloO h.length o = true) (q : Q (.ref h.length) (h ++ [o])) : gcq h Q (.ref l) H := by
  obtain ⟨g, rfl⟩ := g
  exact .inr (.inr ⟨h, g, l, o, rfl, ⟨rfl, fun i o e => .inl e⟩, rfl, hl, ho, hc, q⟩)
theorem wd_turn {P : Prog} {n : Nat} {l : Int} {H : Hp} {w : Tx} {lo k : Nat} {ls : List Tx} {e : En} {x1 x2 x3 x4 x7 : Option D} (l1 : 1 ≤ l) (l3 : l ≤ 3) (hw : wordIn l w = true ∧ w.length ≤ k) (hlo : H[lo]? = some (.lst (ls.map .str))) (hk : WOk l (k + 1) ls) (hn : ls.length ≤ 1000) (hk2 : k ≤ 10) (he : e.xr = fun _ _ _ _ => False)
    (q : ∀ (ls' : List Tx) (y7 : Option D), WOk l (k + 1) ls' → ls'.length ≤ ls.length + 3 → e.nx [some (.int l), x1, x2, x3, x4, some (.ref H.length), some (.str w), y7] (H ++ [.lst (ls'.map .str)])) :
    dSs ⟨callN P n⟩ wdI e [some (.int l), x1, x2, x3, x4, some (.ref lo), some (.str w), x7] H := by
  obtain ⟨e1, e2, e3, e4, e5⟩ := e
  cases he
  simp [wdI, dSs, dS, dT, dEs, dTs, dIfs, dI, dTg, dTgs, lay, tst, ini, tsLen, SL.bi, SL.lm, SL.lmT, SL.cmp, op2, SL.wipe, slc, cut_abc l1 l3, walk, sz]
  have al := abc_len l l1 l3
  refine comp_map (fun x => match x with
    | .str [c] => .str (w ++ [c])
    | y => y) trivial _ [] (by simp only [List.length_map, List.length_nil, sz]; omega) (fun x m q z => ?_) ?_
  · obtain ⟨c, _, rfl⟩ := mem_sig m
    simp [addD, sz]
    exact ⟨by omega, z⟩
  · have e0 : ([] ++ ((abc l).map fun c => D.str [c]).map (fun x => match x with
        | .str [c] => D.str (w ++ [c])
        | y => y)) = ((abc l).map fun c => w ++ [c]).map D.str := by
      rw [List.nil_append, List.map_map, List.map_map]
      rfl
    rw [e0]
    have e1' : lstOf H (.d (.ref lo)) = some (ls.map .str) := by simp only [lstOf, hlo]
    have e2' : lstOf H (.l (((abc l).map fun c => w ++ [c]).map D.str)) = some (((abc l).map fun c => w ++ [c]).map D.str) := rfl
    simp only [addD, e1', e2']
    refine ⟨by simp only [List.length_map, sz]; omega, ?_⟩
    rw [← List.map_append]
    refine q (ls ++ (abc l).map fun c => w ++ [c]) _ (hk.app fun v hv => ?_) (by rw [List.length_append, List.length_map]; omega)
    obtain ⟨c, hc, rfl⟩ := List.mem_map.mp hv
    refine ⟨?_, by rw [List.length_append]; simp; omega⟩
    show (w ++ [c]).all _ = true
    rw [List.all_append]
    rw [show w.all (fun c => decide (c ∈ abc l)) = true from hw.1]
    simp [hc]
end Lw

set_option linter.all false
set_option autoImplicit false
set_option maxRecDepth 100000
set_option Elab.async false
set_option maxHeartbeats 4000000
namespace Lw
open PySem SL
theorem sp_words {P : Prog} (hf : P.lookup "_law_words" = some f_law_words) {n : Nat} {l : Int} {h : Hp} {Q : D → Hp → Prop} (l1 : 1 ≤ l) (l3 : l ≤ 3) (q : ∀ ws : List Tx, WOk l 3 ws → ws ≠ [] → ws.length ≤ 200 → Q (.ref h.length) (h ++ [.lst (ws.map .str)])) : callN P (n + 1) "_law_words" [.int l, .int 3] h Q R0' := by
  refine call_go hf rfl ?_
  simp [f_law_words, dSs, dS, dT, dEs, dTs, dIfs, dI, dTg, dTgs, lay, tst, ini, tsLen, SL.bi, SL.lm, SL.lmT, SL.cmp, op2, SL.wipe, sz]
  refine for_rng (fun _ => trivial) 3 (fun k s H => ∃ (f la : Nat) (fs ls : List Tx) (x4 x5 x6 x7 : Option D), s = [some (.int l), some (.int 3), some (.ref f), some (.ref la), x4, x5, x6, x7] ∧ Gr h H ∧ h.length ≤ f ∧ H[f]? = some (.lst (fs.map .str)) ∧ H[la]? = some (.lst (ls.map .str)) ∧ WOk l k fs ∧ WOk l k ls ∧ fs ≠ [] ∧ ls.length ≤ 3 ^ k ∧ fs.length ≤ 3 ^ (k + 1)) ?_ ?_ _ _
    ⟨h.length, h.length + 1, [[]], [[]], _, _, _, _, rfl, ⟨[.lst [.str []], .lst [.str []]], by simp⟩, Nat.le_refl _, by simp, by simp, fun w hw => by rw [List.mem_singleton.mp hw]; exact ⟨rfl, Nat.le_refl _⟩, fun w hw => by rw [List.mem_singleton.mp hw]; exact ⟨rfl, Nat.le_refl _⟩, by simp, by simp, by simp⟩
  · rintro k s H hk ⟨f, la, fs, ls, x4, x5, x6, x7, rfl, hG, hf, ef, el, wf, wl, ne, nl, nf⟩ Nx hN
    have p3 : 3 ^ k ≤ 9 ∧ 3 ^ (k + 1) ≤ 27 := by
      have : k = 0 ∨ k = 1 ∨ k = 2 := by omega
      rcases this with rfl | rfl | rfl <;> decide
    simp [dSs, dS, dT, dEs, dTs, dIfs, dI, dTg, dTgs, lay, tst, ini, tsLen, SL.bi, SL.lm, SL.lmT, SL.cmp, op2, SL.wipe, walk, at_app (o := .lst []) el]
    refine for_inv (fun r s H2 => ∃ (ps qs : List Tx) (lo : Nat) (os : List Tx) (y6 y7 : Option D), ls = ps ++ qs ∧ r = qs.map .str ∧ s = [some (.int l), some (.int 3), some (.ref f), some (.ref la), some (.int k), some (.ref lo), y6, y7] ∧ Gr H H2 ∧ H2[lo]? = some (.lst (os.map .str)) ∧ WOk l (k + 1) os ∧ os.length ≤ 3 * ps.length) ?_ ?_ _ _ _ ⟨[], ls, H.length, [], _, _, rfl, rfl, rfl, ⟨[.lst []], rfl⟩, at_end, fun w hw => (by cases hw), Nat.le_refl _⟩
    · rintro x r s H2 ⟨ps, qs, lo, os, y6, y7, e1, e2, rfl, g2, eo, wo, no⟩
      cases qs with
      | nil => cases e2
      | cons w qs =>
        cases e2
        have el2 : H2[la]? = some (.lst (ls.map .str)) := by
          obtain ⟨g, rfl⟩ := g2
          rw [List.getElem?_append_left (List.getElem?_eq_some_iff.mp el).1]
          exact el
        have hlen : ls.length = ps.length + (qs.length + 1) := by rw [e1]; simp
        refine ⟨el2, fun Nx2 hN2 => ?_⟩
        simp [dTg]
        refine wd_turn (e := ⟨Nx2, _, _, Nx2, _⟩) l1 l3 (wl w (by rw [e1]; simp)) eo wo (by omega) (by omega) rfl fun os' y7' wo' no' => hN2 _ _ ⟨ps ++ [w], qs, H2.length, os', _, _, by rw [e1]; simp, rfl, rfl, g2.app _, at_end, wo', by rw [List.length_append]; simp; omega⟩
    · rintro s H2 ⟨ps, qs, lo, os, y6, y7, e1, e2, rfl, g2, eo, wo, no⟩
      have hqs : qs = [] := by
        cases qs with
        | nil => rfl
        | cons _ _ => cases e2
      subst hqs
      rw [List.append_nil] at e1
      subst e1
      have at2 : ∀ {i : Nat} {u : O}, H[i]? = some u → H2[i]? = some u := fun {i u} e => by
        obtain ⟨g, rfl⟩ := g2
        rw [List.getElem?_append_left (List.getElem?_eq_some_iff.mp e).1]
        exact e
      have ef2 := at2 ef
      refine ⟨at2 el, ?_⟩
      have a1 : lstOf H2 (.d (.ref f)) = some (fs.map .str) := by simp only [lstOf, ef2]
      have a2 : lstOf H2 (.d (.ref lo)) = some (os.map .str) := by simp only [lstOf, eo]
      simp [dSs, dS, dT, dEs, dTs, dIfs, dI, dTg, dTgs, lay, tst, ini, tsLen, SL.bi, SL.lm, SL.lmT, SL.cmp, op2, SL.wipe, addD, a1, a2, sz]
      refine ⟨by omega, ?_⟩
      refine hN _ _ ⟨H2.length, lo, fs ++ os, os, _, _, _, _, rfl, ?_, by have := hG.len; have := g2.len; omega, by rw [← List.map_append]; exact at_end, at_app eo, (wf.mono (by omega)).app wo, wo, by simp [ne], ?_, ?_⟩
      · obtain ⟨g, rfl⟩ := hG
        obtain ⟨g', rfl⟩ := g2
        exact ⟨g ++ (g' ++ [.lst (fs.map .str ++ os.map .str)]), by simp⟩
      · rw [Nat.pow_succ]
        omega
      · rw [List.length_append, Nat.pow_succ]
        rw [Nat.pow_succ] at nf ⊢
        omega
  · rintro s H ⟨f, la, fs, ls, x4, x5, x6, x7, rfl, hG, hf, ef, el, wf, wl, ne, nl, nf⟩
    simp [dSs, dS, dT, dEs, dTs, dIfs, dI, dTg, dTgs, lay, tst, ini, tsLen, SL.bi, SL.lm, SL.lmT, SL.cmp, op2, SL.wipe]
    exact gc3 hG hf ef (clo_strs _ _) (q fs wf ne (by have : 3 ^ (3 + 1) = 81 := rfl; omega))
theorem abc_at {l v : Int} (l1 : 1 ≤ l) (l3 : l ≤ 3) (v0 : 0 ≤ v) (v1 : v < l) : ∃ c, L2.atI ([97, 98, 99] : List Nat) v = some c ∧ c ∈ abc l := by
  have : l = 1 ∨ l = 2 ∨ l = 3 := by omega
  have hv : v = 0 ∨ v = 1 ∨ v = 2 := by omega
  rcases hv with rfl | rfl | rfl
  · exact ⟨97, rfl, by rcases this with rfl | rfl | rfl <;> decide⟩
  · exact ⟨98, rfl, by rcases this with rfl | rfl | rfl <;> first | omega | decide⟩
  · exact ⟨99, rfl, by rcases this with rfl | rfl | rfl <;> first | omega | decide⟩
theorem strsOf_map : ∀ ws : List Tx, strsOf (ws.map D.str) = some ws
  | [] => rfl
  | w :: ws => by
    show (strsOf (ws.map D.str)).map _ = _
    rw [strsOf_map ws]
    rfl
theorem flat1 : ∀ cs : List Nat, (cs.map fun c => [c]).flatten = cs
  | [] => rfl
  | c :: cs => by
    rw [List.map_cons, List.flatten_cons, flat1 cs]
    rfl
theorem sp_word {P : Prog} (hP : KP P) (hf : P.lookup "_law_drawn_word" = some f_law_drawn_word) {n p c : Nat} {h : Hp} {cells : List Int} {a r l mo : Int} {Q : D → Hp → Prop} (x : PenAt h p c cells a r) (l1 : 1 ≤ l) (l3 : l ≤ 3) (m0 : 0 ≤ mo) (m60 : mo ≤ 60) (ha : a ≤ 900000) (q : ∀ (w : Tx) (h' : Hp) (a' r' : Int), wordIn l w = true → w.length ≤ 60 → PenAt h' p c cells a' r' → Fr p h h' → a' ≤ a + 100 → Q (.str w) h') :
    callN P (n + 3) "_law_drawn_word" [.ref p, .int l, .int mo] h Q R0' := by
  refine call_go hf rfl ?_
  simp [f_law_drawn_word, dSs, dS, dT, dEs, dTs, dIfs, dI, dTg, dTgs, lay, tst, ini, tsLen, SL.bi, SL.lm, SL.lmT, SL.cmp, op2, SL.wipe, lmOk, addD]
  refine sp_take hP (n := n) x (by omega) (by omega) (by omega) fun v h1 a1 r1 v0 v1 p1 f1 ha1 => ?_
  simp [sz]
  refine ⟨by omega, by omega, ?_⟩
  refine comp_rng (fun _ => trivial) v.toNat (by omega) (fun k acc H => ∃ (cs : List Nat) (a2 r2 : Int), acc = cs.map (fun c => D.str [c]) ∧ cs.length = k ∧ (∀ c, c ∈ cs → c ∈ abc l) ∧ PenAt H p c cells a2 r2 ∧ Fr p h H ∧ a2 ≤ a1 + k) ?_ ?_ ?_ _ ⟨[], a1, r1, rfl, rfl, fun c hc => (by cases hc), p1, f1, by omega⟩
  · rintro k acc H ⟨cs, a2, r2, rfl, hk, _⟩
    rw [List.length_map, hk]
    exact Nat.le_refl _
  · rintro k acc H hk ⟨cs, a2, r2, rfl, hl, hin, p2, f2, ha2⟩ qq hq
    try simp [dTg, dIfs, dT, dEs, lay]
    refine sp_take hP (n := n) p2 (by omega) (by omega) (by omega) fun v2 h2 a3 r3 w0 w1 p3 f3 ha3 => ?_
    obtain ⟨c', e, hc'⟩ := abc_at l1 l3 w0 w1
    simp [idx, e, sz]
    refine hq (some (.str [c'])) h2 ⟨cs ++ [c'], a3, r3, by simp, by simp [hl], fun d hd => ?_, p3, f2.trans f3, by omega⟩
    rcases List.mem_append.mp hd with z | z
    · exact hin d z
    · rw [List.mem_singleton.mp z]; exact hc'
  · rintro acc H ⟨cs, a2, r2, rfl, hl, hin, p2, f2, ha2⟩
    have e1 : (tvL H (.l (cs.map fun c => D.str [c]))).bind strsOf = some (cs.map fun c => [c]) := by
      show strsOf (cs.map fun c => D.str [c]) = _
      rw [show (cs.map fun c => D.str [c]) = (cs.map fun c => [c]).map D.str by rw [List.map_map]; rfl]
      exact strsOf_map _
    have e2 : (cs.map fun c => [c]).flatten = cs := flat1 cs
    simp only [lmT, e1, e2]
    have e3 : (List.map List.length (cs.map fun c => [c])).sum = cs.length := by
      rw [← List.length_flatten, flat1]
    refine ⟨by rw [e3]; omega, gc0 (q cs H a2 r2 ?_ (by omega) p2 f2 (by omega))⟩
    exact List.all_eq_true.mpr fun d hd => decide_eq_true (hin d hd)
end Lw

set_option linter.all false
set_option autoImplicit false
set_option maxRecDepth 100000
set_option Elab.async false
set_option maxHeartbeats 4000000
namespace Lw
open PySem SL
theorem rdAll_str (h : Hp) (n : Nat) : ∀ xs : List Tx, rdAll (rd h (n + 1)) (xs.map D.str) = some (xs.map fun x => PyData.str (tS x))
  | [] => rfl
  | x :: xs => by
    rw [List.map_cons]
    show (match some (PyData.str (tS x)), rdAll (rd h (n + 1)) (xs.map D.str) with
      | some p, some ps => some (p :: ps)
      | _, _ => none) = _
    rw [rdAll_str h n xs]
    rfl
def badSig (l : Int) : D → Option D := fun x => if sigIn l x = true then none else some x
theorem bad_list (l : Int) : ∀ w : Tx, ∃ bs : List Tx, (w.map fun c => D.str [c]).filterMap (badSig l) = bs.map D.str ∧ bs.isEmpty = wordIn l w
  | [] => ⟨[], rfl, rfl⟩
  | c :: w => by
    obtain ⟨bs, e1, e2⟩ := bad_list l w
    by_cases hc : c ∈ abc l
    · refine ⟨bs, ?_, ?_⟩
      · rw [List.map_cons, List.filterMap_cons, ← e1]
        simp [badSig, sigIn, hc]
      · rw [e2]
        show _ = (decide (c ∈ abc l) && wordIn l w)
        rw [decide_eq_true hc]
        rfl
    · refine ⟨[c] :: bs, ?_, ?_⟩
      · rw [List.map_cons, List.filterMap_cons, List.map_cons, ← e1]
        simp [badSig, sigIn, hc]
      · show false = (decide (c ∈ abc l) && wordIn l w)
        rw [decide_eq_false hc]
        rfl
theorem eqv_strs_nil (xs : List Tx) : PyData.eqv (.list (xs.map fun x => PyData.str (tS x))) (.list []) = xs.isEmpty := by
  cases xs <;> rfl
theorem sp_lis {P : Prog} (hf : P.lookup "_law_is_word" = some f_law_is_word) {n : Nat} {v : D} {l : Int} {h : Hp} {Q : D → Hp → Prop} (hv : plainO h v) (hw : ∀ w, v = .str w → w.length ≤ 2000) (l1 : 1 ≤ l) (l3 : l ≤ 3) (q : Q (.bl (wordD l v)) h) : callN P (n + 1) "_law_is_word" [.int l, v] h Q R0' := by
  refine call_go hf rfl ?_
  obtain ⟨b, hb, hi⟩ := isi_str hv
  cases b with
  | false =>
    have e : wordD l v = false := by
      cases v with
      | str xs => exact absurd (hi.mpr ⟨xs, rfl⟩) (by simp)
      | _ => rfl
    rw [e] at q
    simp [f_law_is_word, dSs, dS, dT, dEs, dTs, dIfs, dI, dTg, dTgs, lay, tst, ini, tsLen, SL.bi, SL.lm, SL.lmT, SL.cmp, op2, SL.wipe, hb, tru]
    exact gc0 q
  | true =>
    obtain ⟨w, rfl⟩ := hi.mp rfl
    have hl := hw w rfl
    obtain ⟨bs, e1, e2⟩ := bad_list l w
    simp [f_law_is_word, dSs, dS, dT, dEs, dTs, dIfs, dI, dTg, dTgs, lay, tst, ini, tsLen, SL.bi, SL.lm, SL.lmT, SL.cmp, op2, SL.wipe, hb, tru, walk, slc, cut_abc l1 l3, sz]
    refine comp_filter (badSig l) trivial _ [] (by simp [sz]; omega) (fun x m q z => ?_) ?_
    · obtain ⟨c, _, rfl⟩ := mem_sig m
      simp [inn]
      by_cases hc : c ∈ abc l
      · simp [badSig, sigIn, hc] at z
        simp [hc]
        exact z
      · simp [badSig, sigIn, hc] at z
        simp [hc]
        exact z
    · rw [List.nil_append, e1]
      have e3 : rdT h (.l (bs.map D.str)) = some (.list (bs.map fun x => PyData.str (tS x))) := by
        show (rdAll (rd h 60) (bs.map D.str)).map PyData.list = _
        rw [rdAll_str]
        rfl
      have e4 : rdT h (.l []) = some (.list []) := rfl
      simp only [eqD, e3, e4, eqv_strs_nil, e2]
      exact gc0 q
end Lw

set_option linter.all false
set_option autoImplicit false
set_option maxRecDepth 100000
set_option Elab.async false
set_option maxHeartbeats 4000000
namespace Lw
open PySem SL
theorem lay_d {Q : D → Hp → Prop} {x : D} {h : Hp} : lay Q (.d x) h = Q x h := propext Iff.rfl
theorem asg2 {P : Prog} {n i a b : Nat} {f : String} {k : Ss} {e : En} {s : Sto} {h : Hp} {va vb : D} (ha : s[a]? = some (some va)) (hb : s[b]? = some (some vb)) (q : callN P n f [va, vb] h (fun x h1 => dSs ⟨callN P n⟩ k e (s.set i (some x)) h1) (fun c fs h => e.xr c fs s h)) :
    dSs ⟨callN P n⟩ (.cons (.asg (.nm i) (.call f (.cons (.var a) (.cons (.var b) .nil)))) k) e s h := by
  simp only [dSs, dS, dT, dEs, ha, hb, lay, dTg]
  exact q
theorem at_end2 {h : Hp} {a b : O} : (h ++ [a, b])[h.length + 1]? = some b := by simp
theorem at_end1 {h : Hp} {a b : O} : (h ++ [a, b])[h.length]? = some a := by simp
end Lw

set_option linter.all false
set_option autoImplicit false
set_option maxRecDepth 100000
set_option Elab.async false
set_option maxHeartbeats 4000000
namespace Lw
open PySem SL
/-! ### tuples of whole numbers, sorted -/
def tP (t : List Int) : PyData := .tuple (t.map .int)
theorem ltP (a b : List Int) : PySem.W.dataLt (tP a) (tP b) = decide (a < b) := by
  unfold tP
  rw [PySem.W.dataLt_tuple]
  exact PySem.W.dataLt_ints a b
def leL (a b : List Int) : Bool := !decide (b < a)
theorem leL_iff {a b : List Int} : leL a b = true ↔ a ≤ b := by
  unfold leL
  rw [Bool.not_eq_true', decide_eq_false_iff_not]
  exact Iff.rfl
theorem leL_trans (a b c : List Int) (h : leL a b = true) (k : leL b c = true) : leL a c = true := leL_iff.mpr (List.le_trans (leL_iff.mp h) (leL_iff.mp k))
theorem leL_total (a b : List Int) : (leL a b || leL b a) = true := by
  rw [Bool.or_eq_true, leL_iff, leL_iff]
  exact List.le_total a b
theorem sort_ints (ts : List (List Int)) : sortBy (ts.map tP) (ts.map tI) = (ts.mergeSort leL).map tI := by
  unfold sortBy
  have e : (ts.map tP).zip (ts.map tI) = ts.map fun t => (tP t, tI t) := by
    induction ts with
    | nil => rfl
    | cons t ts ih => rw [List.map_cons, List.map_cons, List.zip_cons_cons, ih]; rfl
  rw [e, ← List.map_mergeSort (r := leL) (s := fun a b : PyData × D => !PySem.W.dataLt b.1 a.1) (f := fun t => (tP t, tI t)) (fun a _ b _ => by
    show leL a b = !PySem.W.dataLt (tP b) (tP a)
    rw [ltP]
    rfl), List.map_map]
  rfl
theorem sort_up (ts : List (List Int)) : (ts.mergeSort leL).Pairwise fun a b => leL a b = true := List.pairwise_mergeSort leL_trans leL_total ts
/-- the one ascending list of the same things -/
theorem sort_is {ts us : List (List Int)} (hp : us.Perm ts) (hu : us.Pairwise fun a b => leL a b = true) : ts.mergeSort leL = us :=
  List.Perm.eq_of_pairwise (fun a b _ _ h1 h2 => List.le_antisymm (leL_iff.mp h1) (leL_iff.mp h2)) (sort_up ts) hu ((List.mergeSort_perm ts leL).trans hp.symm)
theorem tI_rd (h : Hp) (n : Nat) (t : List Int) : rd h (n + 1) (tI t) = some (tP t) := by
  show (rdAll (rd h n) (t.map .int)).map PyData.tuple = _
  have : rdAll (rd h n) (t.map .int) = some (t.map .int) := by
    induction t with
    | nil => rfl
    | cons i t ih =>
      have e : rd h n (.int i) = some (.int i) := by cases n <;> rfl
      rw [List.map_cons, rdAll, e, ih]
      rfl
  rw [this]
  rfl
theorem tIs_rd (h : Hp) (ts : List (List Int)) : rdL h (ts.map tI) = some (ts.map tP) := by
  unfold rdL
  induction ts with
  | nil => rfl
  | cons t ts ih =>
    rw [List.map_cons, rdAll, tI_rd, ih]
    rfl
theorem alike_ints : ∀ a b : List Int, PySem.W.alikeAll (a.map .int) (b.map .int) = true
  | [], [] => by simp [PySem.W.alikeAll]
  | [], _ :: _ => by simp [PySem.W.alikeAll]
  | _ :: _, [] => by simp [PySem.W.alikeAll]
  | x :: a, y :: b => by
    rw [List.map_cons, List.map_cons, PySem.W.alikeAll, alike_ints a b]
    simp [PySem.W.alike]
theorem alike_tP (a b : List Int) : PySem.W.alike (tP a) (tP b) = true := by
  unfold tP
  rw [PySem.W.alike]
  exact alike_ints a b
theorem alikes_tP (ts : List (List Int)) : alikes (ts.map tP) = true := by
  unfold alikes
  rw [List.all_eq_true]
  intro p hp
  rw [List.all_eq_true]
  intro q hq
  obtain ⟨a, _, rfl⟩ := List.mem_map.mp hp
  obtain ⟨b, _, rfl⟩ := List.mem_map.mp hq
  exact alike_tP a b
/-- sorted(..) of tuples of whole numbers: none is empty, or the first is -/
theorem sortD_ints {h : Hp} {ts : List (List Int)} {Q : List D → Prop} (hs : (∀ t, t ∈ ts → t ≠ []) ∨ ∃ r, ts = [] :: r) (q : Q ((ts.mergeSort leL).map tI)) : sortD h (ts.map tI) Q := by
  unfold sortD
  rw [tIs_rd]
  refine ⟨?_, by rw [sort_ints]; exact q⟩
  unfold sortable
  rw [alikes_tP]
  rcases hs with hs | ⟨r, rfl⟩
  · have : (ts.map tP).all isTup1 = true := by
      rw [List.all_map, List.all_eq_true]
      intro t ht
      cases t with
      | nil => exact absurd rfl (hs [] ht)
      | cons _ _ => rfl
    rw [this]
    rfl
  · have h1 : head0 (([] :: r).map tP) = true := rfl
    have h2 : (([] :: r).map tP).all isTupP = true := by
      rw [List.all_map, List.all_eq_true]
      intro t ht
      rfl
    rw [h1, h2]
    simp
/-! ### all cuts -/
def f_law_all_cuts : Fn := ⟨1, 4, (.cons (.asg (.nm 1) (.lst (.cons (.tup Es.nil) Es.nil)))
    (.cons (.for (.nm 2) (.rng (.bi .len (.cons (.idx (.var 0) (.cst (.int 1))) Es.nil))) (.cons (.asg (.nm 1) (.op .add (.var 1) (.comp (.op .add (.var 3) (.tup (.cons (.var 2) Es.nil))) (.nm 3) (.val (.var 1)) Es.nil [3])))
    Ss.nil))
    (.cons (.ret (.slF (.srt (.seq (.var 1))) (.cst (.int 1))))
    Ss.nil)))⟩
def cutsF : Nat → List (List Int)
  | 0 => [[]]
  | k + 1 => cutsF k ++ (cutsF k).map fun t => t ++ [(k : Int)]
theorem cutsF_len : ∀ k, (cutsF k).length = 2 ^ k
  | 0 => rfl
  | k + 1 => by rw [cutsF, List.length_append, List.length_map, cutsF_len k, Nat.pow_succ]; omega
theorem cutsF_head : ∀ k, ∃ r, cutsF k = [] :: r ∧ ∀ t, t ∈ r → t ≠ []
  | 0 => ⟨[], rfl, fun t h => by cases h⟩
  | k + 1 => by
    obtain ⟨r, e, hr⟩ := cutsF_head k
    refine ⟨r ++ ([] :: r).map fun t => t ++ [(k : Int)], by rw [cutsF, e]; rfl, fun t ht => ?_⟩
    rcases List.mem_append.mp ht with h | h
    · exact hr t h
    · obtain ⟨u, _, rfl⟩ := List.mem_map.mp h
      simp
theorem upL_snoc : ∀ (t : List Int) (x : Int), upL t = true → (∀ y, y ∈ t → y < x) → upL (t ++ [x]) = true
  | [], _, _, _ => rfl
  | [y], x, _, h => by
    show (decide (y < x) && true) = true
    simp [h y (List.mem_cons_self ..)]
  | y :: z :: t, x, hu, h => by
    have hu' : (decide (y < z) && upL (z :: t)) = true := hu
    rw [Bool.and_eq_true] at hu'
    show (decide (y < z) && upL (z :: t ++ [x])) = true
    rw [hu'.1, Bool.true_and]
    exact upL_snoc (z :: t) x hu'.2 fun w hw => h w (List.mem_cons_of_mem _ hw)
theorem cutsF_ok : ∀ k t, t ∈ cutsF k → inR k t ∧ upL t = true
  | 0, t, h => by
    rw [List.mem_singleton.mp h]
    exact ⟨fun x hx => (by cases hx), rfl⟩
  | k + 1, t, h => by
    rcases List.mem_append.mp h with h | h
    · obtain ⟨a, b⟩ := cutsF_ok k t h
      exact ⟨fun x hx => ⟨(a x hx).1, by have := (a x hx).2; omega⟩, b⟩
    · obtain ⟨u, hu, rfl⟩ := List.mem_map.mp h
      obtain ⟨a, b⟩ := cutsF_ok k u hu
      refine ⟨fun x hx => ?_, upL_snoc u k b fun y hy => (a y hy).2⟩
      rcases List.mem_append.mp hx with z | z
      · exact ⟨(a x z).1, by have := (a x z).2; omega⟩
      · rw [List.mem_singleton.mp z]; omega
/-- all cuts of so many standings, ascending -/
def allCuts (k : Nat) : List (List Int) := ((cutsF k).mergeSort leL).drop 1
theorem cuts_sorted (k : Nat) : (cutsF k).mergeSort leL = [] :: allCuts k ∧ ∀ t, t ∈ allCuts k → t ∈ cutsF k ∧ t ≠ [] := by
  obtain ⟨r, e, hr⟩ := cutsF_head k
  have hs : (cutsF k).mergeSort leL = [] :: r.mergeSort leL := by
    refine sort_is ?_ ?_
    · rw [e]
      exact (List.mergeSort_perm r leL).cons []
    · refine List.pairwise_cons.mpr ⟨fun t _ => leL_iff.mpr (List.nil_le t), sort_up r⟩
  have ha : allCuts k = r.mergeSort leL := by
    unfold allCuts
    rw [hs]
    rfl
  refine ⟨by rw [hs, ha], fun t ht => ?_⟩
  rw [ha] at ht
  have hm := List.mem_mergeSort.mp ht
  exact ⟨by rw [e]; exact List.mem_cons_of_mem _ hm, hr t hm⟩
theorem allCuts_len (k : Nat) : (allCuts k).length + 1 = 2 ^ k := by
  have h := (cuts_sorted k).1
  have e := congrArg List.length h
  rw [List.length_mergeSort, cutsF_len, List.length_cons] at e
  exact e.symm
/-- a cut of so many standings -/
structure CutOk (k : Nat) (t : List Int) : Prop where
  ne : t ≠ []
  inr : inR k t
  up : upL t = true
theorem allCuts_ok {k : Nat} {t : List Int} (h : t ∈ allCuts k) : CutOk k t := by
  obtain ⟨h1, h2⟩ := (cuts_sorted k).2 t h
  obtain ⟨a, b⟩ := cutsF_ok k t h1
  exact ⟨h2, a, b⟩
theorem clo_tIs (n : Nat) (ts : List (List Int)) : cloO n (.lst (ts.map tI)) = true := by
  show (ts.map tI).all (clo n) = true
  rw [List.all_map, List.all_eq_true]
  intro t ht
  show clo.cloL n (t.map .int) = true
  clear ht
  induction t with
  | nil => rfl
  | cons i t ih => rw [List.map_cons, clo.cloL, ih]; rfl
theorem sp_all_cuts {P : Prog} (hf : P.lookup "_law_all_cuts" = some f_law_all_cuts) {n : Nat} {m : Mach} {h : Hp} {Q : D → Hp → Prop} (n16 : m.rows.length ≤ 16) (q : Q (.ref h.length) (h ++ [.lst ((allCuts m.rows.length).map tI)])) : callN P (n + 1) "_law_all_cuts" [mD m] h Q R0' := by
  refine call_go hf rfl ?_
  simp [f_law_all_cuts, dSs, dS, dT, dEs, dTs, dIfs, dI, dTg, dTgs, lay, tst, ini, tsLen, SL.bi, SL.lm, SL.lmT, SL.cmp, op2, SL.wipe, m1, biLen, SL.len, rowsD_len, sz]
  refine ⟨by omega, ?_⟩
  refine for_rng (fun _ => trivial) m.rows.length (fun k s H => ∃ (f : Nat) (x2 x3 : Option D), s = [some (mD m), some (.ref f), x2, x3] ∧ Gr h H ∧ h.length ≤ f ∧ H[f]? = some (.lst ((cutsF k).map tI))) ?_ ?_ _ _ ⟨h.length, _, _, rfl, ⟨[.lst [.tup []]], rfl⟩, Nat.le_refl _, at_end⟩
  · rintro k s H hk ⟨f, x2, x3, rfl, hG, hf, ef⟩ Nx hN
    simp [dSs, dS, dT, dEs, dTs, dIfs, dI, dTg, dTgs, lay, tst, ini, tsLen, SL.bi, SL.lm, SL.lmT, SL.cmp, op2, SL.wipe, walk, ef]
    have hl := cutsF_len k
    have hp : 2 ^ k ≤ 2 ^ 15 := Nat.pow_le_pow_right (by decide) (by omega)
    have hp' : (2 : Nat) ^ 15 = 32768 := rfl
    refine comp_map (st := fun h' => h'[f]? = some (.lst ((cutsF k).map tI))) (fun x => match x with
      | .tup xs => .tup (xs ++ [.int k])
      | y => y) ef _ [] (by simp only [List.length_map, List.length_nil, sz]; omega) (fun x m' q z => ?_) ?_
    · obtain ⟨t, ht, rfl⟩ := List.mem_map.mp m'
      obtain ⟨a, b⟩ := cutsF_ok k t ht
      have tl := up_len (lo := 0) b fun x hx => a x hx
      simp [tI, addD, sz]
      exact ⟨by omega, z⟩
    · have e0 : ([] ++ ((cutsF k).map tI).map (fun x => match x with
          | .tup xs => .tup (xs ++ [.int k])
          | y => y)) = ((cutsF k).map fun t => t ++ [(k : Int)]).map tI := by
        rw [List.nil_append, List.map_map, List.map_map]
        refine List.map_congr_left fun t _ => ?_
        show D.tup (t.map .int ++ [.int k]) = tI (t ++ [(k : Int)])
        unfold tI
        rw [List.map_append]
        rfl
      rw [e0]
      have a1 : lstOf H (.d (.ref f)) = some ((cutsF k).map tI) := by simp only [lstOf, ef]
      have a2 : lstOf H (.l (((cutsF k).map fun t => t ++ [(k : Int)]).map tI)) = some (((cutsF k).map fun t => t ++ [(k : Int)]).map tI) := rfl
      simp only [addD, a1, a2]
      refine ⟨by simp only [List.length_map, sz]; omega, ?_⟩
      rw [← List.map_append]
      exact hN _ _ ⟨H.length, _, _, rfl, hG.app _, by have := hG.len; omega, at_end⟩
  · rintro s H ⟨f, x2, x3, rfl, hG, hf, ef⟩
    simp [dSs, dS, dT, dEs, dTs, dIfs, dI, dTg, dTgs, lay, tst, ini, tsLen, SL.bi, SL.lm, SL.lmT, SL.cmp, op2, SL.wipe, items, ef]
    have hl := cutsF_len m.rows.length
    have hp : 2 ^ m.rows.length ≤ 2 ^ 16 := Nat.pow_le_pow_right (by decide) n16
    have hp' : (2 : Nat) ^ 16 = 65536 := rfl
    refine ⟨by omega, ?_⟩
    obtain ⟨r, er, _⟩ := cutsF_head m.rows.length
    refine sortD_ints (.inr ⟨r, er⟩) ?_
    rw [(cuts_sorted m.rows.length).1]
    simp [slc]
    have e1 : cut (tI [] :: (allCuts m.rows.length).map tI) (some 1) none = (allCuts m.rows.length).map tI := by
      simp [cut, ix, HT.sIx]
      exact List.take_of_length_le (by rw [List.length_map]; exact Nat.le_refl _)
    rw [e1]
    exact gc3 (hG.app _) hG.len at_end (clo_tIs _ _) q
end Lw

set_option linter.all false
set_option autoImplicit false
set_option maxRecDepth 100000
set_option Elab.async false
set_option maxHeartbeats 4000000
namespace Lw
open PySem SL
/-! ### written values -/
mutual
def lit : E → Option D
  | .cst d => some d
  | .tup es => match lits es with
    | some ds => if ds.length ≤ 1000 then some (.tup ds) else none
    | none => none
  | _ => none
def lits : Es → Option (List D)
  | .nil => some []
  | .cons e es => match lit e, lits es with
    | some d, some ds => some (d :: ds)
    | _, _ => none
  | .star _ _ => none
end
mutual
theorem lit_ok {K : Kx} {R : XR} : ∀ (e : E) {d : D} {s : Sto} {h : Hp} {Q : TV → Hp → Prop}, lit e = some d → Q (.d d) h → dT K R e s h Q
  | .cst d', d, s, h, Q, e, q => by
    cases e
    exact q
  | .tup es, d, s, h, Q, e, q => by
    rw [lit] at e
    split at e
    · rename_i ds hd
      split at e
      · rename_i hl
        cases e
        rw [dT]
        exact lits_ok es hd ⟨by simp only [sz]; omega, q⟩
      · cases e
    · cases e
  | .var _, _, _, _, _, e, _ | .lst _, _, _, _, _, e, _ | .dic _, _, _, _, _, e, _ | .dicT _ _, _, _, _, _, e, _ | .op _ _ _, _, _, _, _, e, _ | .neg _, _, _, _, _, e, _ | .nt _, _, _, _, _, e, _ | .and _ _, _, _, _, _, e, _ | .or _ _, _, _, _, _, e, _
  | .cmp _ _ _, _, _, _, _, e, _ | .chn _ _ _ _ _, _, _, _, _, e, _ | .ite _ _ _, _, _, _, _, e, _ | .idx _ _, _, _, _, _, e, _ | .slF _ _, _, _, _, _, e, _ | .slT _ _, _, _, _, _, e, _ | .slB _ _ _, _, _, _, _, e, _ | .rev _, _, _, _, _, e, _ | .fld _ _, _, _, _, _, e, _
  | .call _ _, _, _, _, _, e, _ | .mth _ _ _, _, _, _, _, e, _ | .new _ _, _, _, _, _, e, _ | .isi _ _, _, _, _, _, e, _ | .bi _ _, _, _, _, _, e, _ | .lm _ _ _, _, _, _, _, e, _ | .lmT _ _ _, _, _, _, _, e, _ | .toL _, _, _, _, _, e, _ | .toT _, _, _, _, _, e, _ | .srt _, _, _, _, _, e, _ | .srtL _, _, _, _, _, e, _
  | .sset _, _, _, _, _, e, _ | .lset _, _, _, _, _, e, _ | .comp _ _ _ _ _, _, _, _, _, e, _ | .com2 _ _ _ _ _ _ _ _, _, _, _, _, e, _ | .dcm _ _ _ _ _, _, _, _, _, e, _ => by cases e
theorem lits_ok {K : Kx} {R : XR} : ∀ (es : Es) {ds : List D} {s : Sto} {h : Hp} {Q : List D → Hp → Prop}, lits es = some ds → Q ds h → dEs K R es s h Q
  | .nil, ds, s, h, Q, e, q => by
    cases e
    exact q
  | .cons a es, ds, s, h, Q, e, q => by
    rw [lits] at e
    split at e
    · rename_i d ds' h1 h2
      cases e
      rw [dEs]
      exact lit_ok a h1 (lits_ok es h2 q)
    · cases e
  | .star _ _, ds, s, h, Q, e, q => by cases e
end
theorem asg_lits {K : Kx} {i : Nat} {es : Es} {k : Ss} {n : En} {s : Sto} {h : Hp} {ds : List D} (e : lits es = some ds) (hl : ds.length ≤ 1000) (q : dSs K k n (s.set i (some (.ref h.length))) (h ++ [.lst ds])) : dSs K (.cons (.asg (.nm i) (.lst es)) k) n s h := by
  simp only [dSs, dS, dT]
  exact lits_ok es e ⟨by simp only [sz]; omega, q⟩
theorem asg_more {K : Kx} {i f : Nat} {es : Es} {k : Ss} {n : En} {s : Sto} {h : Hp} {xs ds : List D} (hi : s[i]? = some (some (.ref f))) (hf : h[f]? = some (.lst xs)) (e : lits es = some ds) (hl : xs.length + ds.length ≤ 1000) (q : dSs K k n (s.set i (some (.ref h.length))) (h ++ [.lst (xs ++ ds)])) :
    dSs K (.cons (.asg (.nm i) (.op .add (.var i) (.lst es))) k) n s h := by
  simp only [dSs, dS, dT, hi]
  refine lits_ok es e ⟨by simp only [sz]; omega, ?_⟩
  have a1 : lstOf h (.d (.ref f)) = some xs := by simp only [lstOf, hf]
  have a2 : lstOf h (.l ds) = some ds := rfl
  simp only [op2, addD, a1, a2]
  exact ⟨by simp only [sz]; omega, q⟩
/-! ### a drawn machine, or a well-known one -/
def sm7 : Ss := (.cons (.ret (.call "_law_one" (.cons (.var 0) (.cons (.var 4) Es.nil))))
    Ss.nil)
def sm6 : Ss := (.cons (.asg (.nm 4) (.comp (.var 5) (.nm 5) (.val (.var 3)) (.cons (.cmp .le (.bi .len (.cons (.idx (.var 5) (.cst (.int 1))) Es.nil)) (.var 1)) Es.nil) [5]))
    sm7)
def sm5 : Ss := (.cons (.asg (.nm 3) (.op .add (.var 3) (.lst (.cons (.tup (.cons (.cst (.int 2)) (.cons (.tup (.cons (.tup (.cons (.cst (.int 0)) (.cons (.cst (.int 1)) Es.nil))) (.cons (.tup (.cons (.cst (.int 2)) (.cons (.cst (.int 1)) Es.nil))) (.cons (.tup (.cons (.cst (.int 2)) (.cons (.cst (.int 2)) Es.nil))) Es.nil)))) (.cons (.tup (.cons (.cst (.int 0)) (.cons (.cst (.int 1)) Es.nil))) Es.nil)))) (.cons (.tup (.cons (.cst (.int 1)) (.cons (.tup (.cons (.tup (.cons (.cst (.int 1)) Es.nil)) (.cons (.tup (.cons (.cst (.int 2)) Es.nil)) (.cons (.tup (.cons (.cst (.int 0)) Es.nil)) Es.nil)))) (.cons (.tup (.cons (.cst (.int 1)) (.cons (.cst (.int 2)) Es.nil))) Es.nil)))) (.cons (.tup (.cons (.cst (.int 2)) (.cons (.tup (.cons (.tup (.cons (.cst (.int 1)) (.cons (.cst (.int 1)) Es.nil))) (.cons (.tup (.cons (.cst (.int 1)) (.cons (.cst (.int 1)) Es.nil))) Es.nil))) (.cons (.tup (.cons (.cst (.int 0)) Es.nil)) Es.nil)))) Es.nil))))))
    sm6)
def sm4 : Ss := (.cons (.asg (.nm 3) (.op .add (.var 3) (.lst (.cons (.tup (.cons (.cst (.int 2)) (.cons (.tup (.cons (.tup (.cons (.cst (.int 1)) (.cons (.cst (.int 2)) Es.nil))) (.cons (.tup (.cons (.cst (.int 2)) (.cons (.cst (.int 1)) Es.nil))) (.cons (.tup (.cons (.cst (.int 2)) (.cons (.cst (.int 2)) Es.nil))) Es.nil)))) (.cons (.tup (.cons (.cst (.int 1)) Es.nil)) Es.nil)))) (.cons (.tup (.cons (.cst (.int 1)) (.cons (.tup (.cons (.tup (.cons (.cst (.int 1)) Es.nil)) (.cons (.tup (.cons (.cst (.int 2)) Es.nil)) (.cons (.tup (.cons (.cst (.int 3)) Es.nil)) (.cons (.tup (.cons (.cst (.int 3)) Es.nil)) Es.nil))))) (.cons (.tup (.cons (.cst (.int 0)) (.cons (.cst (.int 1)) (.cons (.cst (.int 2)) Es.nil)))) Es.nil)))) Es.nil)))))
    sm5)
def sm3 : Ss := (.cons (.asg (.nm 3) (.op .add (.var 3) (.lst (.cons (.tup (.cons (.cst (.int 1)) (.cons (.tup (.cons (.tup (.cons (.cst (.int 1)) Es.nil)) (.cons (.tup (.cons (.cst (.int 0)) Es.nil)) Es.nil))) (.cons (.tup (.cons (.cst (.int 0)) Es.nil)) Es.nil)))) (.cons (.tup (.cons (.cst (.int 2)) (.cons (.tup (.cons (.tup (.cons (.cst (.int 1)) (.cons (.cst (.int 2)) Es.nil))) (.cons (.tup (.cons (.cst (.int 1)) (.cons (.cst (.int 1)) Es.nil))) (.cons (.tup (.cons (.cst (.int 2)) (.cons (.cst (.int 2)) Es.nil))) Es.nil)))) (.cons (.tup (.cons (.cst (.int 1)) Es.nil)) Es.nil)))) (.cons (.tup (.cons (.cst (.int 2)) (.cons (.tup (.cons (.tup (.cons (.cst (.int 1)) (.cons (.cst (.int 1)) Es.nil))) (.cons (.tup (.cons (.cst (.int 2)) (.cons (.cst (.int 2)) Es.nil))) (.cons (.tup (.cons (.cst (.int 2)) (.cons (.cst (.int 2)) Es.nil))) Es.nil)))) (.cons (.tup (.cons (.cst (.int 1)) Es.nil)) Es.nil)))) Es.nil))))))
    sm4)
def sm2 : Ss := (.cons (.asg (.nm 3) (.lst (.cons (.tup (.cons (.cst (.int 1)) (.cons (.tup (.cons (.tup (.cons (.cst (.int 1)) Es.nil)) (.cons (.tup (.cons (.cst (.int 2)) Es.nil)) (.cons (.tup (.cons (.cst (.int 3)) Es.nil)) (.cons (.tup (.cons (.cst (.int 3)) Es.nil)) Es.nil))))) (.cons (.tup (.cons (.cst (.int 1)) (.cons (.cst (.int 2)) Es.nil))) Es.nil)))) (.cons (.tup (.cons (.cst (.int 2)) (.cons (.tup (.cons (.tup (.cons (.cst (.int 0)) (.cons (.cst (.int 1)) Es.nil))) (.cons (.tup (.cons (.cst (.int 1)) (.cons (.cst (.int 1)) Es.nil))) Es.nil))) (.cons (.tup (.cons (.cst (.int 1)) Es.nil)) Es.nil)))) (.cons (.tup (.cons (.cst (.int 2)) (.cons (.tup (.cons (.tup (.cons (.cst (.int 1)) (.cons (.cst (.int 2)) Es.nil))) (.cons (.tup (.cons (.cst (.int 2)) (.cons (.cst (.int 0)) Es.nil))) (.cons (.tup (.cons (.cst (.int 2)) (.cons (.cst (.int 2)) Es.nil))) Es.nil)))) (.cons (.tup (.cons (.cst (.int 0)) Es.nil)) Es.nil)))) Es.nil)))))
    sm3)
def sm1 : Ss := (.cons (.ifs (.cmp .gt (.call "_law_take" (.cons (.var 0) (.cons (.cst (.int 4)) Es.nil))) (.cst (.int 0))) (.cons (.ret (.call "_law_drawn_machine" (.cons (.var 0) (.cons (.var 2) (.cons (.op .add (.cst (.int 1)) (.call "_law_take" (.cons (.var 0) (.cons (.var 1) Es.nil)))) Es.nil)))))
    Ss.nil) Ss.nil)
    sm2)
def sm0 : Ss := (.cons (.asg (.nm 2) (.call "_law_one" (.cons (.var 0) (.cons (.lst (.cons (.cst (.int 1)) (.cons (.cst (.int 2)) (.cons (.cst (.int 2)) (.cons (.cst (.int 2)) (.cons (.cst (.int 3)) Es.nil)))))) Es.nil))))
    sm1)
def f_law_some_machine : Fn := ⟨2, 6, sm0⟩
def mkM (l : Int) (rows : List (List Int)) (ends : List Int) : Mach := ⟨l, rows, ends⟩
def someA : List Mach := [mkM 1 [[1], [2], [3], [3]] [1, 2], mkM 2 [[0, 1], [1, 1]] [1], mkM 2 [[1, 2], [2, 0], [2, 2]] [0]]
def someB : List Mach := [mkM 1 [[1], [0]] [0], mkM 2 [[1, 2], [1, 1], [2, 2]] [1], mkM 2 [[1, 1], [2, 2], [2, 2]] [1]]
def someC : List Mach := [mkM 2 [[1, 2], [2, 1], [2, 2]] [1], mkM 1 [[1], [2], [3], [3]] [0, 1, 2]]
def someE : List Mach := [mkM 2 [[0, 1], [2, 1], [2, 2]] [0, 1], mkM 1 [[1], [2], [0]] [1, 2], mkM 2 [[1, 1], [1, 1]] [0]]
def someM : List Mach := someA ++ someB ++ someC ++ someE
def machB (m : Mach) : Bool := decide (1 ≤ m.l) && decide (m.l ≤ 3) && decide (1 ≤ m.rows.length) && decide (m.rows.length ≤ 32) && (m.rows.all fun r => decide ((r.length : Int) = m.l) && r.all fun x => decide (0 ≤ x) && decide (x < m.rows.length)) && (m.ends.all fun x => decide (0 ≤ x) && decide (x < m.rows.length)) && upL m.ends
theorem machB_ok {m : Mach} (h : machB m = true) : MachOk m := by
  simp only [machB, Bool.and_eq_true, decide_eq_true_eq, List.all_eq_true] at h
  obtain ⟨⟨⟨⟨⟨⟨a, b⟩, c⟩, d⟩, e⟩, f⟩, g⟩ := h
  exact ⟨a, b, c, d, fun r hr => ⟨(e r hr).1, fun x hx => (e r hr).2 x hx⟩, fun x hx => f x hx, g⟩
theorem some_ok {m : Mach} (h : m ∈ someM) : MachOk m ∧ m.rows.length ≤ 4 := by
  have : (someM.all fun m => machB m && decide (m.rows.length ≤ 4)) = true := by decide +kernel
  have := List.all_eq_true.mp this m h
  rw [Bool.and_eq_true, decide_eq_true_eq] at this
  exact ⟨machB_ok this.1, this.2⟩
theorem clo_ints (n : Nat) : ∀ xs : List Int, clo.cloL n (xs.map .int) = true
  | [] => rfl
  | x :: xs => by rw [List.map_cons, clo.cloL, clo_ints n xs]; rfl
theorem clo_rows (n : Nat) : ∀ rows : List (List Int), clo.cloL n (rowsD rows) = true
  | [] => rfl
  | r :: rows => by
    show (clo n (.tup (r.map .int)) && clo.cloL n (rowsD rows)) = true
    rw [clo_rows n rows, show clo n (.tup (r.map .int)) = clo.cloL n (r.map .int) from rfl, clo_ints]
    rfl
theorem mD_clo (n : Nat) (m : Mach) : clo n (mD m) = true := by
  show (true && (clo.cloL n (rowsD m.rows) && (clo.cloL n (m.ends.map .int) && true))) = true
  rw [clo_rows, clo_ints]
  rfl
def goodM (most : Int) : D → Option D := fun x => match x with
  | .tup [_, .tup rows, _] => if (rows.length : Int) ≤ most then some x else none
  | _ => none
theorem good_map (most : Int) : ∀ ms : List Mach, (ms.map mD).filterMap (goodM most) = (ms.filter fun m => decide ((m.rows.length : Int) ≤ most)).map mD
  | [] => rfl
  | m :: ms => by
    have e : goodM most (mD m) = if (m.rows.length : Int) ≤ most then some (mD m) else none := by
      show (if (((rowsD m.rows).length : Nat) : Int) ≤ most then some (mD m) else none) = _
      rw [rowsD_len]
    rw [List.map_cons, List.filterMap_cons, e, List.filter_cons]
    by_cases hm : (m.rows.length : Int) ≤ most
    · rw [if_pos hm, decide_eq_true hm, if_pos rfl, List.map_cons, good_map most ms]
    · rw [if_neg hm, decide_eq_false hm, good_map most ms]
      rfl
/-- the well-known ones, and what is good of them -/
theorem sm_tail {P : Prog} (hP : KP P) {n p c : Nat} {h H : Hp} {cells : List Int} {a r a2 r2 most : Int} {Q : D → Hp → Prop} {e : En} {x2 x3 x4 x5 : Option D} (x : PenAt h p c cells a r) (y : PenAt H p c cells a2 r2) (f : FrE p h H) (hm : 2 ≤ most) (ha : a2 ≤ a + 10) (hb : a ≤ 700000) (he : e.xr = fun _ _ _ _ => False) (hr : ∀ v h2, gcq h Q v h2 → e.rt v h2)
    (q : ∀ (m : Mach) (h' : Hp) (a' r' : Int), MachOk m → (m.rows.length : Int) ≤ most → PenAt h' p c cells a' r' → Fr p h h' → a' ≤ a + 2000 → Q (mD m) h') :
    dSs ⟨callN P (n + 3)⟩ sm2 e [some (.ref p), some (.int most), x2, x3, x4, x5] H := by
  obtain ⟨e1, e2, e3, e4, e5⟩ := e
  cases he
  refine asg_lits (ds := someA.map mD) rfl (by decide) ?_
  refine asg_more (f := H.length) (xs := someA.map mD) (ds := someB.map mD) rfl at_end rfl (by decide) ?_
  refine asg_more (f := (H ++ [O.lst (someA.map mD)]).length) (xs := someA.map mD ++ someB.map mD) (ds := someC.map mD) rfl at_end rfl (by decide) ?_
  refine asg_more (f := (H ++ [O.lst (someA.map mD)] ++ [O.lst (someA.map mD ++ someB.map mD)]).length) (xs := someA.map mD ++ someB.map mD ++ someC.map mD) (ds := someE.map mD) rfl at_end rfl (by decide) ?_
  have eM : someA.map mD ++ someB.map mD ++ someC.map mD ++ someE.map mD = someM.map mD := rfl
  rw [eM]
  have y2 := y.app (g := [.lst (someA.map mD)])
  have y3 := y2.app (g := [.lst (someA.map mD ++ someB.map mD)])
  have y4 := y3.app (g := [.lst (someA.map mD ++ someB.map mD ++ someC.map mD)])
  have f4 := ((f.trans (FrE.app p H [.lst (someA.map mD)])).trans (FrE.app p _ [.lst (someA.map mD ++ someB.map mD)])).trans (FrE.app p _ [.lst (someA.map mD ++ someB.map mD ++ someC.map mD)])
  generalize H ++ [O.lst (someA.map mD)] ++ [O.lst (someA.map mD ++ someB.map mD)] ++ [O.lst (someA.map mD ++ someB.map mD ++ someC.map mD)] = G at y4 f4 ⊢
  simp [sm6, sm7, dSs, dS, dT, dEs, dTs, dIfs, dI, dTg, dTgs, lay, tst, ini, tsLen, SL.bi, SL.lm, SL.lmT, SL.cmp, op2, SL.wipe, walk, at_end]
  refine comp_filter (st := fun h' => h'[G.length]? = some (.lst (someM.map mD))) (goodM most) at_end _ [] (by decide) (fun v mv qq z => ?_) ?_
  · obtain ⟨m, _, rfl⟩ := List.mem_map.mp mv
    simp [m1, biLen, SL.len, rowsD_len, ordD, tru]
    have e : goodM most (mD m) = if (m.rows.length : Int) ≤ most then some (mD m) else none := by
      show (if (((rowsD m.rows).length : Nat) : Int) ≤ most then some (mD m) else none) = _
      rw [rowsD_len]
    rw [e] at z
    by_cases hh : (m.rows.length : Int) ≤ most
    · simp [hh] at z ⊢
      exact z
    · simp [hh] at z ⊢
      exact z
  · rw [List.nil_append, good_map]
    have y5 := y4.app (g := [.lst (someM.map mD)])
    have y6 := y5.app (g := [.lst ((someM.filter fun m => decide ((m.rows.length : Int) ≤ most)).map mD)])
    refine sp_one hP (n := n) y6 at_end (by have := y5.lt; omega) ?_ ?_ (by omega) fun v h1 a1 r1 mv p1 f1 ha1 => ?_
    · have : (someM.filter fun m => decide ((m.rows.length : Int) ≤ most)) ≠ [] := by
        intro hz
        have hm' : mkM 1 [[1], [0]] [0] ∈ someM.filter fun m => decide ((m.rows.length : Int) ≤ most) := List.mem_filter.mpr ⟨by simp [someM, someB], decide_eq_true (show ((2 : Nat) : Int) ≤ most by omega)⟩
        rw [hz] at hm'
        cases hm'
      simp only [ne_eq, List.map_eq_nil_iff]
      exact this
    · have := List.length_filter_le (fun m : Mach => decide ((m.rows.length : Int) ≤ most)) someM
      have h11 : someM.length = 11 := rfl
      rw [List.length_map]
      omega
    · obtain ⟨m, hm', rfl⟩ := List.mem_map.mp mv
      obtain ⟨hs, hd⟩ := List.mem_filter.mp hm'
      refine hr _ _ (gcE x p1 (((f4.trans (FrE.app p G _)).trans (FrE.app p _ _)).trans f1.e) (mD_clo _ m) fun h' p' f' => q m h' a1 r1 (some_ok hs).1 (of_decide_eq_true hd) p' f' (by omega))
theorem sp_some {P : Prog} (hP : KP P) (hd : P.lookup "_law_drawn_machine" = some f_law_drawn_machine) (hf : P.lookup "_law_some_machine" = some f_law_some_machine) {n p c : Nat} {h : Hp} {cells : List Int} {a r most : Int} {Q : D → Hp → Prop} (x : PenAt h p c cells a r) (hm1 : 2 ≤ most) (hm2 : most ≤ 32) (ha : a ≤ 700000)
    (q : ∀ (m : Mach) (h' : Hp) (a' r' : Int), MachOk m → (m.rows.length : Int) ≤ most → PenAt h' p c cells a' r' → Fr p h h' → a' ≤ a + 2000 → Q (mD m) h') : callN P (n + 5) "_law_some_machine" [.ref p, .int most] h Q R0' := by
  refine call_go hf rfl ?_
  simp [f_law_some_machine, sm0, sm1, dSs, dS, dT, dEs, dTs, dIfs, dI, dTg, dTgs, lay, tst, ini, tsLen, SL.bi, SL.lm, SL.lmT, SL.cmp, op2, SL.wipe, sz]
  refine sp_one hP (n := n + 1) x.app (l := h.length) at_end (by have := x.lt; omega) (by simp) (by simp) (by omega) fun v h1 a1 r1 mv p1 f1 ha1 => ?_
  have iv : ∃ i : Int, v = .int i ∧ 1 ≤ i ∧ i ≤ 3 := by
    simp at mv
    rcases mv with rfl | rfl | rfl <;> exact ⟨_, rfl, by omega, by omega⟩
  obtain ⟨l, rfl, l1, l3⟩ := iv
  refine sp_take hP (n := n + 2) p1 (by decide) (by decide) (by omega) fun v2 h2 a2 r2 w0 w1 p2 f2 ha2 => ?_
  have fr : FrE p h h2 := ((FrE.app p h _).trans f1.e).trans f2.e
  by_cases hv : 0 < v2
  · simp [ordD, hv, tru]
    refine sp_take hP (n := n + 2) p2 (by omega) (by omega) (by omega) fun v3 h3 a3 r3 u0 u1 p3 f3 ha3 => ?_
    simp [addD]
    refine sp_drawn hP hd (n := n) p3 (by omega) (by omega) l1 l3 (by omega) fun m h4 a4 r4 ok el er p4 f4 ha4 => ?_
    exact gcE x p4 ((fr.trans f3.e).trans f4.e) (mD_clo _ m) fun h' p' f' => q m h' a4 r4 ok (by omega) p' f' (by omega)
  · simp [ordD, hv, tru]
    exact sm_tail (n := n + 1) hP x p2 fr hm1 (by omega) ha rfl (fun _ _ z => z) q
end Lw

set_option linter.all false
set_option autoImplicit false
set_option maxRecDepth 100000
set_option Elab.async false
set_option maxHeartbeats 4000000
namespace Lw
open PySem SL
/-! ### searches, the nearest first, over nodes of any kind -/
section
variable {α : Type} [DecidableEq α] (st : α → Nat → α) (l : Nat)
def bGrow (x : Tx × α) (L : List (Tx × α)) (c : Nat) : List (Tx × α) := if st x.2 c ∈ L.map (·.2) then L else L ++ [(x.1 ++ [97 + c], st x.2 c)]
def bGrowTo (x : Tx × α) (L : List (Tx × α)) (k : Nat) : List (Tx × α) := (List.range k).foldl (bGrow st x) L
theorem bGrowTo_succ (x : Tx × α) (L : List (Tx × α)) (k : Nat) : bGrowTo st x L (k + 1) = bGrow st x (bGrowTo st x L k) k := by
  unfold bGrowTo
  rw [List.range_succ, List.foldl_append]
  rfl
def bSeq (b : α) : Nat → List (Tx × α)
  | 0 => [([], b)]
  | k + 1 => match (bSeq b k)[k]? with
    | some x => bGrowTo st x (bSeq b k) l
    | none => bSeq b k
theorem bGrow_in {x : Tx × α} {L : List (Tx × α)} {c : Nat} (h : st x.2 c ∈ L.map (·.2)) : bGrow st x L c = L := if_pos h
theorem bGrow_out {x : Tx × α} {L : List (Tx × α)} {c : Nat} (h : st x.2 c ∉ L.map (·.2)) : bGrow st x L c = L ++ [(x.1 ++ [97 + c], st x.2 c)] := if_neg h
theorem bGrow_pre (x : Tx × α) (L : List (Tx × α)) (c : Nat) : ∃ g, bGrow st x L c = L ++ g := by
  unfold bGrow
  split
  · exact ⟨[], by simp⟩
  · exact ⟨_, rfl⟩
theorem bGrowTo_pre (x : Tx × α) (L : List (Tx × α)) : ∀ k, ∃ g, bGrowTo st x L k = L ++ g
  | 0 => ⟨[], by simp [bGrowTo]⟩
  | k + 1 => by
    obtain ⟨g, e⟩ := bGrowTo_pre x L k
    obtain ⟨g2, e2⟩ := bGrow_pre st x (bGrowTo st x L k) k
    exact ⟨g ++ g2, by rw [bGrowTo_succ, e2, e, List.append_assoc]⟩
variable (b : α)
theorem bSeq_step (k : Nat) : ∃ g, bSeq st l b (k + 1) = bSeq st l b k ++ g := by
  rw [bSeq]
  split
  · exact bGrowTo_pre ..
  · exact ⟨[], by simp⟩
theorem bSeq_pre (k : Nat) : ∀ j, ∃ g, bSeq st l b (k + j) = bSeq st l b k ++ g
  | 0 => ⟨[], by simp⟩
  | j + 1 => by
    obtain ⟨g, e⟩ := bSeq_pre k j
    obtain ⟨g2, e2⟩ := bSeq_step st l b (k + j)
    exact ⟨g ++ g2, by rw [show k + (j + 1) = k + j + 1 from rfl, e2, e, List.append_assoc]⟩
theorem bSeq_stop {k : Nat} (h : (bSeq st l b k).length ≤ k) : ∀ j, bSeq st l b (k + j) = bSeq st l b k
  | 0 => rfl
  | j + 1 => by
    have ih := bSeq_stop h j
    show bSeq st l b (k + j + 1) = _
    rw [bSeq, ih, List.getElem?_eq_none (by omega)]
/-- what stays true of all nodes -/
structure BOk (I : α → Prop) (n : Nat) (L : List (Tx × α)) : Prop where
  nd : (L.map (·.2)).Nodup
  ok : ∀ x, x ∈ L → I x.2 ∧ x.1.length ≤ n ∧ ∀ c, c ∈ x.1 → 97 ≤ c ∧ c < 97 + l
theorem BOk.mono {I : α → Prop} {n n' : Nat} {L : List (Tx × α)} (h : BOk l I n L) (hn : n ≤ n') : BOk l I n' L := ⟨h.nd, fun x hx => let z := h.ok x hx; ⟨z.1, Nat.le_trans z.2.1 hn, z.2.2⟩⟩
theorem bGrow_ok {I : α → Prop} (hI : ∀ a c, I a → c < l → I (st a c)) {n : Nat} {x : Tx × α} {L : List (Tx × α)} (hx : I x.2 ∧ x.1.length ≤ n ∧ ∀ c, c ∈ x.1 → 97 ≤ c ∧ c < 97 + l) (h : BOk l I (n + 1) L) {c : Nat} (hc : c < l) : BOk l I (n + 1) (bGrow st x L c) := by
  unfold bGrow
  split
  · exact h
  · rename_i hn
    refine ⟨?_, fun y hy => ?_⟩
    · rw [List.map_append, List.nodup_append]
      refine ⟨h.nd, by simp, fun a ha b hb => ?_⟩
      rw [List.mem_singleton.mp hb]
      intro e
      subst e
      exact hn ha
    · rcases List.mem_append.mp hy with z | z
      · exact h.ok y z
      · rw [List.mem_singleton.mp z]
        refine ⟨hI _ _ hx.1 hc, by rw [List.length_append]; have := hx.2.1; simp; omega, fun d hd => ?_⟩
        rcases List.mem_append.mp hd with w | w
        · exact hx.2.2 d w
        · rw [List.mem_singleton.mp w]; omega
theorem bGrowTo_ok {I : α → Prop} (hI : ∀ a c, I a → c < l → I (st a c)) {n : Nat} {x : Tx × α} {L : List (Tx × α)} (hx : I x.2 ∧ x.1.length ≤ n ∧ ∀ c, c ∈ x.1 → 97 ≤ c ∧ c < 97 + l) (h : BOk l I (n + 1) L) : ∀ j : Nat, j ≤ l → BOk l I (n + 1) (bGrowTo st x L j)
  | 0, _ => h
  | j + 1, hj => by
    rw [bGrowTo_succ]
    exact bGrow_ok st l hI hx (bGrowTo_ok hI hx h j (by omega)) (by omega)
theorem bSeq_ok {I : α → Prop} (hI : ∀ a c, I a → c < l → I (st a c)) (hb : I b) : ∀ n, BOk l I n (bSeq st l b n)
  | 0 => ⟨by simp [bSeq], fun x hx => by rw [List.mem_singleton.mp hx]; exact ⟨hb, Nat.le_refl 0, fun c hc => by cases hc⟩⟩
  | n + 1 => by
    have ih := bSeq_ok hI hb n
    rw [bSeq]
    split
    · rename_i x hx
      exact bGrowTo_ok st l hI (ih.ok x (List.mem_of_getElem? hx)) (ih.mono l (by omega)) _ (Nat.le_refl _)
    · exact ih.mono l (by omega)
/-- all nodes, where there are at most N -/
def bAll (N : Nat) : List (Tx × α) := bSeq st l b N
/-- the word of the first node with a mark -/
def bFind (N : Nat) (f : α → Bool) : Option Tx := ((bAll st l b N).find? fun x => f x.2).map (·.1)
theorem bFind_pre {β : Type} (f : β → Bool) {xs : List β} {k : Nat} {x : β} (h1 : ∀ (i : Nat) (y : β), i < k → xs[i]? = some y → f y = false) (h2 : xs[k]? = some x) (h3 : f x = true) : xs.find? f = some x := by
  induction xs generalizing k with
  | nil => simp at h2
  | cons a xs ih =>
    rw [List.find?_cons]
    cases k with
    | zero =>
      simp at h2
      subst h2
      rw [h3]
    | succ k =>
      rw [h1 0 a (by omega) rfl]
      exact ih (k := k) (fun i y hi e => h1 (i + 1) y (Nat.succ_lt_succ hi) (by simpa using e)) (by simpa using h2)
theorem bFind_at {N k : Nat} {f : α → Bool} {x : Tx × α} (hk : k ≤ N) (h1 : ∀ (i : Nat) (y : Tx × α), i < k → (bSeq st l b k)[i]? = some y → f y.2 = false) (h2 : (bSeq st l b k)[k]? = some x) (h3 : f x.2 = true) : bFind st l b N f = some x.1 := by
  obtain ⟨g, e⟩ := bSeq_pre st l b k (N - k)
  have hf : bAll st l b N = bSeq st l b k ++ g := by
    unfold bAll
    rw [← e]
    congr 1
    omega
  have hlt : k < (bSeq st l b k).length := (List.getElem?_eq_some_iff.mp h2).1
  unfold bFind
  rw [hf, bFind_pre (fun x : Tx × α => f x.2) (k := k) (x := x) (fun i y hi e => h1 i y hi (by rw [List.getElem?_append_left (Nat.lt_trans hi hlt)] at e; exact e)) (by rw [List.getElem?_append_left hlt]; exact h2) h3]
  rfl
theorem bFind_none {N k : Nat} {f : α → Bool} (hk : k ≤ N) (h1 : ∀ (i : Nat) (y : Tx × α), i < k → (bSeq st l b k)[i]? = some y → f y.2 = false) (h2 : (bSeq st l b k).length ≤ k) : bFind st l b N f = none := by
  have hf : bAll st l b N = bSeq st l b k := by
    have := bSeq_stop st l b h2 (N - k)
    unfold bAll
    rw [← this]
    congr 1
    omega
  unfold bFind
  rw [hf]
  have : (bSeq st l b k).find? (fun x => f x.2) = none := by
    rw [List.find?_eq_none]
    intro x hx
    obtain ⟨i, hi, rfl⟩ := List.getElem_of_mem hx
    have hik : i < k := Nat.lt_of_lt_of_le hi h2
    rw [h1 i _ hik (List.getElem?_eq_getElem hi)]
    simp
  rw [this]
  rfl
end
/-! ### dicts whose keys are nodes -/
/-- how nodes stand as keys -/
structure KeyF {β : Type} [DecidableEq β] (kf : β → D) : Prop where
  eq : ∀ a b, keq (kf a) (kf b) = decide (a = b)
  tup : ∀ a, tupK (kf a) = true
def kF {α β : Type} (kf : β → D) (f : α → β) (g : α → D) (L : List α) : List (D × D) := L.map fun x => (kf (f x), g x)
section
variable {α β : Type} [DecidableEq β] {kf : β → D} (kk : KeyF kf) (f : α → β) (g : α → D)
include kk in
theorem fit_kF (L : List α) (p : β) : fitK (kF kf f g L) (kf p) = true := by
  unfold fitK
  have h2 : ((kF kf f g L).all fun q => tupK q.1) = true := by
    unfold kF
    rw [List.all_map, List.all_eq_true]
    exact fun x _ => kk.tup (f x)
  rw [h2, kk.tup]
  simp
include kk in
theorem kFget_some : ∀ {L : List α} {x : α}, (L.map f).Nodup → x ∈ L → kget (kF kf f g L) (kf (f x)) = some (g x)
  | [], _, _, h => by cases h
  | y :: L, x, nd, h => by
    rw [List.map_cons, List.nodup_cons] at nd
    unfold kget kF
    rw [List.map_cons, List.find?_cons, kk.eq]
    rcases List.mem_cons.mp h with rfl | h
    · rw [decide_eq_true rfl]
      rfl
    · have hne : ¬ f y = f x := fun e => nd.1 (by rw [e]; exact List.mem_map_of_mem h)
      rw [decide_eq_false hne]
      exact kFget_some nd.2 h
include kk in
theorem kFget_is (p : β) (L : List α) : (kget (kF kf f g L) (kf p)).isSome = decide (p ∈ L.map f) := by
  induction L with
  | nil => rfl
  | cons x L ih =>
    unfold kget kF at ih ⊢
    rw [List.map_cons, List.find?_cons, kk.eq, List.map_cons]
    by_cases h : f x = p
    · rw [decide_eq_true h]
      simp [h]
    · rw [decide_eq_false h]
      have h' : ¬ p = f x := fun e => h e.symm
      simp only [List.mem_cons, h', false_or]
      exact ih
include kk in
theorem kFput_new (p : β) (v : D) : ∀ {L : List α}, p ∉ L.map f → kput (kF kf f g L) (kf p) v = kF kf f g L ++ [(kf p, v)]
  | [], _ => rfl
  | x :: L, h => by
    rw [List.map_cons, List.mem_cons, not_or] at h
    have ih := kFput_new p v h.2
    unfold kF at ih ⊢
    rw [List.map_cons, kput, kk.eq, decide_eq_false fun e => h.1 e.symm, ih]
    rfl
end
end Lw

set_option linter.all false
set_option autoImplicit false
set_option maxRecDepth 100000
set_option Elab.async false
set_option maxHeartbeats 4000000
namespace Lw
open PySem SL
/-! ### the different ones, ascending -/
def ddp {α : Type} [DecidableEq α] : List α → List α
  | [] => []
  | x :: r => if x ∈ ddp r then ddp r else x :: ddp r
theorem mem_ddp {α : Type} [DecidableEq α] (y : α) : ∀ xs : List α, y ∈ ddp xs ↔ y ∈ xs
  | [] => Iff.rfl
  | x :: r => by
    have ih := mem_ddp y r
    rw [ddp, List.mem_cons]
    split
    · rename_i h
      constructor
      · exact fun z => .inr (ih.mp z)
      · rintro (rfl | z)
        · exact h
        · exact ih.mpr z
    · rw [List.mem_cons, ih]
theorem nodup_ddp {α : Type} [DecidableEq α] : ∀ xs : List α, (ddp xs).Nodup
  | [] => List.nodup_nil
  | x :: r => by
    rw [ddp]
    split
    · exact nodup_ddp r
    · rename_i h
      exact List.nodup_cons.mpr ⟨h, nodup_ddp r⟩
theorem len_ddp {α : Type} [DecidableEq α] : ∀ xs : List α, (ddp xs).length ≤ xs.length
  | [] => Nat.le_refl _
  | x :: r => by
    have := len_ddp r
    rw [ddp]
    split <;> simp <;> omega
def leZ (a b : Int) : Bool := decide (a ≤ b)
def iset (xs : List Int) : List Int := (ddp xs).mergeSort leZ
def tset (xs : List (List Int)) : List (List Int) := (ddp xs).mergeSort leL
theorem mem_iset {x : Int} {xs : List Int} : x ∈ iset xs ↔ x ∈ xs := by unfold iset; rw [List.mem_mergeSort]; exact mem_ddp x xs
theorem mem_tset {x : List Int} {xs : List (List Int)} : x ∈ tset xs ↔ x ∈ xs := by unfold tset; rw [List.mem_mergeSort]; exact mem_ddp x xs
theorem nodup_iset (xs : List Int) : (iset xs).Nodup := (List.mergeSort_perm _ _).nodup_iff.mpr (nodup_ddp xs)
theorem nodup_tset (xs : List (List Int)) : (tset xs).Nodup := (List.mergeSort_perm _ _).nodup_iff.mpr (nodup_ddp xs)
theorem leZ_trans (a b c : Int) (h : leZ a b = true) (k : leZ b c = true) : leZ a c = true := by unfold leZ at *; simp at *; omega
theorem leZ_total (a b : Int) : (leZ a b || leZ b a) = true := by unfold leZ; simp; omega
theorem up_iset (xs : List Int) : (iset xs).Pairwise (· < ·) := by
  have h1 := List.pairwise_mergeSort leZ_trans leZ_total (ddp xs)
  have h2 := List.nodup_iff_pairwise_ne.mp (nodup_iset xs)
  refine (h1.and h2).imp fun {a b} h => ?_
  have h4 : a ≤ b := of_decide_eq_true h.1
  have h5 : a ≠ b := h.2
  omega
theorem up_tset (xs : List (List Int)) : (tset xs).Pairwise (· ≤ ·) := (List.pairwise_mergeSort leL_trans leL_total (ddp xs)).imp fun {a b} h => leL_iff.mp h
theorem perm_same {α : Type} [DecidableEq α] {xs ys : List α} (h1 : xs.Nodup) (h2 : ys.Nodup) (h : ∀ x, x ∈ xs ↔ x ∈ ys) : xs.Perm ys := by
  rw [List.perm_iff_count]
  intro a
  rw [h1.count, h2.count]
  by_cases ha : a ∈ xs
  · rw [if_pos ha, if_pos ((h a).mp ha)]
  · rw [if_neg ha, if_neg fun z => ha ((h a).mpr z)]
theorem iset_is {xs ns : List Int} (h1 : ns.Pairwise (· < ·)) (h2 : ∀ k, k ∈ ns ↔ k ∈ xs) : ns = iset xs := by
  have nd : ns.Nodup := List.nodup_iff_pairwise_ne.mpr (h1.imp fun {a b} h e => by omega)
  exact List.Perm.eq_of_pairwise (le := (· < ·)) (fun a b _ _ x y => by omega) h1 (up_iset xs) (perm_same nd (nodup_iset xs) fun k => (h2 k).trans mem_iset.symm)
theorem tset_is {xs us : List (List Int)} (h0 : us.Nodup) (h1 : us.Pairwise (· ≤ ·)) (h2 : ∀ k, k ∈ us ↔ k ∈ xs) : us = tset xs :=
  List.Perm.eq_of_pairwise (le := (· ≤ ·)) (fun a b _ _ x y => List.le_antisymm x y) h1 (up_tset xs) (perm_same h0 (nodup_tset xs) fun k => (h2 k).trans mem_tset.symm)
theorem ints_map (xs : List Int) : intsOf (xs.map D.int) = some xs := by
  induction xs with
  | nil => rfl
  | cons x xs ih => show (intsOf (xs.map D.int)).map _ = _; rw [ih]; rfl
theorem its_map (ts : List (List Int)) : itsOf (ts.map tI) = some ts := by
  induction ts with
  | nil => rfl
  | cons t ts ih =>
    show (match intsOf (t.map D.int), itsOf (ts.map tI) with
      | some t, some ts => some (t :: ts)
      | _, _ => none) = _
    rw [ints_map, ih]
/-- sorted(set(..)) of whole numbers -/
theorem sset_ints {h : Hp} {x : TV} {xs : List Int} {Q : TV → Hp → Prop} (hi : items h x = some (xs.map D.int)) (hn : xs.length < 4000) {ks : List Int} (hk : ks.length < 64) (hs : ∀ i, i ∈ xs → i ∈ ks) (q : Q (.l ((iset xs).map D.int)) h) : biSset h [x] Q := by
  simp only [biSset, hi, ints_map]
  refine ⟨hn, ⟨ks, hk, hs⟩, fun ns h1 h2 => ?_⟩
  rw [iset_is h1 h2]
  exact q
/-- .. of tuples of them, in a list -/
theorem sset_tups {h : Hp} {x : TV} {ts : List (List Int)} {Q : TV → Hp → Prop} (hi : items h x = some (ts.map tI)) (hl : tvL h x = some (ts.map tI)) (hn : ts.length < 64) (hne : ∀ t, t ∈ ts → t ≠ []) (q : Q (.l ((tset ts).map tI)) h) : biSset h [x] Q := by
  cases ts with
  | nil =>
    have e0 : tset [] = [] := by unfold tset ddp; simp
    rw [e0] at q
    simp only [biSset, hi]
    refine ⟨by decide, ⟨[], by decide, fun i hm => hm⟩, fun ns h1 h2 => ?_⟩
    have : ns = [] := by
      cases ns with
      | nil => rfl
      | cons a _ => exact absurd ((h2 a).mp (List.mem_cons_self ..)) (by simp)
    rw [this]
    exact q
  | cons t ts =>
    have e : intsOf ((t :: ts).map tI) = none := rfl
    simp only [biSset, hi, hl, e, its_map]
    refine ⟨hn, hne, fun us h0 h2 h1 => ?_⟩
    rw [tset_is h0 h1 h2]
    exact q
end Lw

set_option linter.all false
set_option autoImplicit false
set_option maxRecDepth 100000
set_option Elab.async false
set_option maxHeartbeats 4000000
namespace Lw
open PySem SL
/-! ### pairs of standings, the nearest first -/
abbrev Nd := Tx × Int × Int
def toM (m : Mach) (s : Int) (c : Nat) : Int := (m.rows.getD s.toNat []).getD c 0
def grow (m o : Mach) (x : Nd) (L : List Nd) (c : Nat) : List Nd := if (toM m x.2.1 c, toM o x.2.2 c) ∈ L.map (·.2) then L else L ++ [(x.1 ++ [97 + c], toM m x.2.1 c, toM o x.2.2 c)]
def growTo (m o : Mach) (x : Nd) (L : List Nd) (k : Nat) : List Nd := (List.range k).foldl (grow m o x) L
theorem growTo_succ (m o : Mach) (x : Nd) (L : List Nd) (k : Nat) : growTo m o x L (k + 1) = grow m o x (growTo m o x L k) k := by
  unfold growTo
  rw [List.range_succ, List.foldl_append]
  rfl
def seqL (m o : Mach) : Nat → List Nd
  | 0 => [([], 0, 0)]
  | k + 1 => match (seqL m o k)[k]? with
    | some x => growTo m o x (seqL m o k) m.l.toNat
    | none => seqL m o k
theorem grow_pre (m o : Mach) (x : Nd) (L : List Nd) (c : Nat) : ∃ g, grow m o x L c = L ++ g := by
  unfold grow
  split
  · exact ⟨[], by simp⟩
  · exact ⟨_, rfl⟩
theorem growTo_pre (m o : Mach) (x : Nd) (L : List Nd) : ∀ k, ∃ g, growTo m o x L k = L ++ g
  | 0 => ⟨[], by simp [growTo]⟩
  | k + 1 => by
    obtain ⟨g, e⟩ := growTo_pre m o x L k
    obtain ⟨g2, e2⟩ := grow_pre m o x (growTo m o x L k) k
    exact ⟨g ++ g2, by rw [growTo_succ, e2, e, List.append_assoc]⟩
theorem seq_step (m o : Mach) (k : Nat) : ∃ g, seqL m o (k + 1) = seqL m o k ++ g := by
  rw [seqL]
  split
  · exact growTo_pre ..
  · exact ⟨[], by simp⟩
theorem seq_pre (m o : Mach) (k : Nat) : ∀ j, ∃ g, seqL m o (k + j) = seqL m o k ++ g
  | 0 => ⟨[], by simp⟩
  | j + 1 => by
    obtain ⟨g, e⟩ := seq_pre m o k j
    obtain ⟨g2, e2⟩ := seq_step m o (k + j)
    exact ⟨g ++ g2, by rw [show k + (j + 1) = k + j + 1 from rfl, e2, e, List.append_assoc]⟩
theorem seq_stop (m o : Mach) {k : Nat} (h : (seqL m o k).length ≤ k) : ∀ j, seqL m o (k + j) = seqL m o k
  | 0 => rfl
  | j + 1 => by
    have ih := seq_stop m o h j
    show seqL m o (k + j + 1) = _
    rw [seqL, ih, List.getElem?_eq_none (by omega)]
/-- what is true of the pairs -/
structure NdOk (m o : Mach) (n : Nat) (x : Nd) : Prop where
  a0 : 0 ≤ x.2.1
  a1 : x.2.1 < m.rows.length
  b0 : 0 ≤ x.2.2
  b1 : x.2.2 < o.rows.length
  w : x.1.length ≤ n ∧ wordIn m.l x.1 = true
structure LOk (m o : Mach) (n : Nat) (L : List Nd) : Prop where
  nd : (L.map (·.2)).Nodup
  ok : ∀ x, x ∈ L → NdOk m o n x
theorem LOk.mono {m o : Mach} {n n' : Nat} {L : List Nd} (h : LOk m o n L) (hn : n ≤ n') : LOk m o n' L := ⟨h.nd, fun x hx => let z := h.ok x hx; ⟨z.a0, z.a1, z.b0, z.b1, by have := z.w.1; omega, z.w.2⟩⟩
theorem to_in {m : Mach} (k : MachOk m) {s : Int} (h0 : 0 ≤ s) (h1 : s < m.rows.length) {c : Nat} (hc : (c : Int) < m.l) : 0 ≤ toM m s c ∧ toM m s c < m.rows.length ∧ ∃ r : List Int, L2.atI (rowsD m.rows) s = some (.tup (r.map .int)) ∧ L2.atI (r.map D.int) (c : Int) = some (.int (toM m s c)) := by
  have hs : s.toNat < m.rows.length := by omega
  obtain ⟨hl, hr⟩ := k.row m.rows[s.toNat] (List.getElem_mem _)
  have hil : c < (m.rows[s.toNat]).length := by omega
  have e1 : toM m s c = (m.rows[s.toNat])[c] := by
    unfold toM
    rw [List.getD_eq_getElem?_getD, List.getD_eq_getElem?_getD, List.getElem?_eq_getElem hs, Option.getD_some, List.getElem?_eq_getElem hil, Option.getD_some]
  have hin := hr _ (List.getElem_mem hil)
  refine ⟨by rw [e1]; exact hin.1, by rw [e1]; exact hin.2, m.rows[s.toNat], ?_, ?_⟩
  · simp only [L2.atI, L2.ixN, rowsD_len]
    rw [if_pos h0, if_pos h1]
    show (rowsD m.rows)[s.toNat]? = _
    unfold rowsD
    rw [List.getElem?_map, List.getElem?_eq_getElem hs]
    rfl
  · simp only [L2.atI, L2.ixN, List.length_map]
    rw [if_pos (by omega), if_pos (by omega)]
    show ((m.rows[s.toNat]).map D.int)[(c : Int).toNat]? = _
    rw [Int.toNat_natCast, List.getElem?_map, List.getElem?_eq_getElem hil, e1]
    rfl
theorem sign_in {l : Int} {c : Nat} (l3 : l ≤ 3) (hc : (c : Int) < l) : 97 + c ∈ abc l := by
  have : c = 0 ∨ c = 1 ∨ c = 2 := by omega
  have hl : l = 1 ∨ l = 2 ∨ l = 3 := by omega
  rcases hl with rfl | rfl | rfl <;> rcases this with rfl | rfl | rfl <;> first | omega | decide
theorem grow_ok {m o : Mach} (k : MachOk m) (k2 : MachOk o) (hl : m.l = o.l) {n : Nat} {x : Nd} {L : List Nd} (hx : NdOk m o n x) (h : LOk m o (n + 1) L) {c : Nat} (hc : (c : Int) < m.l) : LOk m o (n + 1) (grow m o x L c) := by
  unfold grow
  split
  · exact h
  · rename_i hn
    obtain ⟨a0, a1, _⟩ := to_in k hx.a0 hx.a1 hc
    obtain ⟨b0, b1, _⟩ := to_in k2 hx.b0 hx.b1 (by omega : (c : Int) < o.l)
    refine ⟨?_, fun y hy => ?_⟩
    · rw [List.map_append, List.nodup_append]
      refine ⟨h.nd, by simp, fun a ha b hb => ?_⟩
      rw [List.mem_singleton.mp hb]
      intro e
      subst e
      exact hn ha
    · rcases List.mem_append.mp hy with z | z
      · exact h.ok y z
      · rw [List.mem_singleton.mp z]
        refine ⟨a0, a1, b0, b1, by rw [List.length_append]; have := hx.w.1; simp; omega, ?_⟩
        show (x.1 ++ [97 + c]).all _ = true
        rw [List.all_append]
        rw [show x.1.all (fun c => decide (c ∈ abc m.l)) = true from hx.w.2]
        simp [sign_in k.l3 hc]
theorem growTo_ok {m o : Mach} (k : MachOk m) (k2 : MachOk o) (hl : m.l = o.l) {n : Nat} {x : Nd} {L : List Nd} (hx : NdOk m o n x) (h : LOk m o (n + 1) L) : ∀ j : Nat, (j : Int) ≤ m.l → LOk m o (n + 1) (growTo m o x L j)
  | 0, _ => h
  | j + 1, hj => by
    rw [growTo_succ]
    exact grow_ok k k2 hl hx (growTo_ok k k2 hl hx h j (by omega)) (by omega)
theorem seq_ok {m o : Mach} (k : MachOk m) (k2 : MachOk o) (hl : m.l = o.l) : ∀ n, LOk m o n (seqL m o n)
  | 0 => by
    have n1 := k.n1
    have n2 := k2.n1
    refine ⟨by simp [seqL], fun x hx => ?_⟩
    rw [List.mem_singleton.mp hx]
    exact ⟨Int.le_refl 0, by show (0 : Int) < m.rows.length; omega, Int.le_refl 0, by show (0 : Int) < o.rows.length; omega, Nat.le_refl 0, rfl⟩
  | n + 1 => by
    have ih := seq_ok k k2 hl n
    rw [seqL]
    split
    · rename_i x hx
      exact growTo_ok k k2 hl (ih.ok x (List.mem_of_getElem? hx)) (ih.mono (by omega)) _ (by have := k.l1; omega)
    · exact ih.mono (by omega)
/-- so many different numbers below a bound -/
theorem nodup_le : ∀ (n : Nat) (l : List Nat), l.Nodup → (∀ x, x ∈ l → x < n) → l.length ≤ n
  | 0, l, _, h => by
    cases l with
    | nil => exact Nat.le_refl 0
    | cons x _ => exact absurd (h x (List.mem_cons_self ..)) (by omega)
  | n + 1, l, nd, h => by
    have ih := nodup_le n (l.erase n) (nd.erase n) fun x hx => by
      have h1 := h x (List.mem_of_mem_erase hx)
      have h2 : x ≠ n := fun e => by
        subst e
        exact (List.Nodup.not_mem_erase nd) hx
      omega
    have := List.length_erase (a := n) (l := l)
    split at this <;> omega
theorem LOk.len {m o : Mach} {n : Nat} {L : List Nd} (h : LOk m o n L) : L.length ≤ m.rows.length * o.rows.length := by
  have e : L.length = ((L.map (·.2)).map fun p : Int × Int => p.1.toNat * o.rows.length + p.2.toNat).length := by simp
  rw [e]
  have hp : ∀ p : Int × Int, p ∈ L.map (·.2) → 0 ≤ p.1 ∧ p.1 < m.rows.length ∧ 0 ≤ p.2 ∧ p.2 < o.rows.length := fun p hm => by
    obtain ⟨x, hx, rfl⟩ := List.mem_map.mp hm
    have z := h.ok x hx
    exact ⟨z.a0, z.a1, z.b0, z.b1⟩
  refine nodup_le _ _ ?_ fun x hx => ?_
  · rw [List.nodup_iff_pairwise_ne, List.pairwise_map]
    refine List.Pairwise.imp_of_mem ?_ (List.nodup_iff_pairwise_ne.mp h.nd)
    intro p q hpm hqm hne he
    obtain ⟨p0, p1, p2, p3⟩ := hp p hpm
    obtain ⟨q0, q1, q2, q3⟩ := hp q hqm
    apply hne
    have hd : p.1.toNat = q.1.toNat := by
      have e1 := congrArg (· / o.rows.length) he
      try simp only at e1
      rw [Nat.add_comm, Nat.add_mul_div_right _ _ (by omega), Nat.add_comm (q.1.toNat * _), Nat.add_mul_div_right _ _ (by omega), Nat.div_eq_of_lt (by omega), Nat.div_eq_of_lt (by omega)] at e1
      omega
    have hd2 : p.2.toNat = q.2.toNat := by rw [hd] at he; omega
    exact Prod.ext (by omega) (by omega)
  · obtain ⟨p, hm, rfl⟩ := List.mem_map.mp hx
    obtain ⟨p0, p1, p2, p3⟩ := hp p hm
    have : p.1.toNat + 1 ≤ m.rows.length := by omega
    have h2 := Nat.mul_le_mul_right o.rows.length this
    rw [Nat.add_mul] at h2
    omega
/-- of two standings just one is an end -/
def differ (m o : Mach) (x : Nd) : Bool := decide (x.2.1 ∈ m.ends) != decide (x.2.2 ∈ o.ends)
def fullL (m o : Mach) : List Nd := seqL m o (m.rows.length * o.rows.length)
/-- the least word that parts two machines -/
def partM (m o : Mach) : Option Tx := ((fullL m o).find? (differ m o)).map (·.1)
theorem find_pre {α : Type} (f : α → Bool) {xs : List α} {k : Nat} {x : α} (h1 : ∀ (i : Nat) (y : α), i < k → xs[i]? = some y → f y = false) (h2 : xs[k]? = some x) (h3 : f x = true) : xs.find? f = some x := by
  induction xs generalizing k with
  | nil => simp at h2
  | cons a xs ih =>
    rw [List.find?_cons]
    cases k with
    | zero =>
      simp at h2
      subst h2
      rw [h3]
    | succ k =>
      rw [h1 0 a (by omega) rfl]
      exact ih (k := k) (fun i y hi e => h1 (i + 1) y (Nat.succ_lt_succ hi) (by simpa using e)) (by simpa using h2)
/-- one comes to a pair that parts -/
theorem part_at {m o : Mach} {k : Nat} {x : Nd} (hk : k ≤ m.rows.length * o.rows.length) (h1 : ∀ (i : Nat) (y : Nd), i < k → (seqL m o k)[i]? = some y → differ m o y = false) (h2 : (seqL m o k)[k]? = some x) (h3 : differ m o x = true) : partM m o = some x.1 := by
  obtain ⟨g, e⟩ := seq_pre m o k (m.rows.length * o.rows.length - k)
  have hf : fullL m o = seqL m o k ++ g := by
    unfold fullL
    rw [← e]
    congr 1
    omega
  have hlt : k < (seqL m o k).length := (List.getElem?_eq_some_iff.mp h2).1
  unfold partM
  rw [hf, find_pre (differ m o) (k := k) (x := x) (fun i y hi e => h1 i y hi (by rw [List.getElem?_append_left (Nat.lt_trans hi hlt)] at e; exact e)) (by rw [List.getElem?_append_left hlt]; exact h2) h3]
  rfl
/-- .. or to none -/
theorem part_none {m o : Mach} {k : Nat} (hk : k ≤ m.rows.length * o.rows.length) (h1 : ∀ (i : Nat) (y : Nd), i < k → (seqL m o k)[i]? = some y → differ m o y = false) (h2 : (seqL m o k).length ≤ k) : partM m o = none := by
  have hf : fullL m o = seqL m o k := by
    have := seq_stop m o h2 (m.rows.length * o.rows.length - k)
    unfold fullL
    rw [← this]
    congr 1
    omega
  unfold partM
  rw [hf]
  have : (seqL m o k).find? (differ m o) = none := by
    rw [List.find?_eq_none]
    intro x hx
    obtain ⟨i, hi, rfl⟩ := List.getElem_of_mem hx
    have hik : i < k := Nat.lt_of_lt_of_le hi h2
    rw [h1 i _ hik (List.getElem?_eq_getElem hi)]
    simp
  rw [this]
  rfl
end Lw

set_option linter.all false
set_option autoImplicit false
set_option maxRecDepth 100000
set_option Elab.async false
set_option maxHeartbeats 1000000
namespace Lw
open PySem SL
/-! ### where a set of standings leads -/
def f_led : Fn := ⟨3, 4, (.cons (.ret (.toT (.seq (.sset (.comp (.idx (.idx (.idx (.var 0) (.cst (.int 1))) (.var 3)) (.var 2)) (.nm 3) (.val (.var 1)) Es.nil [3])))))
    Ss.nil)⟩
/-- all numbers below a bound -/
def below (n : Nat) : List Int := (List.range n).map fun (i : Nat) => (i : Int)
theorem mem_below {n : Nat} {x : Int} : x ∈ below n ↔ 0 ≤ x ∧ x < n := by
  unfold below
  rw [List.mem_map]
  constructor
  · rintro ⟨i, hi, rfl⟩
    have := List.mem_range.mp hi
    omega
  · rintro ⟨h0, h1⟩
    exact ⟨x.toNat, List.mem_range.mpr (by omega), by omega⟩
def imgS (m : Mach) (xs : List Int) (c : Nat) : List Int := iset (xs.map fun s => toM m s c)
theorem imgS_in {m : Mach} (k : MachOk m) {xs : List Int} (hx : inR m.rows.length xs) {c : Nat} (hc : (c : Int) < m.l) : inR m.rows.length (imgS m xs c) := fun y hy => by
  obtain ⟨s, hs, rfl⟩ := List.mem_map.mp (mem_iset.mp hy)
  obtain ⟨a, b, _⟩ := to_in k (hx s hs).1 (hx s hs).2 hc
  exact ⟨a, b⟩
theorem imgS_ne {m : Mach} {xs : List Int} (h : xs ≠ []) (c : Nat) : imgS m xs c ≠ [] := by
  cases xs with
  | nil => exact absurd rfl h
  | cons x r =>
    intro e
    have : toM m x c ∈ imgS m (x :: r) c := mem_iset.mpr (List.mem_map_of_mem (List.mem_cons_self ..))
    rw [e] at this
    cases this
theorem iset_len {xs : List Int} {n : Nat} (h : inR n xs) : (iset xs).length ≤ n := by
  have h1 : ((iset xs).map Int.toNat).Nodup := by
    rw [List.nodup_iff_pairwise_ne, List.pairwise_map]
    refine List.Pairwise.imp_of_mem ?_ (up_iset xs)
    intro a b ha hb hab e
    have := h a (mem_iset.mp ha)
    have := h b (mem_iset.mp hb)
    omega
  have := nodup_le n _ h1 fun x hx => by
    obtain ⟨y, hy, rfl⟩ := List.mem_map.mp hx
    have := h y (mem_iset.mp hy)
    omega
  rwa [List.length_map] at this
theorem led_go {P : Prog} {nm : String} (hf : P.lookup nm = some f_led) {n : Nat} {m : Mach} {xs : List Int} {c : Nat} {h : Hp} {Q : D → Hp → Prop} (k : MachOk m) (hx : inR m.rows.length xs) (hl : xs.length ≤ 1000) (hc : (c : Int) < m.l) (q : Q (tI (imgS m xs c)) h) : callN P (n + 1) nm [mD m, tI xs, .int c] h Q R0' := by
  refine call_go hf rfl ?_
  have n32 := k.n32
  simp [f_led, dSs, dS, dT, dEs, dTs, dIfs, dI, dTg, dTgs, lay, tst, ini, tsLen, SL.bi, SL.lm, SL.lmT, SL.cmp, op2, SL.wipe, m1, walk, tI]
  refine comp_map (st := fun _ => True) (fun v => match v with
    | .int i => .int (toM m i c)
    | y => y) trivial _ [] (by simp only [List.length_map, List.length_nil, sz]; omega) (fun v hv qq z => ?_) ?_
  · obtain ⟨i, hi, rfl⟩ := List.mem_map.mp hv
    obtain ⟨_, _, r, a1, a2⟩ := to_in k (hx i hi).1 (hx i hi).2 hc
    try simp [dTg, dIfs, dT, dEs, lay]
    simp [idx, a1, a2]
    exact z
  · have e0 : ([] ++ (xs.map D.int).map (fun v => match v with
        | .int i => .int (toM m i c)
        | y => y)) = (xs.map fun s => toM m s c).map D.int := by
      rw [List.nil_append, List.map_map, List.map_map]
      rfl
    rw [e0]
    refine sset_ints rfl (by rw [List.length_map]; omega) (ks := below 32) (by decide) (fun i hi => ?_) ?_
    · obtain ⟨s, hs, rfl⟩ := List.mem_map.mp hi
      obtain ⟨a, b, _⟩ := to_in k (hx s hs).1 (hx s hs).2 hc
      exact mem_below.mpr ⟨a, by omega⟩
    · simp [items, sz]
      have hr : inR m.rows.length (xs.map fun s => toM m s c) := fun y hy => by
        obtain ⟨s, hs, rfl⟩ := List.mem_map.mp hy
        obtain ⟨a, b, _⟩ := to_in k (hx s hs).1 (hx s hs).2 hc
        exact ⟨a, b⟩
      have := iset_len hr
      refine ⟨by omega, gc0 q⟩
end Lw

set_option linter.all false
set_option autoImplicit false
set_option maxRecDepth 100000
set_option Elab.async false
set_option maxHeartbeats 1000000
namespace Lw
open PySem SL
/-! ### the least sets -/
def f_is_within : Fn := ⟨2, 3, (.cons (.ret (.bi .all (.cons (.comp (.cmp .inn (.var 2) (.var 1)) (.nm 2) (.val (.var 0)) Es.nil [2]) Es.nil)))
    Ss.nil)⟩
def f_leasts : Fn := ⟨1, 3, (.cons (.ret (.toT (.seq (.comp (.var 1) (.nm 1) (.val (.var 0)) (.cons (.nt (.bi .any (.cons (.comp (.and (.cmp .ne (.var 2) (.var 1)) (.call "is_within" (.cons (.var 2) (.cons (.var 1) Es.nil)))) (.nm 2) (.val (.var 0)) Es.nil [2]) Es.nil))) Es.nil) [1]))))
    Ss.nil)⟩
def withinB (a b : List Int) : Bool := a.all fun x => decide (x ∈ b)
def lessB (us : List (List Int)) (one : List Int) : Bool := us.any fun other => decide (other ≠ one) && withinB other one
def leastsT (us : List (List Int)) : List (List Int) := us.filter fun one => !lessB us one
theorem eqv_ints : ∀ a b : List Int, PyData.eqvAll (a.map PyData.int) (b.map PyData.int) = decide (a = b)
  | [], [] => by simp [PyData.eqvAll]
  | [], _ :: _ => by simp [PyData.eqvAll]
  | _ :: _, [] => by simp [PyData.eqvAll]
  | x :: a, y :: b => by
    rw [List.map_cons, List.map_cons, PyData.eqvAll, eqv_ints a b, eqv_int, Bool.eq_iff_iff]
    simp
theorem eqv_tP (a b : List Int) : PyData.eqv (tP a) (tP b) = decide (a = b) := by
  unfold tP
  rw [PyData.eqv]
  exact eqv_ints a b
theorem eqD_tI {h : Hp} {a b : List Int} {Q : Bool → Prop} (q : Q (decide (a = b))) : eqD h (.d (tI a)) (.d (tI b)) Q := by
  have e1 : rdT h (.d (tI a)) = some (tP a) := tI_rd h 59 a
  have e2 : rdT h (.d (tI b)) = some (tP b) := tI_rd h 59 b
  simp only [eqD, e1, e2, eqv_tP]
  exact q
theorem sp_within {P : Prog} (hf : P.lookup "is_within" = some f_is_within) {n : Nat} {a b : List Int} {h : Hp} {Q : D → Hp → Prop} (hl : a.length ≤ 1000) (q : Q (.bl (withinB a b)) h) : callN P (n + 1) "is_within" [tI a, tI b] h Q R0' := by
  refine call_go hf rfl ?_
  simp [f_is_within, dSs, dS, dT, dEs, dTs, dIfs, dI, dTg, dTgs, lay, tst, ini, tsLen, SL.bi, SL.lm, SL.lmT, SL.cmp, op2, SL.wipe, walk, tI]
  refine comp_map (st := fun _ => True) (fun v => match v with
    | .int i => .bl (decide (i ∈ b))
    | y => y) trivial _ [] (by simp only [List.length_map, List.length_nil, sz]; omega) (fun v hv qq z => ?_) ?_
  · obtain ⟨i, hi, rfl⟩ := List.mem_map.mp hv
    try simp [dTg, dIfs, dT, dEs, lay]
    exact inn_ends z
  · rw [List.nil_append, List.map_map]
    refine biAll_l (bools_map (fun i => decide (i ∈ b)) _ a fun x _ => rfl) ?_
    rw [all_map]
    exact gc0 q
theorem any_map {α : Type} (f : α → Bool) (xs : List α) : (xs.map f).any id = xs.any f := by rw [List.any_map]; rfl
theorem biAny_l {h : Hp} {xs : List D} {bs : List Bool} {Q : TV → Hp → Prop} (e : boolsOf xs = some bs) (q : Q (.d (.bl (bs.any id))) h) : biAny h [.l xs] Q := by
  simp only [biAny, tvL, Option.bind, e]
  exact q
def backI : D → List Int
  | .tup xs => xs.filterMap fun v => match v with
    | .int i => some i
    | _ => none
  | _ => []
theorem backI_tI (t : List Int) : backI (tI t) = t := by
  show (t.map D.int).filterMap _ = t
  induction t with
  | nil => rfl
  | cons i t ih => rw [List.map_cons, List.filterMap_cons]; simp [ih]
theorem filter_back (us : List (List Int)) (p : List Int → Bool) : (us.map tI).filterMap (fun v => if p (backI v) = true then some v else none) = (us.filter p).map tI := by
  induction us with
  | nil => rfl
  | cons t us ih =>
    rw [List.map_cons, List.filterMap_cons, backI_tI, List.filter_cons]
    cases p t with
    | true => simp [ih]
    | false => simp [ih]
theorem sp_leasts {P : Prog} (hw : P.lookup "is_within" = some f_is_within) (hf : P.lookup "leasts" = some f_leasts) {n l : Nat} {us : List (List Int)} {h : Hp} {Q : D → Hp → Prop} (hl : h[l]? = some (.lst (us.map tI))) (hn : us.length ≤ 1000) (hus : ∀ t, t ∈ us → t.length ≤ 1000) (q : Q (.tup ((leastsT us).map tI)) h) : callN P (n + 2) "leasts" [.ref l] h Q R0' := by
  refine call_go hf rfl ?_
  simp [f_leasts, dSs, dS, dT, dEs, dTs, dIfs, dI, dTg, dTgs, lay, tst, ini, tsLen, SL.bi, SL.lm, SL.lmT, SL.cmp, op2, SL.wipe, walk, hl]
  refine comp_filter (st := fun h' => h'[l]? = some (.lst (us.map tI))) (fun v => if (!lessB us (backI v)) = true then some v else none) hl _ [] (by simp only [List.length_map, List.length_nil, sz]; omega) (fun v hv qq z => ?_) ?_
  · obtain ⟨one, ho, rfl⟩ := List.mem_map.mp hv
    rw [backI_tI] at z
    try simp [dSs, dS, dT, dEs, dTs, dIfs, dI, dTg, dTgs, lay, tst, ini, tsLen, SL.bi, SL.lm, SL.lmT, SL.cmp, op2, SL.wipe, walk, hl]
    refine comp_map (st := fun h' => h'[l]? = some (.lst (us.map tI))) (fun v => .bl (decide (backI v ≠ one) && withinB (backI v) one)) hl _ [] (by simp only [List.length_map, List.length_nil, sz]; omega) (fun v2 hv2 qq2 z2 => ?_) ?_
    · obtain ⟨other, ho2, rfl⟩ := List.mem_map.mp hv2
      rw [backI_tI] at z2
      try simp [dSs, dS, dT, dEs, dTs, dIfs, dI, dTg, dTgs, lay, tst, ini, tsLen, SL.bi, SL.lm, SL.lmT, SL.cmp, op2, SL.wipe]
      refine eqD_tI ?_
      by_cases he : other = one
      · simp [he, tru] at z2 ⊢
        exact z2
      · simp [he, tru] at z2 ⊢
        exact sp_within hw (hus other ho2) z2
    · rw [List.nil_append, List.map_map]
      refine biAny_l (bools_map (fun other => decide (other ≠ one) && withinB other one) _ us fun x _ => by show D.bl _ = _; rw [backI_tI]) ?_
      rw [any_map]
      show _
      have e : (us.any fun other => decide (other ≠ one) && withinB other one) = lessB us one := rfl
      rw [e]
      cases hb : lessB us one with
      | true =>
        simp [hb, tru] at z ⊢
        exact z
      | false =>
        simp [hb, tru] at z ⊢
        exact z
  · rw [List.nil_append, filter_back us fun t => !lessB us t]
    simp [items, sz]
    have : (leastsT us).length ≤ us.length := List.length_filter_le _ _
    exact ⟨by show (leastsT us).length ≤ _; omega, gc0 q⟩
end Lw

set_option linter.all false
set_option autoImplicit false
set_option maxRecDepth 100000
set_option Elab.async false
set_option maxHeartbeats 4000000
namespace Lw
open PySem SL
/-! ### the places at which a word can be cut -/
def f_are_ends : Fn := ⟨2, 3, (.cons (.ret (.bi .all (.cons (.comp (.cmp .inn (.var 2) (.idx (.var 0) (.cst (.int 2)))) (.nm 2) (.val (.var 1)) Es.nil [2]) Es.nil)))
    Ss.nil)⟩
def f_need_small : Fn := ⟨1, 1, (.cons (.ifs (.cmp .gt (.bi .len (.cons (.idx (.var 0) (.cst (.int 1))) Es.nil)) (.cst (.int 5))) (.cons (.rai1 "TooMany" "limit" (.cst (.int 5)))
    Ss.nil) Ss.nil)
    Ss.nil)⟩
def f_is_cut_of : Fn := ⟨2, 2, (.cons (.ret (.and (.call "is_rising" (.cons (.var 1) (.cons (.bi .len (.cons (.idx (.var 0) (.cst (.int 1))) Es.nil)) Es.nil))) (.cmp .ne (.var 1) (.tup Es.nil))))
    Ss.nil)⟩
def f_need_cut_of : Fn := ⟨2, 2, (.cons (.ifs (.nt (.call "is_cut_of" (.cons (.var 0) (.cons (.var 1) Es.nil)))) (.cons (.rai0 "NoCut")
    Ss.nil) Ss.nil)
    Ss.nil)⟩
def fc1b0a0 : Ss := (.cons (.ifs (.call "are_ends" (.cons (.var 0) (.cons (.comp (.call "lead" (.cons (.var 0) (.cons (.var 5) (.cons (.slF (.var 2) (.var 4)) Es.nil)))) (.nm 5) (.val (.var 1)) Es.nil [5]) Es.nil))) (.cons (.exp (.lm .append (.var 3) (.cons (.var 4) Es.nil)))
    Ss.nil) Ss.nil)
    Ss.nil)
def fc1b0 : Ss := (.cons (.ifs (.cmp .inn (.call "lead" (.cons (.var 0) (.cons (.cst (.int 0)) (.cons (.slT (.var 2) (.var 4)) Es.nil)))) (.var 1)) fc1b0a0 Ss.nil)
    Ss.nil)
def f_find_cuttings : Fn := ⟨3, 6, (.cons (.asg (.nm 3) (.lst Es.nil))
    (.cons (.for (.nm 4) (.rng (.op .add (.bi .len (.cons (.var 2) Es.nil)) (.cst (.int 1)))) fc1b0)
    (.cons (.ret (.var 3))
    Ss.nil)))⟩
def f_cuttings : Fn := ⟨3, 3, (.cons (.exp (.call "need_machine" (.cons (.var 0) Es.nil)))
    (.cons (.exp (.call "need_cut_of" (.cons (.var 0) (.cons (.var 1) Es.nil))))
    (.cons (.exp (.call "need_word" (.cons (.var 0) (.cons (.var 2) Es.nil))))
    (.cons (.exp (.call "need_small" (.cons (.var 0) Es.nil)))
    (.cons (.ret (.call "find_cuttings" (.cons (.var 0) (.cons (.var 1) (.cons (.var 2) Es.nil)))))
    Ss.nil)))))⟩
def f_law_are_ends : Fn := ⟨2, 3, (.cons (.ret (.cmp .eq (.comp (.var 2) (.nm 2) (.val (.var 1)) (.cons (.cmp .nin (.var 2) (.idx (.var 0) (.cst (.int 2)))) Es.nil) [2]) (.lst Es.nil)))
    Ss.nil)⟩
def lc1b1 : Ss := (.cons (.ifs (.and (.cmp .inn (.call "_law_lead" (.cons (.var 0) (.cons (.cst (.int 0)) (.cons (.slT (.var 2) (.var 4)) Es.nil)))) (.var 1)) (.call "_law_are_ends" (.cons (.var 0) (.cons (.var 5) Es.nil)))) (.cons (.exp (.lm .append (.var 3) (.cons (.var 4) Es.nil)))
    Ss.nil) Ss.nil)
    Ss.nil)
def lc1b0 : Ss := (.cons (.asg (.nm 5) (.comp (.call "_law_lead" (.cons (.var 0) (.cons (.var 6) (.cons (.slF (.var 2) (.var 4)) Es.nil)))) (.nm 6) (.val (.var 1)) Es.nil [6]))
    lc1b1)
def f_law_cuttings : Fn := ⟨3, 7, (.cons (.asg (.nm 3) (.lst Es.nil))
    (.cons (.for (.nm 4) (.rng (.op .add (.bi .len (.cons (.var 2) Es.nil)) (.cst (.int 1)))) lc1b0)
    (.cons (.ret (.var 3))
    Ss.nil)))⟩
theorem cut_take {w : Tx} {p : Nat} (h : p ≤ w.length) : cut w none (some (p : Int)) = w.take p := by
  simp [cut, ix, HT.sIx]
  rw [if_neg (by omega)]
  omega
theorem cut_drop {w : Tx} {p : Nat} (h : p ≤ w.length) : cut w (some (p : Int)) none = w.drop p := by
  simp [cut, ix, HT.sIx]
  rw [Nat.min_eq_left h]
  exact List.take_of_length_le (by rw [List.length_drop]; exact Nat.le_refl _)
theorem wordIn_take {l : Int} {w : Tx} (p : Nat) (h : wordIn l w = true) : wordIn l (w.take p) = true := List.all_eq_true.mpr fun c hc => List.all_eq_true.mp h c (List.mem_of_mem_take hc)
theorem wordIn_drop {l : Int} {w : Tx} (p : Nat) (h : wordIn l w = true) : wordIn l (w.drop p) = true := List.all_eq_true.mpr fun c hc => List.all_eq_true.mp h c (List.mem_of_mem_drop hc)
def endsM (m : Mach) (xs : List Int) : Bool := xs.all fun x => decide (x ∈ m.ends)
def okP (m : Mach) (ct : List Int) (w : Tx) (p : Nat) : Bool := decide (leadM m 0 (w.take p) ∈ ct) && endsM m (ct.map fun s => leadM m s (w.drop p))
def placesN (m : Mach) (ct : List Int) (w : Tx) (k : Nat) : List Nat := (List.range k).filter (okP m ct w)
def nI (xs : List Nat) : List D := xs.map fun (i : Nat) => .int i
/-- the places at which a word can be cut -/
def placesM (m : Mach) (ct : List Int) (w : Tx) : List D := nI (placesN m ct w (w.length + 1))
theorem places_succ (m : Mach) (ct : List Int) (w : Tx) (k : Nat) : nI (placesN m ct w (k + 1)) = nI (placesN m ct w k) ++ if okP m ct w k = true then [.int k] else [] := by
  unfold placesN nI
  rw [List.range_succ, List.filter_append, List.map_append]
  congr 1
  cases h : okP m ct w k with
  | true => simp [h]
  | false => simp [h]
theorem places_len (m : Mach) (ct : List Int) (w : Tx) (k : Nat) : (nI (placesN m ct w k)).length ≤ k := by
  unfold nI placesN
  rw [List.length_map]
  exact Nat.le_trans (List.length_filter_le _ _) (by rw [List.length_range]; exact Nat.le_refl _)
theorem Gr.put {h h' : Hp} {l : Nat} {o : O} (x : Gr h h') (hl : h.length ≤ l) : Gr h (h'.set l o) := by
  obtain ⟨g, rfl⟩ := x
  exact ⟨g.set (l - h.length) o, by rw [List.set_append, if_neg (by omega)]⟩
theorem Gr.trans {a b c : Hp} (x : Gr a b) (y : Gr b c) : Gr a c := by
  obtain ⟨g, rfl⟩ := x
  obtain ⟨k, rfl⟩ := y
  exact ⟨g ++ k, by simp⟩
theorem sp_are_ends {P : Prog} (hf : P.lookup "are_ends" = some f_are_ends) {n l : Nat} {m : Mach} {xs : List Int} {h : Hp} {Q : D → Hp → Prop} (hl : h[l]? = some (.lst (xs.map .int))) (hn : xs.length ≤ 100000) (q : Q (.bl (endsM m xs)) h) : callN P (n + 1) "are_ends" [mD m, .ref l] h Q R0' := by
  refine call_go hf rfl ?_
  simp [f_are_ends, dSs, dS, dT, dEs, dTs, dIfs, dI, dTg, dTgs, lay, tst, ini, tsLen, SL.bi, SL.lm, SL.lmT, SL.cmp, op2, SL.wipe, walk, hl]
  refine comp_map (st := fun h' => h'[l]? = some (.lst (xs.map .int))) (fun x => match x with
    | .int i => .bl (decide (i ∈ m.ends))
    | y => y) hl _ [] (by simp only [List.length_map, List.length_nil, sz]; omega) (fun x hx q z => ?_) ?_
  · obtain ⟨i, _, rfl⟩ := List.mem_map.mp hx
    simp [m2]
    exact inn_ends z
  · rw [List.nil_append, List.map_map]
    refine biAll_l (bools_map (fun i => decide (i ∈ m.ends)) _ xs fun x _ => rfl) ?_
    rw [all_map]
    exact gc0 q
theorem eqv_nil (xs : List PyData) : PyData.eqv (.list xs) (.list []) = xs.isEmpty := by
  cases xs <;> simp [PyData.eqv, PyData.eqvAll]
theorem eqD_nil {h : Hp} {xs : List Int} {Q : Bool → Prop} (q : Q xs.isEmpty) : eqD h (.l (xs.map .int)) (.l []) Q := by
  have e1 : rdT h (.l (xs.map .int)) = some (.list (xs.map .int)) := by
    show (rdAll (rd h 60) (xs.map .int)).map PyData.list = _
    rw [rdAll_int h 59 xs]
    rfl
  have e2 : rdT h (.l []) = some (.list []) := rfl
  simp only [eqD, e1, e2, eqv_nil, List.isEmpty_map]
  exact q
theorem sp_lends {P : Prog} (hf : P.lookup "_law_are_ends" = some f_law_are_ends) {n l : Nat} {m : Mach} {xs : List Int} {h : Hp} {Q : D → Hp → Prop} (hl : h[l]? = some (.lst (xs.map .int))) (hn : xs.length ≤ 100000) (q : Q (.bl (endsM m xs)) h) : callN P (n + 1) "_law_are_ends" [mD m, .ref l] h Q R0' := by
  refine call_go hf rfl ?_
  simp [f_law_are_ends, dSs, dS, dT, dEs, dTs, dIfs, dI, dTg, dTgs, lay, tst, ini, tsLen, SL.bi, SL.lm, SL.lmT, SL.cmp, op2, SL.wipe, walk, hl]
  refine comp_filter (st := fun h' => h'[l]? = some (.lst (xs.map .int))) (fun x => match x with
    | .int i => if i ∈ m.ends then none else some (.int i)
    | y => none) hl _ [] (by simp only [List.length_map, List.length_nil, sz]; omega) (fun x hx q z => ?_) ?_
  · obtain ⟨i, _, rfl⟩ := List.mem_map.mp hx
    simp [m2]
    refine inn_ends ?_
    by_cases hi : i ∈ m.ends
    · simp [hi, tru] at z ⊢
      exact z
    · simp [hi, tru] at z ⊢
      exact z
  · have e : (xs.map D.int).filterMap (fun x => match x with
      | .int i => if i ∈ m.ends then none else some (.int i)
      | y => none) = (xs.filter fun i => !decide (i ∈ m.ends)).map D.int := by
      clear hl hn q
      induction xs with
      | nil => rfl
      | cons x xs ih =>
        rw [List.map_cons, List.filterMap_cons, List.filter_cons]
        by_cases hx : x ∈ m.ends
        · simp [hx, ih]
        · simp [hx, ih]
    rw [e, List.nil_append]
    have e2 : (xs.filter fun i => !decide (i ∈ m.ends)).isEmpty = endsM m xs := by
      unfold endsM
      rw [Bool.eq_iff_iff, List.isEmpty_iff, List.filter_eq_nil_iff, List.all_eq_true]
      constructor
      · intro z x hx
        simpa using z x hx
      · intro z x hx
        simpa using z x hx
    refine eqD_nil ?_
    rw [e2]
    exact gc0 q
theorem cut_len {k : Nat} {t : List Int} (c : CutOk k t) : t.length ≤ k := by
  have := up_len (lo := 0) c.up fun x hx => c.inr x hx
  omega
def leadD (m : Mach) (u : Tx) : D → D
  | .int i => .int (leadM m i u)
  | y => y
/-- the standings to which a rest leads, from a cut's standings -/
theorem ends_go {P : Prog} {n : Nat} {nm : String} (hf : P.lookup nm = some f_lead) {m : Mach} (k : MachOk m) {ct : List Int} (c : CutOk m.rows.length ct) {w : Tx} {p : Nat} (hp : p ≤ w.length) (hl : w.length ≤ 2000) (hw : wordIn m.l w = true) {h : Hp} {v : D} {q : Option D → Hp → Prop} (hv : v ∈ ct.map D.int)
    (z : q (some (leadD m (w.drop p) v)) h) : callN P (n + 1) nm [mD m, v, .str (w.drop p)] h (fun x h1 => q (some x) h1) R0' := by
  obtain ⟨i, hi, rfl⟩ := List.mem_map.mp hv
  exact lead_go hf k (wordIn_drop p hw) (c.inr i hi).1 (c.inr i hi).2 fun _ _ => z
structure KC (P : Prog) : Prop extends KV P where
  areEnds : P.lookup "are_ends" = some f_are_ends
  needSmall : P.lookup "need_small" = some f_need_small
  isCut : P.lookup "is_cut_of" = some f_is_cut_of
  needCut : P.lookup "need_cut_of" = some f_need_cut_of
theorem clo_nI (n : Nat) (xs : List Nat) : cloO n (.lst (nI xs)) = true := by
  show (nI xs).all (clo n) = true
  unfold nI
  rw [List.all_map, List.all_eq_true]
  exact fun _ _ => rfl
theorem sp_find_cuttings {P : Prog} (hP : KC P) (hf : P.lookup "find_cuttings" = some f_find_cuttings) {n : Nat} {m : Mach} {ct : List Int} {w : Tx} {h : Hp} {Q : D → Hp → Prop} (k : MachOk m) (c : CutOk m.rows.length ct) (hl : w.length ≤ 2000) (hw : wordIn m.l w = true)
    (q : Q (.ref h.length) (h ++ [.lst (placesM m ct w)])) : callN P (n + 2) "find_cuttings" [mD m, tI ct, .str w] h Q R0' := by
  have n1 := k.n1
  have n32 := k.n32
  have cl := cut_len c
  refine call_go hf rfl ?_
  have hz : w.length ≤ 16777216 := by omega
  simp [f_find_cuttings, dSs, dS, dT, dEs, dTs, dIfs, dI, dTg, dTgs, lay, tst, ini, tsLen, SL.bi, SL.lm, SL.lmT, SL.cmp, op2, SL.wipe, biLen, SL.len, addD, sz, hz]
  refine ⟨by omega, by omega, ?_⟩
  refine for_rng (fun _ => trivial) (w.length + 1) (fun j s H => ∃ (x4 x5 : Option D), s = [some (mD m), some (tI ct), some (.str w), some (.ref h.length), x4, x5] ∧ Gr h H ∧ H[h.length]? = some (.lst (nI (placesN m ct w j)))) ?_ ?_ _ _ ⟨_, _, rfl, ⟨[.lst []], rfl⟩, at_end⟩
  · rintro j s H hj ⟨x4, x5, rfl, hG, ef⟩ Nx hN
    simp [fc1b0, dSs, dS, dT, dEs, dTs, dIfs, dI, dTg, dTgs, lay, tst, ini, tsLen, SL.bi, SL.lm, SL.lmT, SL.cmp, op2, SL.wipe, slc, sz]
    refine ⟨by omega, ?_⟩
    rw [cut_take (by omega)]
    refine lead_go hP.lead k (wordIn_take j hw) (by omega) (by omega) fun _ _ => ?_
    refine inn_ends ?_
    have hs := places_succ m ct w j
    have hpl := places_len m ct w j
    cases h1 : decide (leadM m 0 (w.take j) ∈ ct) with
    | false =>
      have hk : okP m ct w j = false := by simp only [okP, h1, Bool.false_and]
      rw [hk] at hs
      simp [tru]
      exact hN _ _ ⟨_, _, rfl, hG, by rw [hs]; simpa using ef⟩
    | true =>
      simp [fc1b0a0, dSs, dS, dT, dEs, dTs, dIfs, dI, dTg, dTgs, lay, tst, ini, tsLen, SL.bi, SL.lm, SL.lmT, SL.cmp, op2, SL.wipe, slc, sz, walk, tI, tru]
      refine comp_map (st := fun _ => True) (leadD m (w.drop j)) trivial _ [] (by simp only [List.length_map, List.length_nil, sz]; omega) (fun v hv q z => ?_) ?_
      · try simp [dTg, dIfs, dT, dEs, lay]
        refine ⟨by omega, ?_⟩
        rw [cut_drop (by omega)]
        exact ends_go hP.lead k c (by omega) hl hw hv z
      · have e0 : ([] ++ (ct.map D.int).map (leadD m (w.drop j))) = (ct.map fun s => leadM m s (w.drop j)).map D.int := by
          rw [List.nil_append, List.map_map, List.map_map]
          rfl
        have hk0 : okP m ct w j = endsM m (ct.map fun s => leadM m s (w.drop j)) := by simp only [okP, h1, Bool.true_and]
        rw [e0]
        have xl : (ct.map fun s => leadM m s (w.drop j)).length ≤ 100 := by rw [List.length_map]; omega
        generalize (ct.map fun s => leadM m s (w.drop j)) = xs at hk0 xl ⊢
        rw [hk0] at hs
        refine sp_are_ends hP.areEnds at_end (by omega) ?_
        have ef2 := at_app (o := .lst (xs.map D.int)) ef
        cases h2 : endsM m xs with
        | false =>
          rw [h2] at hs
          simp [tru]
          exact hN _ _ ⟨_, _, rfl, hG.app _, by rw [hs]; simpa using ef2⟩
        | true =>
          rw [h2] at hs
          simp [tru, lmOk, lstOf, ef2, lmAppend, sz]
          refine ⟨by omega, hN _ _ ⟨_, _, rfl, (hG.app _).put (Nat.le_refl _), ?_⟩⟩
          rw [hs]
          exact List.getElem?_set_self (by rw [List.length_append]; have := hG.len; simp; omega)
  · rintro s H ⟨x4, x5, rfl, hG, ef⟩
    simp [dSs, dS, dT, dEs, dTs, dIfs, dI, dTg, dTgs, lay, tst, ini, tsLen, SL.bi, SL.lm, SL.lmT, SL.cmp, op2, SL.wipe]
    exact gc3 hG (Nat.le_refl _) ef (clo_nI _ _) q
end Lw

set_option linter.all false
set_option autoImplicit false
set_option maxRecDepth 100000
set_option Elab.async false
set_option maxHeartbeats 1000000
namespace Lw
open PySem SL
def leB : Ss := (.cons (.asg (.nm 1) (.op .add (.var 1) (.op .mul (.lst (.cons (.var 2) Es.nil)) (.bi .int (.cons (.cmp .eq (.var 3) (.lst Es.nil)) Es.nil)))))
    Ss.nil)
def leA : Ss := (.cons (.asg (.nm 3) (.comp (.cst (.int 1)) (.nm 4) (.val (.var 0)) (.cons (.and (.cmp .ne (.var 4) (.var 2)) (.cmp .eq (.comp (.var 5) (.nm 5) (.val (.var 4)) (.cons (.cmp .nin (.var 5) (.var 2)) Es.nil) [5]) (.lst Es.nil))) Es.nil) [4]))
    leB)
def f_law_least : Fn := ⟨1, 6, (.cons (.asg (.nm 1) (.lst Es.nil))
    (.cons (.for (.nm 2) (.val (.var 0)) leA)
    (.cons (.ret (.var 1))
    Ss.nil)))⟩
theorem eqD_r0 {h : Hp} {l : Nat} {xs : List Int} {Q : Bool → Prop} (e : h[l]? = some (.lst (xs.map .int))) (q : Q xs.isEmpty) : eqD h (.d (.ref l)) (.l []) Q := by
  have e1 : rdT h (.d (.ref l)) = some (.list (xs.map PyData.int)) := by
    show rd h 60 (.ref l) = _
    rw [rd, e]
    show (rdAll (rd h 59) (xs.map .int)).map PyData.list = _
    rw [rdAll_int h 58 xs]
    rfl
  have e2 : rdT h (.l []) = some (.list []) := rfl
  simp only [eqD, e1, e2, eqv_nil, List.isEmpty_map]
  exact q
def outF (one : List Int) : D → Option D := fun v => match v with
  | .int i => if i ∈ one then none else some (.int i)
  | _ => none
theorem out_map (one : List Int) : ∀ xs : List Int, (xs.map D.int).filterMap (outF one) = (xs.filter fun i => !decide (i ∈ one)).map D.int
  | [] => rfl
  | i :: xs => by
    rw [List.map_cons, List.filterMap_cons, List.filter_cons]
    by_cases hi : i ∈ one
    · simp [outF, hi, out_map one xs]
    · simp [outF, hi, out_map one xs]
theorem out_empty (a b : List Int) : (a.filter fun i => !decide (i ∈ b)).isEmpty = withinB a b := by
  unfold withinB
  rw [Bool.eq_iff_iff, List.isEmpty_iff, List.filter_eq_nil_iff, List.all_eq_true]
  constructor
  · intro z x hx
    simpa using z x hx
  · intro z x hx
    simpa using z x hx
def oneF (us : List (List Int)) (one : List Int) : D → Option D := fun v => if (decide (backI v ≠ one) && withinB (backI v) one) = true then some (.int 1) else none
theorem one_map (us : List (List Int)) (one : List Int) : ∀ xs : List (List Int), (xs.map tI).filterMap (oneF us one) = ((xs.filter fun o => decide (o ≠ one) && withinB o one).map fun _ => (1 : Int)).map D.int
  | [] => rfl
  | x :: xs => by
    rw [List.map_cons, List.filterMap_cons, List.filter_cons]
    have e : oneF us one (tI x) = if (decide (x ≠ one) && withinB x one) = true then some (.int 1) else none := by unfold oneF; rw [backI_tI]
    rw [e]
    cases hb : (decide (x ≠ one) && withinB x one) with
    | true => simp [one_map us one xs]
    | false => simp [one_map us one xs]
/-- one set: is any less? -/
theorem le_turn {P : Prog} {n l f : Nat} {us ks : List (List Int)} {one : List Int} {H : Hp} {e : En} {x3 x4 x5 : Option D} (hl : H[l]? = some (.lst (us.map tI))) (hf : H[f]? = some (.lst (ks.map tI))) (hn : us.length ≤ 1000) (hk : ks.length ≤ 1000) (hus : ∀ t, t ∈ us → t.length ≤ 1000) (he : e.xr = fun _ _ _ _ => False)
    (q : ∀ (g : List O) (y3 : Option D) (f' : Nat), (H ++ g)[f']? = some (.lst ((ks ++ if lessB us one = true then [] else [one]).map tI)) → H.length ≤ f' → e.nx [some (.ref l), some (.ref f'), some (tI one), y3, x4, x5] (H ++ g)) :
    dSs ⟨callN P n⟩ leA e [some (.ref l), some (.ref f), some (tI one), x3, x4, x5] H := by
  obtain ⟨e1, e2, e3, e4, e5⟩ := e
  cases he
  simp [leA, dSs, dS, dT, dEs, dTs, dIfs, dI, dTg, dTgs, lay, tst, ini, tsLen, SL.bi, SL.lm, SL.lmT, SL.cmp, op2, SL.wipe, walk, hl]
  refine comp_filter (st := fun h' => h'[l]? = some (.lst (us.map tI))) (oneF us one) hl _ [] (by simp only [List.length_map, List.length_nil, sz]; omega) (fun v hv qq z => ?_) ?_
  · obtain ⟨other, ho, rfl⟩ := List.mem_map.mp hv
    have hz : oneF us one (tI other) = if (decide (other ≠ one) && withinB other one) = true then some (.int 1) else none := by unfold oneF; rw [backI_tI]
    rw [hz] at z
    have hol := hus other ho
    try simp [dSs, dS, dT, dEs, dTs, dIfs, dI, dTg, dTgs, lay, tst, ini, tsLen, SL.bi, SL.lm, SL.lmT, SL.cmp, op2, SL.wipe]
    refine eqD_tI ?_
    by_cases hoe : other = one
    · simp [hoe, tru] at z ⊢
      exact z
    · simp [hoe, tru, dSs, dS, dT, dEs, dTs, dIfs, dI, dTg, dTgs, lay, tst, ini, tsLen, SL.bi, SL.lm, SL.lmT, SL.cmp, op2, SL.wipe, walk, tI] at z ⊢
      refine comp_filter (st := fun _ => True) (outF one) trivial _ [] (by simp only [List.length_map, List.length_nil, sz]; omega) (fun v2 hv2 qq2 z2 => ?_) ?_
      · obtain ⟨i, hi, rfl⟩ := List.mem_map.mp hv2
        try simp [dSs, dS, dT, dEs, dTs, dIfs, dI, dTg, dTgs, lay, tst, ini, tsLen, SL.bi, SL.lm, SL.lmT, SL.cmp, op2, SL.wipe]
        refine inn_ends ?_
        by_cases hio : i ∈ one
        · simp [outF, hio, tru] at z2 ⊢
          exact z2
        · simp [outF, hio, tru] at z2 ⊢
          exact z2
      · rw [out_map, List.nil_append]
        refine eqD_nil ?_
        rw [out_empty]
        cases hb : withinB other one with
        | true =>
          simp [hb, tru] at z ⊢
          exact z
        | false =>
          simp [hb, tru] at z ⊢
          exact z
  · rw [List.nil_append, one_map]
    have hem : ((us.filter fun o => decide (o ≠ one) && withinB o one).map fun _ => (1 : Int)).isEmpty = !lessB us one := by
      rw [List.isEmpty_map]
      unfold lessB
      rw [Bool.eq_iff_iff, List.isEmpty_iff, List.filter_eq_nil_iff, Bool.not_eq_true', List.any_eq_false]
    generalize hW : ((us.filter fun o => decide (o ≠ one) && withinB o one).map fun _ => (1 : Int)) = W at hem ⊢
    simp [leB, dSs, dS, dT, dEs, dTs, dIfs, dI, dTg, dTgs, lay, tst, ini, tsLen, SL.bi, SL.lm, SL.lmT, SL.cmp, op2, SL.wipe, sz]
    refine eqD_r0 at_end ?_
    rw [hem]
    have hf2 := at_app (o := O.lst (W.map D.int)) hf
    cases hb : lessB us one with
    | true =>
      simp [hb, biInt, mulD, lstOf, addD, hf2, rep, sz] at q ⊢
      refine ⟨by omega, ?_⟩
      have := q [.lst (W.map D.int), .lst (ks.map tI)] (some (.ref H.length)) (H.length + 1) (by simp) (by omega)
      simpa using this
    | false =>
      simp [hb, biInt, mulD, lstOf, addD, hf2, rep, sz] at q ⊢
      refine ⟨by omega, ?_⟩
      have := q [.lst (W.map D.int), .lst (ks.map tI ++ [tI one])] (some (.ref H.length)) (H.length + 1) (by simp) (by omega)
      simpa using this
end Lw

set_option linter.all false
set_option autoImplicit false
set_option maxRecDepth 100000
set_option Elab.async false
set_option maxHeartbeats 1000000
namespace Lw
open PySem SL
theorem sp_lleast {P : Prog} (hf : P.lookup "_law_least" = some f_law_least) {n l : Nat} {us : List (List Int)} {h : Hp} {Q : D → Hp → Prop} (hl : h[l]? = some (.lst (us.map tI))) (hn : us.length ≤ 1000) (hus : ∀ t, t ∈ us → t.length ≤ 1000) (q : Q (.ref h.length) (h ++ [.lst ((leastsT us).map tI)])) : callN P (n + 1) "_law_least" [.ref l] h Q R0' := by
  refine call_go hf rfl ?_
  have hlt : l < h.length := (List.getElem?_eq_some_iff.mp hl).1
  have at2 : ∀ {H : Hp}, Gr h H → H[l]? = some (.lst (us.map tI)) := fun {H} g => by
    obtain ⟨g, rfl⟩ := g
    rw [List.getElem?_append_left hlt]
    exact hl
  simp [f_law_least, dSs, dS, dT, dEs, dTs, dIfs, dI, dTg, dTgs, lay, tst, ini, tsLen, SL.bi, SL.lm, SL.lmT, SL.cmp, op2, SL.wipe, walk, at_app (o := .lst []) hl]
  refine for_inv (fun r s H => ∃ (ps rs : List (List Int)) (f : Nat) (x2 x3 x4 x5 : Option D), us = ps ++ rs ∧ r = rs.map tI ∧ s = [some (.ref l), some (.ref f), x2, x3, x4, x5] ∧ Gr h H ∧ h.length ≤ f ∧ H[f]? = some (.lst ((ps.filter fun one => !lessB us one).map tI))) ?_ ?_ _ _ _ ⟨[], us, h.length, _, _, _, _, rfl, rfl, rfl, ⟨[.lst []], rfl⟩, Nat.le_refl _, at_end⟩
  · rintro y r s H ⟨ps, rs, f, x2, x3, x4, x5, eu, er, rfl, hG, hfl, ef⟩
    cases rs with
    | nil => cases er
    | cons one rs =>
      cases er
      have hlen : us.length = ps.length + (rs.length + 1) := by rw [eu]; simp
      have hpl : (ps.filter fun one => !lessB us one).length ≤ ps.length := List.length_filter_le _ _
      refine ⟨at2 hG, fun Nx hN => ?_⟩
      simp [dTg]
      refine le_turn (e := ⟨Nx, _, _, Nx, _⟩) (at2 hG) ef hn (by omega) hus rfl fun g y3 f' e1 e2 => hN _ _ ⟨ps ++ [one], rs, f', _, _, _, _, by rw [eu]; simp, rfl, rfl, hG.trans ⟨g, rfl⟩, by have := hG.len; omega, ?_⟩
      rw [e1, List.filter_append]
      congr 3
      cases hb : lessB us one <;> simp [hb]
  · rintro s H ⟨ps, rs, f, x2, x3, x4, x5, eu, er, rfl, hG, hfl, ef⟩
    have hrs : rs = [] := by
      cases rs with
      | nil => rfl
      | cons _ _ => cases er
    subst hrs
    rw [List.append_nil] at eu
    subst eu
    refine ⟨at2 hG, ?_⟩
    simp [dSs, dS, dT, dEs, dTs, dIfs, dI, dTg, dTgs, lay, tst, ini, tsLen, SL.bi, SL.lm, SL.lmT, SL.cmp, op2, SL.wipe]
    exact gc3 hG hfl ef (clo_tIs _ _) q
end Lw

set_option linter.all false
set_option autoImplicit false
set_option maxRecDepth 100000
set_option Elab.async false
set_option maxHeartbeats 1000000
namespace Lw
open PySem SL
/-! ### antichains of sets that hold one standing: few -/
def subM (i j : Nat) : Bool := i &&& j == i
def compM (i j : Nat) : Bool := subM i j || subM j i
def antiL : Nat → List (List Nat)
  | 0 => [[]]
  | k + 1 => antiL k ++ ((antiL k).filter fun F => F.all fun j => !compM j k).map fun F => F ++ [k]
theorem antiL_len : (antiL 16).length = 168 := by decide +kernel
theorem anti_in : ∀ (k : Nat) (F : List Nat), F.Pairwise (· < ·) → (∀ i, i ∈ F → i < k) → (∀ i j, i ∈ F → j ∈ F → i < j → compM i j = false) → F ∈ antiL k
  | 0, F, _, h, _ => by
    cases F with
    | nil => exact List.mem_singleton.mpr rfl
    | cons x _ => exact absurd (h x (List.mem_cons_self ..)) (by omega)
  | k + 1, F, pw, h, hc => by
    rw [antiL, List.mem_append]
    by_cases hk : k ∈ F
    · right
      -- k is the last one
      have hsplit : ∃ G, F = G ++ [k] := by
        obtain ⟨G, R, rfl⟩ := List.append_of_mem hk
        refine ⟨G, ?_⟩
        cases R with
        | nil => rfl
        | cons y R =>
          have h1 := (List.pairwise_append.mp pw).2.1
          have h2 := (List.pairwise_cons.mp h1).1 y (List.mem_cons_self ..)
          have h3 := h y (by simp)
          omega
      obtain ⟨G, rfl⟩ := hsplit
      have pg := List.pairwise_append.mp pw
      have lt : ∀ i, i ∈ G → i < k := fun i hi => pg.2.2 i hi k (by simp)
      refine List.mem_map.mpr ⟨G, List.mem_filter.mpr ⟨anti_in k G pg.1 lt fun i j hi hj => hc i j (by simp [hi]) (by simp [hj]), ?_⟩, rfl⟩
      exact List.all_eq_true.mpr fun i hi => by rw [hc i k (by simp [hi]) (by simp) (lt i hi)]; rfl
    · left
      exact anti_in k F pw (fun i hi => by
        have := h i hi
        have : i ≠ k := fun e => hk (e ▸ hi)
        omega) hc
theorem nodup_len2 {α : Type} [DecidableEq α] : ∀ (l D : List α), l.Nodup → (∀ x, x ∈ l → x ∈ D) → l.length ≤ D.length
  | [], _, _, _ => Nat.zero_le _
  | x :: l, D, nd, h => by
    rw [List.nodup_cons] at nd
    have hx := h x (List.mem_cons_self ..)
    have ih := nodup_len2 l (D.erase x) nd.2 fun y hy => (List.mem_erase_of_ne (fun e => nd.1 (by rw [← e]; exact hy))).mpr (h y (List.mem_cons_of_mem _ hy))
    have h1 := List.length_erase_of_mem hx
    have h2 := List.length_pos_of_mem hx
    rw [List.length_cons]
    omega
end Lw

set_option linter.all false
set_option autoImplicit false
set_option maxRecDepth 100000
set_option Elab.async false
set_option maxHeartbeats 1000000
namespace Lw
open PySem SL
/-- the p-th other standing -/
def oth (t : Int) (p : Nat) : Int := if (p : Int) < t then p else p + 1
def bN (b : Bool) : Nat := if b = true then 1 else 0
def cm4 (a b c d : Bool) : Nat := bN a + 2 * bN b + 4 * bN c + 8 * bN d
/-- a set's number, without t -/
def cm (t : Int) (A : List Int) : Nat := cm4 (decide (oth t 0 ∈ A)) (decide (oth t 1 ∈ A)) (decide (oth t 2 ∈ A)) (decide (oth t 3 ∈ A))
theorem cm4_lt : ∀ a b c d : Bool, cm4 a b c d < 16 := by decide
theorem cm_lt (t : Int) (A : List Int) : cm t A < 16 := cm4_lt ..
theorem cm4_sub : ∀ a b c d a' b' c' d' : Bool, subM (cm4 a b c d) (cm4 a' b' c' d') = ((!a || a') && (!b || b') && (!c || c') && (!d || d')) := by decide +kernel
theorem oth_all {t x : Int} (t0 : 0 ≤ t) (t5 : t < 5) (x0 : 0 ≤ x) (x5 : x < 5) (h : x ≠ t) : x = oth t 0 ∨ x = oth t 1 ∨ x = oth t 2 ∨ x = oth t 3 := by
  unfold oth
  have ht : t = 0 ∨ t = 1 ∨ t = 2 ∨ t = 3 ∨ t = 4 := by omega
  rcases ht with rfl | rfl | rfl | rfl | rfl <;> simp <;> omega
structure SetIn (t : Int) (A : List Int) : Prop where
  mem : t ∈ A
  inr : inR 5 A
  up : A.Pairwise (· < ·)
theorem cm_within {t : Int} {A B : List Int} (a : SetIn t A) (b : SetIn t B) (h : subM (cm t A) (cm t B) = true) : ∀ x, x ∈ A → x ∈ B := fun x hx => by
  by_cases hxt : x = t
  · rw [hxt]; exact b.mem
  · have h5 := a.inr x hx
    have ht := a.inr t a.mem
    unfold cm at h
    rw [cm4_sub] at h
    simp only [Bool.and_eq_true, Bool.or_eq_true, Bool.not_eq_true', decide_eq_true_eq, decide_eq_false_iff_not] at h
    obtain ⟨⟨⟨h0, h1⟩, h2⟩, h3⟩ := h
    rcases oth_all ht.1 ht.2 h5.1 h5.2 hxt with e | e | e | e <;> rw [e] at hx ⊢
    · exact h0.resolve_left fun z => z hx
    · exact h1.resolve_left fun z => z hx
    · exact h2.resolve_left fun z => z hx
    · exact h3.resolve_left fun z => z hx
theorem subM_self (i : Nat) : subM i i = true := by unfold subM; simp
theorem cm_inj {t : Int} {A B : List Int} (a : SetIn t A) (b : SetIn t B) (h : cm t A = cm t B) : A = B := by
  have h1 := cm_within a b (by rw [h]; exact subM_self _)
  have h2 := cm_within b a (by rw [h]; exact subM_self _)
  have na : A.Nodup := List.nodup_iff_pairwise_ne.mpr (a.up.imp fun {x y} z e => by omega)
  have nb : B.Nodup := List.nodup_iff_pairwise_ne.mpr (b.up.imp fun {x y} z e => by omega)
  exact List.Perm.eq_of_pairwise (le := (· < ·)) (fun x y _ _ p q => by omega) a.up b.up (perm_same na nb fun x => ⟨h1 x, h2 x⟩)
/-- what is true of a node -/
structure NodeOk (t : Int) (some : List (List Int)) : Prop where
  t0 : 0 ≤ t
  t5 : t < 5
  sets : ∀ A, A ∈ some → SetIn t A
  anti : ∀ A B, A ∈ some → B ∈ some → (∀ x, x ∈ A → x ∈ B) → A = B
  nd : some.Nodup
  up : some.Pairwise (· ≤ ·)
def famN (t : Int) (some : List (List Int)) : List Nat := (List.range 16).filter fun i => decide (i ∈ some.map (cm t))
theorem fam_in {t : Int} {some : List (List Int)} (o : NodeOk t some) : famN t some ∈ antiL 16 := by
  refine anti_in 16 _ (List.pairwise_lt_range.filter _) (fun i hi => List.mem_range.mp (List.mem_filter.mp hi).1) fun i j hi hj hij => ?_
  have mi := of_decide_eq_true (List.mem_filter.mp hi).2
  have mj := of_decide_eq_true (List.mem_filter.mp hj).2
  obtain ⟨A, hA, rfl⟩ := List.mem_map.mp mi
  obtain ⟨B, hB, rfl⟩ := List.mem_map.mp mj
  unfold compM
  rw [Bool.or_eq_false_iff]
  constructor
  · cases h : subM (cm t A) (cm t B) with
    | false => rfl
    | true =>
      have := o.anti A B hA hB (cm_within (o.sets A hA) (o.sets B hB) h)
      rw [this] at hij
      omega
  · cases h : subM (cm t B) (cm t A) with
    | false => rfl
    | true =>
      have := o.anti B A hB hA (cm_within (o.sets B hB) (o.sets A hA) h)
      rw [this] at hij
      omega
theorem fam_inj {t : Int} {some some' : List (List Int)} (o : NodeOk t some) (o' : NodeOk t some') (h : famN t some = famN t some') : some = some' := by
  have key : ∀ {s s' : List (List Int)}, NodeOk t s → NodeOk t s' → famN t s = famN t s' → ∀ A, A ∈ s → A ∈ s' := fun {s s'} o o' h A hA => by
    have : cm t A ∈ famN t s := List.mem_filter.mpr ⟨List.mem_range.mpr (cm_lt t A), decide_eq_true (List.mem_map_of_mem hA)⟩
    rw [h] at this
    obtain ⟨B, hB, e⟩ := List.mem_map.mp (of_decide_eq_true (List.mem_filter.mp this).2)
    rw [← cm_inj (o'.sets B hB) (o.sets A hA) e]
    exact hB
  exact List.Perm.eq_of_pairwise (le := (· ≤ ·)) (fun a b _ _ x y => List.le_antisymm x y) o.up o'.up (perm_same o.nd o'.nd fun A => ⟨key o o' h A, key o' o h.symm A⟩)
/-- so many nodes -/
theorem nodes_len (L : List (Int × List (List Int))) (nd : L.Nodup) (ok : ∀ x, x ∈ L → NodeOk x.1 x.2) : L.length ≤ 840 := by
  let f : Int × List (List Int) → Int × List Nat := fun x => (x.1, famN x.1 x.2)
  let all : List (Int × List Nat) := (below 5).flatMap fun t => (antiL 16).map fun F => (t, F)
  have hl : all.length = 840 := by decide +kernel
  have h1 : (L.map f).Nodup := by
    rw [List.nodup_iff_pairwise_ne, List.pairwise_map]
    refine List.Pairwise.imp_of_mem ?_ (List.nodup_iff_pairwise_ne.mp nd)
    intro x y hx hy hne e
    apply hne
    have e0 : (x.1, famN x.1 x.2) = (y.1, famN y.1 y.2) := e
    have e1 : x.1 = y.1 := (Prod.mk.inj e0).1
    have e2 : famN x.1 x.2 = famN y.1 y.2 := (Prod.mk.inj e0).2
    have oy := ok y hy
    rw [← e1] at e2 oy
    exact Prod.ext e1 (fam_inj (ok x hx) oy e2)
  have := nodup_len2 (L.map f) all h1 fun z hz => by
    obtain ⟨x, hx, rfl⟩ := List.mem_map.mp hz
    have o := ok x hx
    exact List.mem_flatMap.mpr ⟨x.1, mem_below.mpr ⟨o.t0, o.t5⟩, List.mem_map.mpr ⟨_, fam_in o, rfl⟩⟩
  rw [List.length_map, hl] at this
  exact this
end Lw

set_option linter.all false
set_option autoImplicit false
set_option maxRecDepth 100000
set_option Elab.async false
set_option maxHeartbeats 1000000
namespace Lw
open PySem SL
/-! ### the search for a failing word -/
abbrev Fn_ := Int × List (List Int)
def afterN (m : Mach) (ct : List Int) (x : Fn_) (c : Nat) : List (List Int) := (x.2.map fun A => imgS m A c) ++ if toM m x.1 c ∈ ct then [ct] else []
def stepN (m : Mach) (ct : List Int) (x : Fn_) (c : Nat) : Fn_ := (toM m x.1 c, leastsT (tset (afterN m ct x c)))
def beginN (ct : List Int) : Fn_ := (0, if (0 : Int) ∈ ct then [ct] else [])
theorem up_pair {xs : List Int} (h : upL xs = true) : xs.Pairwise (· < ·) := by
  induction xs with
  | nil => exact List.Pairwise.nil
  | cons x r ih =>
    cases r with
    | nil => exact List.pairwise_singleton ..
    | cons y r =>
      have h' : (decide (x < y) && upL (y :: r)) = true := h
      rw [Bool.and_eq_true, decide_eq_true_eq] at h'
      have ih' := ih h'.2
      refine List.pairwise_cons.mpr ⟨fun z hz => ?_, ih'⟩
      rcases List.mem_cons.mp hz with rfl | hz
      · exact h'.1
      · have := (List.pairwise_cons.mp ih').1 z hz
        omega
theorem least_ok {t : Int} {us : List (List Int)} (t0 : 0 ≤ t) (t5 : t < 5) (h : ∀ A, A ∈ us → SetIn t A) (nd : us.Nodup) (up : us.Pairwise (· ≤ ·)) : NodeOk t (leastsT us) where
  t0 := t0
  t5 := t5
  sets := fun A hA => h A (List.mem_filter.mp hA).1
  anti := fun A B hA hB hAB => by
    obtain ⟨a, _⟩ := List.mem_filter.mp hA
    obtain ⟨_, b⟩ := List.mem_filter.mp hB
    by_cases e : A = B
    · exact e
    · have : lessB us B = true := List.any_eq_true.mpr ⟨A, a, by
        rw [Bool.and_eq_true]
        exact ⟨decide_eq_true e, List.all_eq_true.mpr fun x hx => decide_eq_true (hAB x hx)⟩⟩
      rw [this] at b
      cases b
  nd := nd.filter _
  up := up.filter _
theorem step_node {m : Mach} (k : MachOk m) (n5 : m.rows.length ≤ 5) {ct : List Int} (c5 : CutOk m.rows.length ct) {x : Fn_} (hx : NodeOk x.1 x.2) (hx1 : x.1 < m.rows.length) (hin : ∀ A, A ∈ x.2 → inR m.rows.length A) {c : Nat} (hc : (c : Int) < m.l) :
    NodeOk (stepN m ct x c).1 (stepN m ct x c).2 ∧ (stepN m ct x c).1 < m.rows.length ∧ ∀ A, A ∈ (stepN m ct x c).2 → inR m.rows.length A := by
  obtain ⟨a0, a1, _⟩ := to_in k hx.t0 hx1 hc
  have wide : ∀ xs : List Int, inR m.rows.length xs → inR 5 xs := fun xs h y hy => by have := h y hy; omega
  have good : ∀ A, A ∈ tset (afterN m ct x c) → SetIn (toM m x.1 c) A ∧ inR m.rows.length A := fun A hA => by
    rcases List.mem_append.mp (mem_tset.mp hA) with z | z
    · obtain ⟨B, hB, rfl⟩ := List.mem_map.mp z
      have hi := imgS_in k (hin B hB) hc
      exact ⟨⟨mem_iset.mpr (List.mem_map_of_mem (hx.sets B hB).mem), wide _ hi, up_iset _⟩, hi⟩
    · split at z
      · rename_i hm
        rw [List.mem_singleton.mp z]
        exact ⟨⟨hm, wide _ c5.inr, up_pair c5.up⟩, c5.inr⟩
      · cases z
  exact ⟨least_ok a0 (by show toM m x.1 c < 5; omega) (fun A hA => (good A hA).1) (nodup_tset _) (up_tset _), a1, fun A hA => (good A (List.mem_filter.mp hA).1).2⟩
theorem begin_node {m : Mach} (k : MachOk m) (n5 : m.rows.length ≤ 5) {ct : List Int} (c5 : CutOk m.rows.length ct) : NodeOk (beginN ct).1 (beginN ct).2 ∧ (beginN ct).1 < m.rows.length ∧ ∀ A, A ∈ (beginN ct).2 → inR m.rows.length A := by
  have n1 := k.n1
  unfold beginN
  split
  · rename_i hm
    refine ⟨⟨Int.le_refl 0, (by decide : (0 : Int) < 5), fun A hA => ?_, fun A B hA hB _ => by rw [List.mem_singleton.mp hA, List.mem_singleton.mp hB], by simp, by simp⟩, by show (0 : Int) < _; omega, fun A hA => by rw [List.mem_singleton.mp hA]; exact c5.inr⟩
    rw [List.mem_singleton.mp hA]
    exact ⟨hm, fun y hy => by have := c5.inr y hy; omega, up_pair c5.up⟩
  · exact ⟨⟨Int.le_refl 0, (by decide : (0 : Int) < 5), (fun A hA => by cases hA), (fun A B hA => by cases hA), List.nodup_nil, List.Pairwise.nil⟩, (by show (0 : Int) < _; omega), fun A hA => by cases hA⟩
def NodeI (m : Mach) (x : Fn_) : Prop := NodeOk x.1 x.2 ∧ x.1 < m.rows.length ∧ ∀ A, A ∈ x.2 → inR m.rows.length A
/-- the nodes in the order of their least words -/
theorem fail_ok {m : Mach} (k : MachOk m) (n5 : m.rows.length ≤ 5) {ct : List Int} (c5 : CutOk m.rows.length ct) (n : Nat) : BOk m.l.toNat (NodeI m) n (bSeq (stepN m ct) m.l.toNat (beginN ct) n) ∧ (bSeq (stepN m ct) m.l.toNat (beginN ct) n).length ≤ 840 := by
  have h := bSeq_ok (stepN m ct) m.l.toNat (beginN ct) (I := NodeI m) (fun a c ha hc => step_node k n5 c5 ha.1 ha.2.1 ha.2.2 (by have := k.l1; omega)) (begin_node k n5 c5) n
  refine ⟨h, ?_⟩
  have := nodes_len _ h.nd fun x hx => by
    obtain ⟨y, hy, rfl⟩ := List.mem_map.mp hx
    exact (h.ok y hy).1.1
  rwa [List.length_map] at this
end Lw

set_option linter.all false
set_option autoImplicit false
set_option maxRecDepth 100000
set_option Elab.async false
set_option maxHeartbeats 1000000
namespace Lw
open PySem SL
/-! ### are_ends of a tuple -/
theorem sp_are_endsT {P : Prog} (hf : P.lookup "are_ends" = some f_are_ends) {n : Nat} {m : Mach} {xs : List Int} {h : Hp} {Q : D → Hp → Prop} (hn : xs.length ≤ 1000) (q : Q (.bl (endsM m xs)) h) : callN P (n + 1) "are_ends" [mD m, tI xs] h Q R0' := by
  refine call_go hf rfl ?_
  simp [f_are_ends, dSs, dS, dT, dEs, dTs, dIfs, dI, dTg, dTgs, lay, tst, ini, tsLen, SL.bi, SL.lm, SL.lmT, SL.cmp, op2, SL.wipe, walk, tI]
  refine comp_map (st := fun _ => True) (fun x => match x with
    | .int i => .bl (decide (i ∈ m.ends))
    | y => y) trivial _ [] (by simp only [List.length_map, List.length_nil, sz]; omega) (fun x hx q z => ?_) ?_
  · obtain ⟨i, _, rfl⟩ := List.mem_map.mp hx
    simp [m2]
    exact inn_ends z
  · rw [List.nil_append, List.map_map]
    refine biAll_l (bools_map (fun i => decide (i ∈ m.ends)) _ xs fun x _ => rfl) ?_
    rw [all_map]
    exact gc0 q
theorem sp_lendsT {P : Prog} (hf : P.lookup "_law_are_ends" = some f_law_are_ends) {n : Nat} {m : Mach} {xs : List Int} {h : Hp} {Q : D → Hp → Prop} (hn : xs.length ≤ 1000) (q : Q (.bl (endsM m xs)) h) : callN P (n + 1) "_law_are_ends" [mD m, tI xs] h Q R0' := by
  refine call_go hf rfl ?_
  simp [f_law_are_ends, dSs, dS, dT, dEs, dTs, dIfs, dI, dTg, dTgs, lay, tst, ini, tsLen, SL.bi, SL.lm, SL.lmT, SL.cmp, op2, SL.wipe, walk, tI]
  refine comp_filter (st := fun _ => True) (outF m.ends) trivial _ [] (by simp only [List.length_map, List.length_nil, sz]; omega) (fun x hx q z => ?_) ?_
  · obtain ⟨i, _, rfl⟩ := List.mem_map.mp hx
    simp [m2]
    refine inn_ends ?_
    by_cases hi : i ∈ m.ends
    · simp [outF, hi, tru] at z ⊢
      exact z
    · simp [outF, hi, tru] at z ⊢
      exact z
  · rw [out_map, List.nil_append]
    refine eqD_nil ?_
    have e : (xs.filter fun i => !decide (i ∈ m.ends)).isEmpty = endsM m xs := out_empty xs m.ends
    rw [e]
    exact gc0 q
/-- a node that fails -/
def failB (m : Mach) (x : Fn_) : Bool := decide (x.1 ∈ m.ends) && !(x.2.any fun A => endsM m A)
/-- nodes as keys -/
def ndD (x : Fn_) : D := .tup [.int x.1, .tup (x.2.map tI)]
theorem keqs_ints : ∀ a b : List Int, keqs (a.map D.int) (b.map D.int) = decide (a = b)
  | [], [] => rfl
  | [], _ :: _ => rfl
  | _ :: _, [] => rfl
  | x :: a, y :: b => by
    show (x == y && keqs (a.map D.int) (b.map D.int)) = _
    rw [keqs_ints a b, Bool.eq_iff_iff, Bool.and_eq_true]
    simp
theorem keqs_tI : ∀ a b : List (List Int), keqs (a.map tI) (b.map tI) = decide (a = b)
  | [], [] => rfl
  | [], _ :: _ => rfl
  | _ :: _, [] => rfl
  | x :: a, y :: b => by
    show (keqs (x.map D.int) (y.map D.int) && keqs (a.map tI) (b.map tI)) = _
    rw [keqs_tI a b, keqs_ints, Bool.eq_iff_iff, Bool.and_eq_true]
    simp
theorem ndK : KeyF ndD where
  eq := fun a b => by
    show (a.1 == b.1 && (keqs (a.2.map tI) (b.2.map tI) && true)) = _
    rw [keqs_tI, Bool.and_true, Bool.eq_iff_iff, Bool.and_eq_true, decide_eq_true_eq, decide_eq_true_eq, beq_iff_eq]
    exact ⟨fun h => Prod.ext h.1 h.2, fun h => by subst h; exact ⟨rfl, rfl⟩⟩
  tup := fun a => by
    show isKey 8 (.tup [.int a.1, .tup (a.2.map tI)]) = true
    have h2 : isKey 7 (.tup (a.2.map tI)) = true := by
      show (a.2.map tI).all (isKey 6) = true
      rw [List.all_map, List.all_eq_true]
      intro t _
      show (t.map D.int).all (isKey 5) = true
      rw [List.all_map, List.all_eq_true]
      exact fun _ _ => rfl
    show ([D.int a.1, .tup (a.2.map tI)].all (isKey 7)) = true
    rw [List.all_cons, List.all_cons, h2]
    rfl
end Lw

set_option linter.all false
set_option autoImplicit false
set_option maxRecDepth 100000
set_option Elab.async false
set_option maxHeartbeats 1000000
namespace Lw
open PySem SL
/-! ### words by their numbers: the less word has the less number -/
def valW (l : Nat) (w : Tx) : Nat := w.foldl (fun v c => l * v + (c - 97) + 1) 0
theorem valW_nil (l : Nat) : valW l [] = 0 := rfl
theorem valW_snoc (l : Nat) (w : Tx) (c : Nat) : valW l (w ++ [c]) = l * valW l w + (c - 97) + 1 := by
  unfold valW
  rw [List.foldl_append]
  rfl
def inW (l : Nat) (w : Tx) : Prop := ∀ c, c ∈ w → 97 ≤ c ∧ c < 97 + l
theorem inW.init {l : Nat} {w : Tx} {c : Nat} (h : inW l (w ++ [c])) : inW l w ∧ 97 ≤ c ∧ c < 97 + l := ⟨fun d hd => h d (by simp [hd]), h c (by simp)⟩
theorem snoc_ind {p : Tx → Prop} (h0 : p []) (h1 : ∀ w c, p w → p (w ++ [c])) (w : Tx) : p w := by
  have : ∀ r : Tx, p r.reverse := fun r => by
    induction r with
    | nil => exact h0
    | cons c r ih => rw [List.reverse_cons]; exact h1 _ _ ih
  have := this w.reverse
  rwa [List.reverse_reverse] at this
section
variable {α : Type} [DecidableEq α] (st : α → Nat → α) (l : Nat) (b : α)
def runS (b : α) (w : Tx) : α := w.foldl (fun a c => st a (c - 97)) b
theorem runS_snoc (w : Tx) (c : Nat) : runS st b (w ++ [c]) = st (runS st b w) (c - 97) := by
  unfold runS
  rw [List.foldl_append]
  rfl
/-- the nodes in their order -/
structure BV (k : Nat) (L : List (Tx × α)) : Prop where
  run : ∀ x, x ∈ L → x.2 = runS st b x.1 ∧ inW l x.1
  up : L.Pairwise fun x y => valW l x.1 < valW l y.1
  top : ∀ x y, x ∈ L → L[k]? = some y → valW l x.1 ≤ l * valW l y.1
  ne : ([], b) ∈ L
  don : ∀ (i : Nat) (y : Tx × α), i < k → L[i]? = some y → ∀ c, c < l → ∃ z, z ∈ L ∧ z.2 = st y.2 c ∧ valW l z.1 ≤ l * valW l y.1 + c + 1
/-- while one node is looked at -/
structure BM (k : Nat) (x : Tx × α) (j : Nat) (L : List (Tx × α)) : Prop where
  run : ∀ x, x ∈ L → x.2 = runS st b x.1 ∧ inW l x.1
  up : L.Pairwise fun x y => valW l x.1 < valW l y.1
  at_ : L[k]? = some x
  top : ∀ z, z ∈ L → valW l z.1 ≤ l * valW l x.1 + j
  ne : ([], b) ∈ L
  don : ∀ (i : Nat) (y : Tx × α), i < k → L[i]? = some y → ∀ c, c < l → ∃ z, z ∈ L ∧ z.2 = st y.2 c ∧ valW l z.1 ≤ l * valW l y.1 + c + 1
  now : ∀ c, c < j → ∃ z, z ∈ L ∧ z.2 = st x.2 c ∧ valW l z.1 ≤ l * valW l x.1 + c + 1
theorem bm_step {k j : Nat} {x : Tx × α} {L : List (Tx × α)} (h : BM st l b k x j L) (hj : j < l) : BM st l b k x (j + 1) (bGrow st x L j) := by
  have hx := h.run x (List.mem_of_getElem? h.at_)
  by_cases hin : st x.2 j ∈ L.map (·.2)
  · rw [bGrow_in st hin]
    obtain ⟨z, hz, e⟩ := List.mem_map.mp hin
    refine ⟨h.run, h.up, h.at_, fun z hz => by have := h.top z hz; omega, h.ne, h.don, fun c hc => ?_⟩
    by_cases hcj : c = j
    · subst hcj
      exact ⟨z, hz, e, by have := h.top z hz; omega⟩
    · exact h.now c (by omega)
  · rw [bGrow_out st hin]
    have hv : valW l (x.1 ++ [97 + j]) = l * valW l x.1 + j + 1 := by rw [valW_snoc]; omega
    have hk := (List.getElem?_eq_some_iff.mp h.at_).1
    refine ⟨fun z hz => ?_, ?_, ?_, fun z hz => ?_, by simp [h.ne], fun i y hi e c hc => ?_, fun c hc => ?_⟩
    · rcases List.mem_append.mp hz with z1 | z1
      · exact h.run z z1
      · rw [List.mem_singleton.mp z1]
        refine ⟨by show st x.2 j = runS st b (x.1 ++ [97 + j]); rw [runS_snoc, ← hx.1, Nat.add_sub_cancel_left], fun c hc => ?_⟩
        rcases List.mem_append.mp hc with z2 | z2
        · exact hx.2 c z2
        · rw [List.mem_singleton.mp z2]; omega
    · rw [List.pairwise_append]
      refine ⟨h.up, List.pairwise_singleton .., fun z hz y hy => ?_⟩
      rw [List.mem_singleton.mp hy]
      show _ < valW l (x.1 ++ [97 + j])
      have := h.top z hz
      omega
    · rw [List.getElem?_append_left hk]; exact h.at_
    · rcases List.mem_append.mp hz with z1 | z1
      · have := h.top z z1; omega
      · rw [List.mem_singleton.mp z1]
        show valW l (x.1 ++ [97 + j]) ≤ _
        omega
    · rw [List.getElem?_append_left (by omega)] at e
      obtain ⟨z, hz, e2⟩ := h.don i y hi e c hc
      exact ⟨z, by simp [hz], e2⟩
    · by_cases hcj : c = j
      · subst hcj
        exact ⟨(x.1 ++ [97 + c], st x.2 c), by simp, rfl, by show valW l (x.1 ++ [97 + c]) ≤ _; omega⟩
      · obtain ⟨z, hz, e2⟩ := h.now c (by omega)
        exact ⟨z, by simp [hz], e2⟩
theorem bm_to {k : Nat} {x : Tx × α} {L : List (Tx × α)} (h : BM st l b k x 0 L) : ∀ j, j ≤ l → BM st l b k x j (bGrowTo st x L j)
  | 0, _ => h
  | j + 1, hj => by
    rw [bGrowTo_succ]
    exact bm_step st l b (bm_to h j (by omega)) (by omega)
theorem bv_all : ∀ k, BV st l b k (bSeq st l b k)
  | 0 => ⟨fun x hx => by rw [List.mem_singleton.mp hx]; exact ⟨rfl, fun c hc => by cases hc⟩, List.pairwise_singleton .., fun x y hx hy => by rw [List.mem_singleton.mp hx]; exact Nat.zero_le _, List.mem_singleton.mpr rfl, fun i y hi => by omega⟩
  | k + 1 => by
    have ih := bv_all k
    rw [bSeq]
    split
    · rename_i x hx
      have m := bm_to st l b (k := k) (x := x) ⟨ih.run, ih.up, hx, fun z hz => ih.top z x hz hx, ih.ne, ih.don, fun c hc => by omega⟩ l (Nat.le_refl l)
      have hk := (List.getElem?_eq_some_iff.mp m.at_).1
      refine ⟨m.run, m.up, fun z y hz hy => ?_, m.ne, fun i y hi e c hc => ?_⟩
      · have hk1 := (List.getElem?_eq_some_iff.mp hy).1
        have h1 := List.pairwise_iff_getElem.mp m.up k (k + 1) hk hk1 (by omega)
        rw [(List.getElem?_eq_some_iff.mp hy).2, (List.getElem?_eq_some_iff.mp m.at_).2] at h1
        have h2 := m.top z hz
        have h3 := Nat.mul_le_mul_left l (by omega : valW l x.1 + 1 ≤ valW l y.1)
        rw [Nat.mul_add] at h3
        omega
      · by_cases hik : i = k
        · subst hik
          rw [m.at_] at e
          cases e
          exact m.now c hc
        · exact m.don i y (by omega) e c hc
    · rename_i hx
      have hx' : (bSeq st l b k).length ≤ k := List.getElem?_eq_none_iff.mp hx
      refine ⟨ih.run, ih.up, fun z y hz hy => ?_, ih.ne, fun i y hi e c hc => ?_⟩
      · rw [List.getElem?_eq_none (by omega)] at hy
        cases hy
      · have := (List.getElem?_eq_some_iff.mp e).1
        exact ih.don i y (by omega) e c hc
/-- each word leads to a node that is there, with a word that is no greater -/
theorem bAll_has {N : Nat} (hN : (bSeq st l b N).length ≤ N) (w : Tx) (hw : inW l w) : ∃ z, z ∈ bSeq st l b N ∧ z.2 = runS st b w ∧ valW l z.1 ≤ valW l w := by
  have v := bv_all st l b N
  induction w using snoc_ind with
  | h0 => exact ⟨_, v.ne, rfl, Nat.le_refl _⟩
  | h1 w c ih =>
    obtain ⟨h1, h2, h3⟩ := hw.init
    obtain ⟨z, hz, e, le⟩ := ih h1
    obtain ⟨i, hi, rfl⟩ := List.getElem_of_mem hz
    obtain ⟨y, hy, e2, le2⟩ := v.don i _ (by omega) (List.getElem?_eq_getElem hi) (c - 97) (by omega)
    refine ⟨y, hy, by rw [runS_snoc, ← e, e2], ?_⟩
    rw [valW_snoc]
    have := Nat.mul_le_mul_left l le
    omega
theorem valW_inj : ∀ u v : Tx, inW l u → inW l v → valW l u = valW l v → u = v := fun u => by
  induction u using snoc_ind with
  | h0 =>
    intro v
    induction v using snoc_ind with
    | h0 => exact fun _ _ _ => rfl
    | h1 v d _ => intro _ _ e; rw [valW_snoc, valW_nil] at e; omega
  | h1 u c ih =>
    intro v
    induction v using snoc_ind with
    | h0 => intro _ _ e; rw [valW_snoc, valW_nil] at e; omega
    | h1 v d _ =>
      intro hu hv e
      obtain ⟨u1, u2, u3⟩ := hu.init
      obtain ⟨v1, v2, v3⟩ := hv.init
      rw [valW_snoc, valW_snoc] at e
      have e1 : l * valW l u + (c - 97) = l * valW l v + (d - 97) := by omega
      have l0 : 0 < l := by omega
      have e2 := congrArg (· / l) e1
      have e3 := congrArg (· % l) e1
      simp only [Nat.mul_add_div l0, Nat.mul_add_mod, Nat.div_eq_of_lt (show c - 97 < l by omega), Nat.div_eq_of_lt (show d - 97 < l by omega), Nat.mod_eq_of_lt (show c - 97 < l by omega), Nat.mod_eq_of_lt (show d - 97 < l by omega)] at e2 e3
      rw [ih v u1 v1 (by omega), show c = d by omega]
/-- a word is the least one of a kind, or there is none -/
def LeastIs (l : Nat) (p : Tx → Bool) : Option Tx → Prop
  | some w => inW l w ∧ p w = true ∧ ∀ u, inW l u → valW l u < valW l w → p u = false
  | none => ∀ u, inW l u → p u = false
/-- the word that is found is the least one -/
theorem bFind_least {N : Nat} (hN : (bSeq st l b N).length ≤ N) (f : α → Bool) : LeastIs l (fun u => f (runS st b u)) (bFind st l b N f) := by
  have v := bv_all st l b N
  unfold bFind bAll
  cases hf : (bSeq st l b N).find? fun x => f x.2 with
  | none =>
    intro u hu
    obtain ⟨z, hz, e, _⟩ := bAll_has st l b hN u hu
    have := List.find?_eq_none.mp hf z hz
    show f (runS st b u) = false
    rw [← e]
    simpa using this
  | some x =>
    obtain ⟨fx, as, bs, eL, has⟩ := List.find?_eq_some_iff_append.mp hf
    have hx : x ∈ bSeq st l b N := by rw [eL]; simp
    obtain ⟨e1, e2⟩ := v.run x hx
    refine ⟨e2, by show f (runS st b x.1) = true; rw [← e1]; exact fx, fun u hu hlt => ?_⟩
    have hlt' : valW l u < valW l x.1 := hlt
    clear hlt
    obtain ⟨z, hz, e, le⟩ := bAll_has st l b hN u hu
    show f (runS st b u) = false
    rw [← e]
    rw [eL] at hz
    have up := v.up
    rw [eL] at up
    rcases List.mem_append.mp hz with z1 | z1
    · simpa using has z z1
    · have h2 := (List.pairwise_append.mp up).2.1
      rcases List.mem_cons.mp z1 with rfl | z2
      · omega
      · have := (List.pairwise_cons.mp h2).1 z z2
        omega
end
/-! ### all words up to a length, the least first -/
def levW (l : Nat) : Nat → List Tx
  | 0 => [[]]
  | k + 1 => (levW l k).flatMap fun w => (List.range l).map fun c => w ++ [97 + c]
def allW (l : Nat) : Nat → List Tx
  | 0 => [[]]
  | k + 1 => allW l k ++ levW l (k + 1)
theorem lev_in (l : Nat) : ∀ k w, w ∈ levW l k ↔ inW l w ∧ w.length = k
  | 0, w => by
    rw [levW, List.mem_singleton]
    constructor
    · rintro rfl; exact ⟨fun c hc => (by cases hc), rfl⟩
    · exact fun h => List.length_eq_zero_iff.mp h.2
  | k + 1, w => by
    rw [levW, List.mem_flatMap]
    constructor
    · rintro ⟨v, hv, hw⟩
      obtain ⟨c, hc, rfl⟩ := List.mem_map.mp hw
      have := List.mem_range.mp hc
      obtain ⟨h1, h2⟩ := (lev_in l k v).mp hv
      refine ⟨fun d hd => ?_, by rw [List.length_append, h2]; rfl⟩
      rcases List.mem_append.mp hd with z | z
      · exact h1 d z
      · rw [List.mem_singleton.mp z]; omega
    · rintro ⟨h1, h2⟩
      have hne : w ≠ [] := fun e => by rw [e] at h2; cases h2
      have e := List.dropLast_concat_getLast hne
      have h1' : inW l (w.dropLast ++ [w.getLast hne]) := by rw [e]; exact h1
      obtain ⟨a, b, c⟩ := h1'.init
      refine ⟨w.dropLast, (lev_in l k _).mpr ⟨a, by rw [List.length_dropLast, h2]; rfl⟩, List.mem_map.mpr ⟨w.getLast hne - 97, List.mem_range.mpr (by omega), ?_⟩⟩
      rw [show 97 + (w.getLast hne - 97) = w.getLast hne by omega, e]
theorem all_in (l : Nat) : ∀ k w, w ∈ allW l k ↔ inW l w ∧ w.length ≤ k
  | 0, w => by
    have := lev_in l 0 w
    rw [levW] at this
    rw [allW, this]
    exact ⟨fun h => ⟨h.1, by omega⟩, fun h => ⟨h.1, by omega⟩⟩
  | k + 1, w => by
    rw [allW, List.mem_append, all_in l k w, lev_in l (k + 1) w]
    constructor
    · rintro (⟨a, b⟩ | ⟨a, b⟩)
      · exact ⟨a, by omega⟩
      · exact ⟨a, by omega⟩
    · rintro ⟨a, b⟩
      by_cases h : w.length ≤ k
      · exact .inl ⟨a, h⟩
      · exact .inr ⟨a, by omega⟩
def lowW (l : Nat) : Nat → Nat
  | 0 => 0
  | k + 1 => l * lowW l k + 1
theorem low_up {l : Nat} (l1 : 1 ≤ l) (k : Nat) : lowW l k < lowW l (k + 1) := by
  rw [lowW]
  have := Nat.mul_le_mul_right (lowW l k) l1
  omega
theorem val_len {l : Nat} (l1 : 1 ≤ l) (w : Tx) (hw : inW l w) : lowW l w.length ≤ valW l w ∧ valW l w < lowW l (w.length + 1) := by
  induction w using snoc_ind with
  | h0 => exact ⟨Nat.le_refl _, by show 0 < l * 0 + 1; omega⟩
  | h1 w c ih =>
    obtain ⟨h1, h2, h3⟩ := hw.init
    obtain ⟨a, b⟩ := ih h1
    rw [valW_snoc, List.length_append]
    show lowW l (w.length + 1) ≤ _ ∧ _ < lowW l (w.length + 1 + 1)
    have b' := Nat.mul_le_mul_left l (by omega : valW l w + 1 ≤ lowW l (w.length + 1))
    have a' := Nat.mul_le_mul_left l a
    rw [Nat.mul_add] at b'
    constructor
    · show l * lowW l w.length + 1 ≤ _
      omega
    · show _ < l * lowW l (w.length + 1) + 1
      omega
theorem low_mono {l : Nat} (l1 : 1 ≤ l) {i j : Nat} (h : i ≤ j) : lowW l i ≤ lowW l j := by
  induction h with
  | refl => exact Nat.le_refl _
  | step _ ih => exact Nat.le_trans ih (Nat.le_of_lt (low_up l1 _))
theorem val_lt_of_len {l : Nat} (l1 : 1 ≤ l) {u v : Tx} (hu : inW l u) (hv : inW l v) (h : u.length < v.length) : valW l u < valW l v := by
  have a := (val_len l1 u hu).2
  have b := (val_len l1 v hv).1
  have c := low_mono l1 (show u.length + 1 ≤ v.length by omega)
  omega
theorem lev_up {l : Nat} : ∀ k, (levW l k).Pairwise fun u v => valW l u < valW l v
  | 0 => List.pairwise_singleton ..
  | k + 1 => by
    rw [levW, List.flatMap_def, List.pairwise_flatten]
    constructor
    · intro L hL
      obtain ⟨w, hw, rfl⟩ := List.mem_map.mp hL
      rw [List.pairwise_map]
      refine List.pairwise_lt_range.imp fun {a b} h => ?_
      rw [valW_snoc, valW_snoc]
      omega
    · rw [List.pairwise_map]
      refine (lev_up k).imp fun {u v} h x hx y hy => ?_
      obtain ⟨c, hc, rfl⟩ := List.mem_map.mp hx
      obtain ⟨d, hd, rfl⟩ := List.mem_map.mp hy
      rw [valW_snoc, valW_snoc]
      have := List.mem_range.mp hc
      have h3 := Nat.mul_le_mul_left l (by omega : valW l u + 1 ≤ valW l v)
      rw [Nat.mul_add] at h3
      omega
theorem all_up {l : Nat} (l1 : 1 ≤ l) : ∀ k, (allW l k).Pairwise fun u v => valW l u < valW l v
  | 0 => List.pairwise_singleton ..
  | k + 1 => by
    rw [allW, List.pairwise_append]
    refine ⟨all_up l1 k, lev_up (k + 1), fun u hu v hv => ?_⟩
    obtain ⟨a, b⟩ := (all_in l k u).mp hu
    obtain ⟨c, d⟩ := (lev_in l (k + 1) v).mp hv
    exact val_lt_of_len l1 a c (by omega)
/-- the first one of the short words -/
theorem first_short {l : Nat} (l1 : 1 ≤ l) (k : Nat) (p : Tx → Bool) (o : Option Tx) (h : LeastIs l p o) : ((allW l k).filter p).take 1 = o.toList.filter fun w => decide (w.length ≤ k) := by
  have hd : ((allW l k).filter p).take 1 = ((allW l k).find? p).toList := by
    rw [← List.head?_filter]
    cases (allW l k).filter p <;> rfl
  rw [hd]
  cases o with
  | none =>
    have : (allW l k).find? p = none := List.find?_eq_none.mpr fun u hu => by rw [h u ((all_in l k u).mp hu).1]; simp
    rw [this]
    rfl
  | some w =>
    obtain ⟨h1, h2, h3⟩ := h
    have e0 : ((some w).toList.filter fun w => decide (w.length ≤ k)) = if w.length ≤ k then [w] else [] := by by_cases hw : w.length ≤ k <;> simp [hw]
    rw [e0]
    split
    · rename_i hk
      have hw : w ∈ allW l k := (all_in l k w).mpr ⟨h1, hk⟩
      cases hf : (allW l k).find? p with
      | none => exact absurd h2 (by simpa using List.find?_eq_none.mp hf w hw)
      | some u =>
        obtain ⟨pu, as, bs, eL, has⟩ := List.find?_eq_some_iff_append.mp hf
        have hu : u ∈ allW l k := by rw [eL]; simp
        have hui := ((all_in l k u).mp hu).1
        have e : valW l u = valW l w := by
          by_cases hlt : valW l u < valW l w
          · rw [h3 u hui hlt] at pu; cases pu
          · have up := all_up l1 k
            rw [eL] at up hw
            rcases List.mem_append.mp hw with z | z
            · exact absurd (has w z) (by simp [h2])
            · rcases List.mem_cons.mp z with rfl | z
              · rfl
              · have := (List.pairwise_cons.mp (List.pairwise_append.mp up).2.1).1 w z
                omega
        rw [valW_inj l u w hui h1 e]
        rfl
    · rename_i hk
      have : (allW l k).find? p = none := List.find?_eq_none.mpr fun u hu => by
        obtain ⟨a, b⟩ := (all_in l k u).mp hu
        rw [h3 u a (val_lt_of_len l1 a h1 (by omega))]
        simp
      rw [this]
      rfl
end Lw

set_option linter.all false
set_option autoImplicit false
set_option maxRecDepth 100000
set_option Elab.async false
set_option maxHeartbeats 4000000
namespace Lw
open PySem SL
def f_need_alike : Fn := ⟨2, 2, (.cons (.ifs (.cmp .ne (.idx (.var 0) (.cst (.int 0))) (.idx (.var 1) (.cst (.int 0)))) (.cons (.rai0 "NotAlike")
    Ss.nil) Ss.nil)
    Ss.nil)⟩
def fp1b3 : Ss := (.cons (.asg (.nm 4) (.op .add (.var 4) (.cst (.int 1))))
    Ss.nil)
def fp1b2b1a0 : Ss := (.cons (.asg (.sb (.var 2) (.var 9)) (.cst (.bl true)))
    (.cons (.exp (.lm .append (.var 3) (.cons (.tup (.cons (.op .add (.var 5) (.idx (.cst (.str [97, 98, 99])) (.var 8))) (.cons (.idx (.var 9) (.cst (.int 0))) (.cons (.idx (.var 9) (.cst (.int 1))) Es.nil)))) Es.nil)))
    Ss.nil))
def fp1b2b0 : Ss := (.cons (.asg (.nm 9) (.tup (.cons (.idx (.idx (.idx (.var 0) (.cst (.int 1))) (.var 6)) (.var 8)) (.cons (.idx (.idx (.idx (.var 1) (.cst (.int 1))) (.var 7)) (.var 8)) Es.nil))))
    (.cons (.ifs (.cmp .nin (.var 9) (.var 2)) fp1b2b1a0 Ss.nil)
    Ss.nil))
def fp1b2 : Ss := (.cons (.for (.nm 8) (.rng (.idx (.var 0) (.cst (.int 0)))) fp1b2b0)
    fp1b3)
def fp1b0 : Ss := (.cons (.asg (.tp (.cons (.nm 5) (.cons (.nm 6) (.cons (.nm 7) Ts.nil)))) (.idx (.var 3) (.var 4)))
    (.cons (.ifs (.cmp .ne (.cmp .inn (.var 6) (.idx (.var 0) (.cst (.int 2)))) (.cmp .inn (.var 7) (.idx (.var 1) (.cst (.int 2))))) (.cons (.ret (.var 5))
    Ss.nil) Ss.nil)
    fp1b2))
def f_find_parting : Fn := ⟨2, 10, (.cons (.par (.cons (.nm 2) (.cons (.nm 3) (.cons (.nm 4) Ts.nil))) (.cons (.dicT (.tup (.cons (.cst (.int 0)) (.cons (.cst (.int 0)) Es.nil))) (.cst (.bl true))) (.cons (.lst (.cons (.tup (.cons (.cst (.str [])) (.cons (.cst (.int 0)) (.cons (.cst (.int 0)) Es.nil)))) Es.nil)) (.cons (.cst (.int 0)) Es.nil))))
    (.cons (.whl (.cmp .lt (.var 4) (.bi .len (.cons (.var 3) Es.nil))) fp1b0)
    (.cons (.ret (.cst .non))
    Ss.nil)))⟩
def f_parting_word : Fn := ⟨2, 2, (.cons (.exp (.call "need_machine" (.cons (.var 0) Es.nil)))
    (.cons (.exp (.call "need_machine" (.cons (.var 1) Es.nil)))
    (.cons (.exp (.call "need_alike" (.cons (.var 0) (.cons (.var 1) Es.nil))))
    (.cons (.ret (.call "find_parting" (.cons (.var 0) (.cons (.var 1) Es.nil))))
    Ss.nil))))⟩
/-! ### dicts whose keys are pairs -/
def pD (p : Int × Int) : D := .tup [.int p.1, .int p.2]
theorem tupK_pD (p : Int × Int) : tupK (pD p) = true := rfl
theorem keq_pD (p q : Int × Int) : keq (pD p) (pD q) = decide (p = q) := by
  show (p.1 == q.1 && (p.2 == q.2 && true)) = _
  rw [Bool.and_true, Bool.eq_iff_iff, Bool.and_eq_true, decide_eq_true_eq, beq_iff_eq, beq_iff_eq]
  exact ⟨fun h => Prod.ext h.1 h.2, fun h => by subst h; exact ⟨rfl, rfl⟩⟩
/-- the entries: pairs, and what is held at them -/
def kD {α : Type} (f : α → Int × Int) (g : α → D) (L : List α) : List (D × D) := L.map fun x => (pD (f x), g x)
section
variable {α : Type} (f : α → Int × Int) (g : α → D)
theorem fit_kD (L : List α) (p : Int × Int) : fitK (kD f g L) (pD p) = true := by
  unfold fitK
  have h2 : ((kD f g L).all fun q => tupK q.1) = true := by
    unfold kD
    rw [List.all_map, List.all_eq_true]
    exact fun _ _ => rfl
  rw [h2, tupK_pD]
  simp
theorem kget_none (p : Int × Int) : ∀ {L : List α}, p ∉ L.map f → kget (kD f g L) (pD p) = none
  | [], _ => rfl
  | x :: L, h => by
    rw [List.map_cons, List.mem_cons, not_or] at h
    have ih := kget_none p h.2
    unfold kget kD at ih ⊢
    rw [List.map_cons, List.find?_cons, keq_pD, decide_eq_false fun e => h.1 e.symm]
    exact ih
theorem kget_some : ∀ {L : List α} {x : α}, (L.map f).Nodup → x ∈ L → kget (kD f g L) (pD (f x)) = some (g x)
  | [], _, _, h => by cases h
  | y :: L, x, nd, h => by
    rw [List.map_cons, List.nodup_cons] at nd
    unfold kget kD
    rw [List.map_cons, List.find?_cons, keq_pD]
    rcases List.mem_cons.mp h with rfl | h
    · rw [decide_eq_true rfl]
      rfl
    · have hne : ¬ f y = f x := fun e => nd.1 (by rw [e]; exact List.mem_map_of_mem h)
      rw [decide_eq_false hne]
      exact kget_some nd.2 h
theorem kget_is (p : Int × Int) (L : List α) : (kget (kD f g L) (pD p)).isSome = decide (p ∈ L.map f) := by
  induction L with
  | nil => rfl
  | cons x L ih =>
    unfold kget kD at ih ⊢
    rw [List.map_cons, List.find?_cons, keq_pD, List.map_cons]
    by_cases h : f x = p
    · rw [decide_eq_true h]
      simp [h]
    · rw [decide_eq_false h]
      have h' : ¬ p = f x := fun e => h e.symm
      simp only [List.mem_cons, h', false_or]
      exact ih
theorem kput_new (p : Int × Int) (v : D) : ∀ {L : List α}, p ∉ L.map f → kput (kD f g L) (pD p) v = kD f g L ++ [(pD p, v)]
  | [], _ => rfl
  | x :: L, h => by
    rw [List.map_cons, List.mem_cons, not_or] at h
    have ih := kput_new p v h.2
    unfold kD at ih ⊢
    rw [List.map_cons, kput, keq_pD, decide_eq_false fun e => h.1 e.symm, ih]
    rfl
end
theorem pd0 {h : Hp} (p : Int × Int) (Q : TV → Prop) : idx h (.d (pD p)) (.d (.int 0)) Q = Q (.d (.int p.1)) := by simp [idx, pD, L2.atI, L2.ixN]
theorem pd1 {h : Hp} (p : Int × Int) (Q : TV → Prop) : idx h (.d (pD p)) (.d (.int 1)) Q = Q (.d (.int p.2)) := by simp [idx, pD, L2.atI, L2.ixN]
theorem sidx {h : Hp} {z : Tx} {i : Int} (Q : TV → Prop) : idx h (.d (.str z)) (.d (.int i)) Q = (match L2.atI z i with
    | some c => z.length ≤ sz ∧ Q (.d (.str [c]))
    | none => False) := rfl
theorem set2a {h : Hp} {a b o : O} : (h ++ [a, b]).set h.length o = h ++ [o, b] := by
  rw [List.set_append, if_neg (Nat.lt_irrefl _), Nat.sub_self]
  rfl
theorem set2b {h : Hp} {a b o : O} : (h ++ [a, b]).set (h.length + 1) o = h ++ [a, o] := by
  rw [List.set_append, if_neg (by omega), Nat.add_sub_cancel_left]
  rfl
def tupQ (x : Nd) : D := .tup [.str x.1, .int x.2.1, .int x.2.2]
abbrev kT (L : List Nd) : List (D × D) := kD (fun x : Nd => x.2) (fun _ => .bl true) L
abbrev fpH (h : Hp) (L : List Nd) : Hp := h ++ [.dic (kT L), .lst (L.map tupQ)]
theorem abc_idx {c : Nat} (hc : c < 3) : L2.atI ([97, 98, 99] : List Nat) (c : Int) = some (97 + c) := by
  have : c = 0 ∨ c = 1 ∨ c = 2 := by omega
  rcases this with rfl | rfl | rfl <;> rfl
theorem grow_in {m o : Mach} {x : Nd} {L : List Nd} {c : Nat} (h : (toM m x.2.1 c, toM o x.2.2 c) ∈ L.map (·.2)) : grow m o x L c = L := if_pos h
theorem grow_out {m o : Mach} {x : Nd} {L : List Nd} {c : Nat} (h : (toM m x.2.1 c, toM o x.2.2 c) ∉ L.map (·.2)) : grow m o x L c = L ++ [(x.1 ++ [97 + c], toM m x.2.1 c, toM o x.2.2 c)] := if_neg h
/-- one letter -/
theorem fp_turn {P : Prog} {n : Nat} {m o : Mach} (k : MachOk m) (k2 : MachOk o) (hl : m.l = o.l) {x : Nd} {nn : Nat} (hx : NdOk m o nn x) (hn : nn ≤ 5000) {L : List Nd} {c : Nat} (hc : (c : Int) < m.l) (hL : L.length ≤ 5000) {h : Hp} {e : En} {x4 x9 : Option D} (he : e.xr = fun _ _ _ _ => False)
    (q : ∀ y9, e.nx [some (mD m), some (mD o), some (.ref h.length), some (.ref (h.length + 1)), x4, some (.str x.1), some (.int x.2.1), some (.int x.2.2), some (.int c), y9] (fpH h (grow m o x L c))) :
    dSs ⟨callN P n⟩ fp1b2b0 e [some (mD m), some (mD o), some (.ref h.length), some (.ref (h.length + 1)), x4, some (.str x.1), some (.int x.2.1), some (.int x.2.2), some (.int c), x9] (fpH h L) := by
  obtain ⟨e1, e2, e3, e4, e5⟩ := e
  cases he
  have l3 := k.l3
  obtain ⟨_, _, r, a1, a2⟩ := to_in k hx.a0 hx.a1 hc
  obtain ⟨_, _, r2, b1, b2⟩ := to_in k2 hx.b0 hx.b1 (by omega : (c : Int) < o.l)
  have ec := abc_idx (c := c) (by omega)
  have d1 : (fpH h L)[h.length]? = some (.dic (kT L)) := at_end1
  have hx1 := hx.w.1
  simp [fp1b2b0, dSs, dS, dT, dEs, dTs, dIfs, dI, dTg, dTgs, lay, tst, ini, tsLen, SL.bi, SL.lm, SL.lmT, SL.cmp, op2, SL.wipe, m1]
  simp [idx, a1, a2, b1, b2, sz]
  have ep : D.tup [.int (toM m x.2.1 c), .int (toM o x.2.2 c)] = pD (toM m x.2.1 c, toM o x.2.2 c) := rfl
  rw [ep]
  simp only [inn, at_end1]
  refine ⟨fit_kD _ _ L _, ?_⟩
  rw [kget_is]
  by_cases hin : (toM m x.2.1 c, toM o x.2.2 c) ∈ L.map (·.2)
  · have hg := grow_in hin
    rw [decide_eq_true hin]
    simp [tru]
    have := q (some (pD (toM m x.2.1 c, toM o x.2.2 c)))
    rw [hg] at this
    exact this
  · have hg := grow_out hin
    rw [decide_eq_false hin]
    simp [tru, fp1b2b1a0, dSs, dS, dT, dEs, dTs, dIfs, dI, dTg, dTgs, lay, tst, ini, tsLen, SL.bi, SL.lm, SL.lmT, SL.cmp, op2, SL.wipe]
    refine ⟨fit_kD _ _ L _, by unfold kT kD; rw [List.length_map]; simp only [sz]; omega, ?_⟩
    rw [kput_new _ _ _ _ hin]
    simp [lmOk, lstOf, pd0, pd1, sidx, ec, addD, lmAppend, sz]
    refine ⟨by omega, by omega, ?_⟩
    have := q (some (pD (toM m x.2.1 c, toM o x.2.2 c)))
    rw [hg] at this
    simpa [fpH, kT, kD, tupQ, pD] using this
end Lw

set_option linter.all false
set_option autoImplicit false
set_option maxRecDepth 100000
set_option Elab.async false
set_option maxHeartbeats 4000000
namespace Lw
open PySem SL
def pwD (m o : Mach) : D := match partM m o with
  | some w => .str w
  | none => .non
theorem gcN {h g : Hp} {v : D} {Q : D → Hp → Prop} (hv : clo h.length v = true) (q : Q v h) : gcq h Q v (h ++ g) := .inr (.inl ⟨h, g, rfl, ⟨rfl, fun i o e => .inl e⟩, hv, q⟩)
theorem bb_ne {h : Hp} {a b : Bool} {Q : Bool → Prop} (q : Q (a == b)) : eqD h (.d (.bl a)) (.d (.bl b)) Q := by
  have e1 : rdT h (.d (.bl a)) = some (.bool a) := rfl
  have e2 : rdT h (.d (.bl b)) = some (.bool b) := rfl
  simp only [eqD, e1, e2, PyData.eqv]
  exact q
theorem seq_len {m o : Mach} (k : MachOk m) (k2 : MachOk o) (hl : m.l = o.l) (n : Nat) : (seqL m o n).length ≤ m.rows.length * o.rows.length := (seq_ok k k2 hl n).len
theorem nn_le {m o : Mach} (k : MachOk m) (k2 : MachOk o) : m.rows.length * o.rows.length ≤ 1024 := Nat.mul_le_mul k.n32 k2.n32
theorem ridx {h : Hp} {l : Nat} {xs : List D} {i : Int} {d : D} {Q : TV → Prop} (e : h[l]? = some (.lst xs)) (ea : L2.atI xs i = some d) : idx h (.d (.ref l)) (.d (.int i)) Q = Q (.d d) := by
  simp only [idx, e, ea]
/-- one pair -/
theorem fp_step {P : Prog} {n : Nat} {m o : Mach} (k : MachOk m) (k2 : MachOk o) (hl : m.l = o.l) {j : Nat} {x : Nd} (hj : j ≤ m.rows.length * o.rows.length) (hx : (seqL m o j)[j]? = some x) {h : Hp} {e : En} {x5 x6 x7 x8 x9 : Option D} (he : e.xr = fun _ _ _ _ => False)
    (r : differ m o x = true → e.rt (.str x.1) (fpH h (seqL m o j)))
    (q : differ m o x = false → ∀ y5 y6 y7 y8 y9, e.nx [some (mD m), some (mD o), some (.ref h.length), some (.ref (h.length + 1)), some (.int (j + 1 : Nat)), y5, y6, y7, y8, y9] (fpH h (seqL m o (j + 1)))) :
    dSs ⟨callN P n⟩ fp1b0 e [some (mD m), some (mD o), some (.ref h.length), some (.ref (h.length + 1)), some (.int j), x5, x6, x7, x8, x9] (fpH h (seqL m o j)) := by
  obtain ⟨e1, e2, e3, e4, e5⟩ := e
  cases he
  have nn := nn_le k k2
  have hxo := (seq_ok k k2 hl j).ok x (List.mem_of_getElem? hx)
  have hjl := (List.getElem?_eq_some_iff.mp hx).1
  have l1 := k.l1
  have l3 := k.l3
  have ea : L2.atI ((seqL m o j).map tupQ) (j : Int) = some (tupQ x) := by
    simp only [L2.atI, L2.ixN, List.length_map]
    rw [if_pos (by omega), if_pos (by omega)]
    show ((seqL m o j).map tupQ)[(j : Int).toNat]? = _
    rw [Int.toNat_natCast, List.getElem?_map, hx]
    rfl
  simp [fp1b0, dSs, dS, dT, dEs, dTs, dIfs, dI, dTg, dTgs, lay, tst, ini, tsLen, SL.bi, SL.lm, SL.lmT, SL.cmp, op2, SL.wipe]
  rw [ridx at_end2 ea]
  simp [tupQ, dSs, dS, dT, dEs, dTs, dIfs, dI, dTg, dTgs, lay, tst, ini, tsLen, SL.bi, SL.lm, SL.lmT, SL.cmp, op2, SL.wipe, m2]
  refine inn_ends ?_
  refine inn_ends ?_
  refine bb_ne ?_
  have hd : (decide (x.2.1 ∈ m.ends) == decide (x.2.2 ∈ o.ends)) = !differ m o x := by
    unfold differ
    cases decide (x.2.1 ∈ m.ends) <;> cases decide (x.2.2 ∈ o.ends) <;> rfl
  rw [hd]
  cases hdf : differ m o x with
  | true =>
    simp [tru]
    exact r hdf
  | false =>
    simp [tru, fp1b2, dSs, dS, dT, dEs, dTs, dIfs, dI, dTg, dTgs, lay, tst, ini, tsLen, SL.bi, SL.lm, SL.lmT, SL.cmp, op2, SL.wipe, m0, sz]
    refine ⟨by omega, by omega, ?_⟩
    refine for_rng (fun _ => trivial) m.l.toNat (fun c s H => ∃ (y8 y9 : Option D), s = [some (mD m), some (mD o), some (.ref h.length), some (.ref (h.length + 1)), some (.int j), some (.str x.1), some (.int x.2.1), some (.int x.2.2), y8, y9] ∧ H = fpH h (growTo m o x (seqL m o j) c)) ?_ ?_ _ _ ⟨_, _, rfl, rfl⟩
    · rintro c s H hc ⟨y8, y9, rfl, rfl⟩ Nx hN
      simp [dTg]
      have gl := (growTo_ok k k2 hl hxo ((seq_ok k k2 hl j).mono (by omega)) c (by omega)).len
      exact fp_turn (e := ⟨Nx, _, _, Nx, _⟩) k k2 hl hxo (by omega) (by omega) (by omega) rfl fun y9 => hN _ _ ⟨_, _, rfl, by rw [growTo_succ]⟩
    · rintro s H ⟨y8, y9, rfl, rfl⟩
      have es : growTo m o x (seqL m o j) m.l.toNat = seqL m o (j + 1) := by rw [seqL, hx]
      rw [es]
      simp [fp1b3, dSs, dS, dT, dEs, dTs, dIfs, dI, dTg, dTgs, lay, tst, ini, tsLen, SL.bi, SL.lm, SL.lmT, SL.cmp, op2, SL.wipe, addD]
      have := q hdf (some (.str x.1)) (some (.int x.2.1)) (some (.int x.2.2)) y8 y9
      simpa using this
theorem sp_find_parting {P : Prog} (hf : P.lookup "find_parting" = some f_find_parting) {n : Nat} {m o : Mach} (k : MachOk m) (k2 : MachOk o) (hl : m.l = o.l) {h : Hp} {Q : D → Hp → Prop} (q : Q (pwD m o) h) : callN P (n + 1) "find_parting" [mD m, mD o] h Q R0' := by
  refine call_go hf rfl ?_
  have nn := nn_le k k2
  simp [f_find_parting, dSs, dS, dT, dEs, dTs, dIfs, dI, dTg, dTgs, lay, tst, ini, tsLen, SL.bi, SL.lm, SL.lmT, SL.cmp, op2, SL.wipe, sz]
  refine ⟨rfl, ?_⟩
  refine ⟨fun mm s H => ∃ (j : Nat) (x5 x6 x7 x8 x9 : Option D), mm = m.rows.length * o.rows.length + 1 - j ∧ j ≤ m.rows.length * o.rows.length ∧ s = [some (mD m), some (mD o), some (.ref h.length), some (.ref (h.length + 1)), some (.int j), x5, x6, x7, x8, x9] ∧ H = fpH h (seqL m o j) ∧
    ∀ (i : Nat) (y : Nd), i < j → (seqL m o j)[i]? = some y → differ m o y = false, ⟨_, 0, _, _, _, _, _, rfl, Nat.zero_le _, rfl, rfl, fun i y hi => by omega⟩, ?_⟩
  rintro mm s H ⟨j, x5, x6, x7, x8, x9, rfl, hj, rfl, rfl, hd⟩
  have sl := seq_len k k2 hl j
  simp [dSs, dS, dT, dEs, dTs, dIfs, dI, dTg, dTgs, lay, tst, ini, tsLen, SL.bi, SL.lm, SL.lmT, SL.cmp, op2, SL.wipe, biLen, SL.len, ordD, tst, tru, at_end2]
  by_cases hlt : j < (seqL m o j).length
  · rw [if_pos hlt]
    have hx : (seqL m o j)[j]? = some (seqL m o j)[j] := List.getElem?_eq_getElem hlt
    generalize (seqL m o j)[j] = x at hx
    refine ⟨_, fun _ _ z => z, ?_⟩
    refine fp_step (e := ⟨_, _, _, _, _⟩) k k2 hl hj hx rfl (fun h3 => ?_) fun h3 y5 y6 y7 y8 y9 => ?_
    · have e : pwD m o = .str x.1 := by
        unfold pwD
        rw [part_at hj hd hx h3]
      rw [← e]
      exact gcN (by rw [e]; rfl) q
    · refine ⟨m.rows.length * o.rows.length + 1 - (j + 1), by omega, j + 1, rfl, by omega, ⟨_, _, _, _, _, rfl⟩, rfl, fun i a b c hi he => ?_⟩
      obtain ⟨g, eg⟩ := seq_step m o j
      by_cases hij : i < j
      · refine hd i _ hij ?_
        rw [eg, List.getElem?_append_left (by omega)] at he
        exact he
      · have : i = j := by omega
        subst this
        rw [eg, List.getElem?_append_left hlt, hx] at he
        cases he
        exact h3
  · rw [if_neg hlt]
    have e : pwD m o = .non := by
      unfold pwD
      rw [part_none hj hd (by omega)]
    rw [← e]
    exact gcN (by rw [e]; rfl) q
theorem sp_need_alike {P : Prog} (hf : P.lookup "need_alike" = some f_need_alike) {n : Nat} {m o : Mach} (hl : m.l = o.l) {h : Hp} {Q : D → Hp → Prop} (q : Q .non h) : callN P (n + 1) "need_alike" [mD m, mD o] h Q R0' := by
  refine call_go hf rfl ?_
  simp [f_need_alike, dSs, dS, dT, dEs, dTs, dIfs, dI, dTg, dTgs, lay, tst, ini, tsLen, SL.bi, SL.lm, SL.lmT, SL.cmp, op2, SL.wipe, m0, eqD, rdT, rd, eqv_int, hl, tru]
  exact gc0 q
theorem sp_parting {P : Prog} (hP : KN P) (ha : P.lookup "need_alike" = some f_need_alike) (hfp : P.lookup "find_parting" = some f_find_parting) (hf : P.lookup "parting_word" = some f_parting_word) {n : Nat} {m o : Mach} (k : MachOk m) (k2 : MachOk o) (hl : m.l = o.l) {h : Hp} {Q : D → Hp → Prop} (q : Q (pwD m o) h) : callN P (n + 5) "parting_word" [mD m, mD o] h Q R0' := by
  refine call_go hf rfl ?_
  simp [f_parting_word, dSs, dS, dT, dEs, dTs, dIfs, dI, dTg, dTgs, lay, tst, ini, tsLen, SL.bi, SL.lm, SL.lmT, SL.cmp, op2, SL.wipe]
  refine sp_need hP k (sp_need hP k2 (sp_need_alike ha hl (sp_find_parting hfp k k2 hl (gc0 q))))
end Lw

set_option linter.all false
set_option autoImplicit false
set_option maxRecDepth 100000
set_option Elab.async false
set_option maxHeartbeats 1000000
namespace Lw
open PySem SL
/-! ### searches, walked -/
section
variable {α : Type} [DecidableEq α] {kf : α → D}
/-- the heap of a search: the met ones, the queue, and what was made since -/
def BfH (kf : α → D) (gv gq : Tx × α → D) (h : Hp) (L : List (Tx × α)) (H : Hp) : Prop := ∃ g, H = h ++ (O.dic (kF kf (fun x => x.2) gv L) :: O.lst (L.map gq) :: g)
variable {gv gq : Tx × α → D} {h H : Hp} {L : List (Tx × α)}
theorem BfH.app (x : BfH kf gv gq h L H) (o : O) : BfH kf gv gq h L (H ++ [o]) := by
  obtain ⟨g, rfl⟩ := x
  exact ⟨g ++ [o], by simp⟩
theorem BfH.grow (x : BfH kf gv gq h L H) {H' : Hp} (y : Gr H H') : BfH kf gv gq h L H' := by
  obtain ⟨g, rfl⟩ := x
  obtain ⟨g', rfl⟩ := y
  exact ⟨g ++ g', by simp⟩
theorem BfH.at0 (x : BfH kf gv gq h L H) : H[h.length]? = some (.dic (kF kf (fun x => x.2) gv L)) := by
  obtain ⟨g, rfl⟩ := x
  rw [List.getElem?_append_right (Nat.le_refl _), Nat.sub_self]
  rfl
theorem BfH.at1 (x : BfH kf gv gq h L H) : H[h.length + 1]? = some (.lst (L.map gq)) := by
  obtain ⟨g, rfl⟩ := x
  rw [List.getElem?_append_right (by omega), Nat.add_sub_cancel_left]
  rfl
theorem BfH.len (x : BfH kf gv gq h L H) : h.length + 2 ≤ H.length := by
  obtain ⟨g, rfl⟩ := x
  simp
theorem BfH.old (x : BfH kf gv gq h L H) {i : Nat} {o : O} (e : h[i]? = some o) : H[i]? = some o := by
  obtain ⟨g, rfl⟩ := x
  rw [List.getElem?_append_left (List.getElem?_eq_some_iff.mp e).1]
  exact e
theorem BfH.more (x : BfH kf gv gq h L H) (y : Tx × α) : BfH kf gv gq h (L ++ [y]) ((H.set h.length (.dic (kF kf (fun x => x.2) gv L ++ [(kf y.2, gv y)]))).set (h.length + 1) (.lst (L.map gq ++ [gq y]))) := by
  obtain ⟨g, rfl⟩ := x
  refine ⟨g, ?_⟩
  rw [List.set_append_right _ _ (Nat.le_refl _), Nat.sub_self, List.set_cons_zero, List.set_append_right _ _ (by omega), Nat.add_sub_cancel_left, List.set_cons_succ, List.set_cons_zero]
  simp [kF]
/-- behind a search: nothing of it stays -/
theorem BfH.end_ (x : BfH kf gv gq h L H) {v : D} {Q : D → Hp → Prop} (hv : clo h.length v = true) (q : Q v h) : gcq h Q v H := by
  obtain ⟨g, rfl⟩ := x
  exact gcN hv q
theorem lmq_at (x : BfH kf gv gq h L H) {j : Nat} {y : Tx × α} (hj : L[j]? = some y) : L2.atI (L.map gq) (j : Int) = some (gq y) := by
  have hjl := (List.getElem?_eq_some_iff.mp hj).1
  simp only [L2.atI, L2.ixN, List.length_map]
  rw [if_pos (by omega), if_pos (by omega)]
  show (L.map gq)[(j : Int).toNat]? = _
  rw [Int.toNat_natCast, List.getElem?_map, hj]
  rfl
def gvA : Tx × α → D := fun _ => .bl true
def gqA (kf : α → D) : Tx × α → D := fun x => .tup [.str x.1, kf x.2]
def gvB : Tx × α → D := fun x => .str x.1
def gqB (kf : α → D) : Tx × α → D := fun x => kf x.2
def putAs (fv mv qv wv nv : Nat) : Ss := (.cons (.ifs (.cmp .nin (.var fv) (.var mv)) (.cons (.asg (.sb (.var mv) (.var fv)) (.cst (.bl true)))
    (.cons (.exp (.lm .append (.var qv) (.cons (.tup (.cons (.op .add (.var wv) (.idx (.cst (.str [97, 98, 99])) (.var nv))) (.cons (.var fv) Es.nil))) Es.nil)))
    Ss.nil)) Ss.nil)
    Ss.nil)
/-- the program's way to put a node in -/
theorem putA (kk : KeyF kf) (st : α → Nat → α) {P : Prog} {n : Nat} {fv mv qv wv nv c : Nat} {x : Tx × α} {s : Sto} {e : En} (hf : s[fv]? = some (some (kf (st x.2 c)))) (hm : s[mv]? = some (some (.ref h.length))) (hq : s[qv]? = some (some (.ref (h.length + 1)))) (hw : s[wv]? = some (some (.str x.1))) (hn : s[nv]? = some (some (.int c)))
    (hc : c < 3) (hl : x.1.length ≤ 100000) (hL : L.length ≤ 100000) (hH : BfH kf gvA (gqA kf) h L H)
    (q : ∀ H', BfH kf gvA (gqA kf) h (bGrow st x L c) H' → e.nx s H') : dSs ⟨callN P n⟩ (putAs fv mv qv wv nv) e s H := by
  obtain ⟨e1, e2, e3, e4, e5⟩ := e
  have ec := abc_idx (c := c) hc
  simp only [putAs, dSs, dS, dT, hf, hm, SL.cmp, tst, inn, hH.at0]
  refine ⟨fit_kF kk _ _ L _, ?_⟩
  rw [kFget_is kk]
  by_cases hin : st x.2 c ∈ L.map (·.2)
  · have hg := bGrow_in st hin
    rw [decide_eq_true hin]
    have := q H (by rw [hg]; exact hH)
    simpa [tru] using this
  · have hg := bGrow_out st hin
    rw [decide_eq_false hin]
    simp [tru, dSs, dS, dT, dTg, dEs, lay, hf, hm, hq, hw, hn, hH.at0]
    refine ⟨fit_kF kk _ _ L _, by unfold kF; rw [List.length_map]; simp only [sz]; omega, ?_⟩
    rw [kFput_new kk _ _ _ _ hin]
    have hm := hH.more (x.1 ++ [97 + c], st x.2 c)
    rw [← hg] at hm
    have ha : (H.set h.length (.dic (kF kf (fun x => x.2) gvA L ++ [(kf (st x.2 c), .bl true)])))[h.length + 1]? = some (.lst (L.map (gqA kf))) := by
      rw [List.getElem?_set_ne (by omega)]
      exact hH.at1
    simp [lmOk, lstOf, ha, SL.idx, ec, op2, addD, sz]
    refine ⟨by omega, ?_⟩
    simp [SL.lm, lmAppend, lstOf, ha, sz]
    exact ⟨by omega, q _ hm⟩
def putBs (fv mv qv av nv : Nat) : Ss := (.cons (.ifs (.cmp .nin (.var fv) (.var mv)) (.cons (.asg (.sb (.var mv) (.var fv)) (.op .add (.idx (.var mv) (.idx (.var qv) (.var av))) (.idx (.cst (.str [97, 98, 99])) (.var nv))))
    (.cons (.exp (.lm .append (.var qv) (.cons (.var fv) Es.nil)))
    Ss.nil)) Ss.nil)
    Ss.nil)
/-- the law's way -/
theorem putB (kk : KeyF kf) (st : α → Nat → α) {P : Prog} {n : Nat} {fv mv qv av nv c j : Nat} {x : Tx × α} {s : Sto} {e : En} (hf : s[fv]? = some (some (kf (st x.2 c)))) (hm : s[mv]? = some (some (.ref h.length))) (hq : s[qv]? = some (some (.ref (h.length + 1)))) (ha : s[av]? = some (some (.int j))) (hn : s[nv]? = some (some (.int c)))
    (hc : c < 3) (hl : x.1.length ≤ 100000) (hL : L.length ≤ 100000) (hx : L[j]? = some x) (nd : (L.map (·.2)).Nodup) (hH : BfH kf gvB (gqB kf) h L H)
    (q : ∀ H', BfH kf gvB (gqB kf) h (bGrow st x L c) H' → e.nx s H') : dSs ⟨callN P n⟩ (putBs fv mv qv av nv) e s H := by
  obtain ⟨e1, e2, e3, e4, e5⟩ := e
  have ec := abc_idx (c := c) hc
  simp only [putBs, dSs, dS, dT, hf, hm, SL.cmp, tst, inn, hH.at0]
  refine ⟨fit_kF kk _ _ L _, ?_⟩
  rw [kFget_is kk]
  by_cases hin : st x.2 c ∈ L.map (·.2)
  · have hg := bGrow_in st hin
    rw [decide_eq_true hin]
    have := q H (by rw [hg]; exact hH)
    simpa [tru] using this
  · have hg := bGrow_out st hin
    rw [decide_eq_false hin]
    simp [tru, dSs, dS, dT, dTg, dEs, lay, hf, hm, hq, ha, hn]
    rw [ridx hH.at1 (lmq_at hH hx)]
    simp only [SL.idx, hH.at0]
    refine ⟨fit_kF kk _ _ L _, ?_⟩
    rw [show gqB kf x = kf x.2 from rfl, kFget_some kk (fun x => x.2) gvB nd (List.mem_of_getElem? hx)]
    simp [gvB, ec, op2, addD, sz, hH.at0, SL.idx]
    refine ⟨by omega, ?_⟩
    refine ⟨fit_kF kk _ _ L _, by unfold kF; rw [List.length_map]; omega, ?_⟩
    rw [kFput_new kk _ _ _ _ hin]
    have hm := hH.more (x.1 ++ [97 + c], st x.2 c)
    rw [← hg] at hm
    have ha : (H.set h.length (.dic (kF kf (fun x => x.2) gvB L ++ [(kf (st x.2 c), .str (x.1 ++ [97 + c]))])))[h.length + 1]? = some (.lst (L.map (gqB kf))) := by
      rw [List.getElem?_set_ne (by omega)]
      exact hH.at1
    simp [gvB] at ha
    simp [lmOk, lstOf, ha, SL.lm, lmAppend, sz]
    refine ⟨by omega, ?_⟩
    have := q _ hm
    simpa [gvB, gqB] using this
variable {st : α → Nat → α} {l N : Nat} {b : α} {f : α → Bool}
/-- while at < len(queue) -/
theorem whlA {P : Prog} {n av qv : Nat} {body : Ss} {e : En} (hN : ∀ j, (bSeq st l b j).length ≤ N) (S : Nat → Sto → Prop) (hS : ∀ j s, S j s → s[av]? = some (some (.int j)) ∧ s[qv]? = some (some (.ref (h.length + 1))))
    (hb : ∀ (j : Nat) (x : Tx × α) (s : Sto) (H : Hp), j ≤ N → (bSeq st l b j)[j]? = some x → S j s → BfH kf gv gq h (bSeq st l b j) H → ∀ Nx : Sto → Hp → Prop, (f x.2 = false → ∀ s' H', S (j + 1) s' → BfH kf gv gq h (bSeq st l b (j + 1)) H' → Nx s' H') → (f x.2 = true → bFind st l b N f = some x.1) → dSs ⟨callN P n⟩ body { e with nx := Nx, ct := Nx, bk := e.nx } s H)
    (hd : ∀ (j : Nat) s H, S j s → BfH kf gv gq h (bSeq st l b j) H → bFind st l b N f = none → e.nx s H) {s : Sto} (h0 : S 0 s) (hH : BfH kf gv gq h (bSeq st l b 0) H) : dS ⟨callN P n⟩ (.whl (.cmp .lt (.var av) (.bi .len (.cons (.var qv) Es.nil))) body) e s H := by
  rw [dS]
  refine ⟨fun mm s H => ∃ j : Nat, mm = N + 1 - j ∧ j ≤ N ∧ S j s ∧ BfH kf gv gq h (bSeq st l b j) H ∧ ∀ (i : Nat) (y : Tx × α), i < j → (bSeq st l b j)[i]? = some y → f y.2 = false, ⟨_, 0, rfl, Nat.zero_le _, h0, hH, fun i y hi => by omega⟩, ?_⟩
  rintro mm s H ⟨j, rfl, hj, hs, hH, hd'⟩
  obtain ⟨s1, s2⟩ := hS j s hs
  have sl := hN j
  simp [dT, dTs, s1, s2, SL.bi, biLen, SL.len, hH.at1, SL.cmp, ordD, tst, tru]
  by_cases hlt : j < (bSeq st l b j).length
  · rw [if_pos hlt]
    have hx : (bSeq st l b j)[j]? = some (bSeq st l b j)[j] := List.getElem?_eq_getElem hlt
    generalize (bSeq st l b j)[j] = x at hx
    refine ⟨_, fun _ _ z => z, ?_⟩
    refine hb j x s H hj hx hs hH _ (fun h3 s' H' hs' hH' => ?_) fun h3 => bFind_at st l b hj hd' hx h3
    refine ⟨N + 1 - (j + 1), by omega, j + 1, rfl, by omega, hs', hH', fun i ya yb hi he => ?_⟩
    obtain ⟨g, eg⟩ := bSeq_step st l b j
    by_cases hij : i < j
    · refine hd' i (ya, yb) hij ?_
      rw [eg, List.getElem?_append_left (by omega)] at he
      exact he
    · have : i = j := by omega
      subst this
      rw [eg, List.getElem?_append_left hlt, hx] at he
      cases he
      exact h3
  · rw [if_neg hlt]
    exact hd j s H hs hH (bFind_none st l b hj hd' (by omega))
/-- for at in range(..) -/
theorem forB {turn : D → (Sto → Hp → Prop) → Sto → Hp → Prop} {nx : Sto → Hp → Prop} {M : Nat} (hM : N < M) (hN : ∀ j, (bSeq st l b j).length ≤ N) (S : Nat → Sto → Prop)
    (hb : ∀ (j : Nat) (s : Sto) (H : Hp), j ≤ N → S j s → BfH kf gv gq h (bSeq st l b j) H → j ≤ (bSeq st l b j).length → ((bSeq st l b j).length ≤ j → bFind st l b N f = none) → (∀ x, (bSeq st l b j)[j]? = some x → f x.2 = true → bFind st l b N f = some x.1) →
      ∀ Nx : Sto → Hp → Prop, (∀ x, (bSeq st l b j)[j]? = some x → f x.2 = false → ∀ s' H', S (j + 1) s' → BfH kf gv gq h (bSeq st l b (j + 1)) H' → Nx s' H') → turn (.int j) Nx s H)
    {s : Sto} (h0 : S 0 s) (hH : BfH kf gv gq h (bSeq st l b 0) H) : forGo (fun _ => True) turn nx ((List.range M).map fun (i : Nat) => D.int i) s H := by
  refine for_rng (fun _ => trivial) M (fun j s H => j ≤ N ∧ j ≤ (bSeq st l b j).length ∧ S j s ∧ BfH kf gv gq h (bSeq st l b j) H ∧ ∀ (i : Nat) (y : Tx × α), i < j → (bSeq st l b j)[i]? = some y → f y.2 = false) ?_ ?_ _ _ ⟨Nat.zero_le _, Nat.zero_le _, h0, hH, fun i y hi => by omega⟩
  · rintro j s H hjM ⟨hj, hjl, hs, hH, hd'⟩ Nx hNx
    refine hb j s H hj hs hH hjl (fun hl => bFind_none st l b hj hd' hl) (fun x hx h3 => bFind_at st l b hj hd' hx h3) Nx fun x hx h3 s' H' hs' hH' => hNx s' H' ⟨?_, ?_, hs', hH', fun i y hi he => ?_⟩
    · have := (List.getElem?_eq_some_iff.mp hx).1
      have := hN j
      omega
    · have := (List.getElem?_eq_some_iff.mp hx).1
      obtain ⟨g, eg⟩ := bSeq_step st l b j
      rw [eg, List.length_append]
      omega
    · have hlt := (List.getElem?_eq_some_iff.mp hx).1
      obtain ⟨g, eg⟩ := bSeq_step st l b j
      by_cases hij : i < j
      · refine hd' i _ hij ?_
        rw [eg, List.getElem?_append_left (by omega)] at he
        exact he
      · have : i = j := by omega
        subst this
        rw [eg, List.getElem?_append_left hlt, hx] at he
        cases he
        exact h3
  · rintro s H ⟨hj, _⟩
    omega
end
end Lw

set_option linter.all false
set_option autoImplicit false
set_option maxRecDepth 100000
set_option Elab.async false
set_option maxHeartbeats 4000000
namespace Lw
open PySem SL
theorem pl_tI {h : Hp} {t : List Int} (hl : t.length ≤ 1000) : Pl h 1 (tI t) := ⟨by rw [List.length_map]; exact hl, fun x hx => by
  obtain ⟨i, _, rfl⟩ := List.mem_map.mp hx
  trivial⟩
theorem rising_cut {k : Nat} {t : List Int} (c : CutOk k t) : risingD k (tI t) = true := by
  show ((t.map D.int).all (belowD k) && pairsUp (t.map D.int)) = true
  rw [below_all_in c.inr, up_map, c.up]
  rfl
theorem eqv_tP0 {t : List Int} : PyData.eqv (tP t) (.tuple []) = t.isEmpty := by
  cases t <;> simp [tP, PyData.eqv, PyData.eqvAll]
theorem eqD_t0 {h : Hp} {t : List Int} {Q : Bool → Prop} (q : Q t.isEmpty) : eqD h (.d (tI t)) (.d (.tup [])) Q := by
  have e1 : rdT h (.d (tI t)) = some (tP t) := tI_rd h 59 t
  have e2 : rdT h (.d (.tup [])) = some (.tuple []) := rfl
  simp only [eqD, e1, e2, eqv_tP0]
  exact q
theorem sp_is_cut {P : Prog} (hP : KC P) {n : Nat} {m : Mach} {ct : List Int} {h : Hp} {Q : D → Hp → Prop} (k : MachOk m) (c : CutOk m.rows.length ct) (q : Q (.bl true) h) : callN P (n + 3) "is_cut_of" [mD m, tI ct] h Q R0' := by
  have cl := cut_len c
  have n32 := k.n32
  refine call_go hP.isCut rfl ?_
  simp [f_is_cut_of, dSs, dS, dT, dEs, dTs, dIfs, dI, dTg, dTgs, lay, tst, ini, tsLen, SL.bi, SL.lm, SL.lmT, SL.cmp, op2, SL.wipe, m1, biLen, SL.len, rowsD_len]
  refine sp_is_rising hP.toKM (pl_tI (by omega)) ?_
  rw [rising_cut c]
  simp [tru]
  refine eqD_t0 ?_
  have : ct.isEmpty = false := by
    cases ct with
    | nil => exact absurd rfl c.ne
    | cons _ _ => rfl
  rw [this]
  exact gc0 q
theorem sp_need_cut {P : Prog} (hP : KC P) {n : Nat} {m : Mach} {ct : List Int} {h : Hp} {Q : D → Hp → Prop} (k : MachOk m) (c : CutOk m.rows.length ct) (q : Q .non h) : callN P (n + 4) "need_cut_of" [mD m, tI ct] h Q R0' := by
  refine call_go hP.needCut rfl ?_
  simp [f_need_cut_of, dSs, dS, dT, dEs, dTs, dIfs, dI, dTg, dTgs, lay, tst, ini, tsLen, SL.bi, SL.lm, SL.lmT, SL.cmp, op2, SL.wipe]
  refine sp_is_cut hP k c ?_
  simp [tru]
  exact gc0 q
theorem sp_small {P : Prog} (hf : P.lookup "need_small" = some f_need_small) {n : Nat} {m : Mach} {h : Hp} {Q : D → Hp → Prop} (n5 : m.rows.length ≤ 5) (q : Q .non h) : callN P (n + 1) "need_small" [mD m] h Q R0' := by
  refine call_go hf rfl ?_
  have : ¬ ((5 : Int) < m.rows.length) := by omega
  simp [f_need_small, dSs, dS, dT, dEs, dTs, dIfs, dI, dTg, dTgs, lay, tst, ini, tsLen, SL.bi, SL.lm, SL.lmT, SL.cmp, op2, SL.wipe, m1, biLen, SL.len, rowsD_len, ordD, tru, this]
  exact ⟨by omega, gc0 q⟩
structure K7 (P : Prog) : Prop extends KC P where
  find : P.lookup "find_cuttings" = some f_find_cuttings
  cuts : P.lookup "cuttings" = some f_cuttings
theorem sp_cuttings {P : Prog} (hP : K7 P) {n : Nat} {m : Mach} {ct : List Int} {w : Tx} {h : Hp} {Q : D → Hp → Prop} (k : MachOk m) (n5 : m.rows.length ≤ 5) (c : CutOk m.rows.length ct) (hl : w.length ≤ 2000) (hw : wordIn m.l w = true)
    (q : Q (.ref h.length) (h ++ [.lst (placesM m ct w)])) : callN P (n + 5) "cuttings" [mD m, tI ct, .str w] h Q R0' := by
  refine call_go hP.cuts rfl ?_
  simp [f_cuttings, dSs, dS, dT, dEs, dTs, dIfs, dI, dTg, dTgs, lay, tst, ini, tsLen, SL.bi, SL.lm, SL.lmT, SL.cmp, op2, SL.wipe]
  refine sp_need hP.toKN k (sp_need_cut hP.toKC k c (sp_needW hP.toKV k hl hw (sp_small hP.needSmall n5 ?_)))
  exact sp_find_cuttings hP.toKC hP.find k c hl hw (gc0 q)
theorem sp_lcuttings {P : Prog} (hlead : P.lookup "_law_lead" = some f_lead) (hends : P.lookup "_law_are_ends" = some f_law_are_ends) (hf : P.lookup "_law_cuttings" = some f_law_cuttings) {n : Nat} {m : Mach} {ct : List Int} {w : Tx} {h : Hp} {Q : D → Hp → Prop} (k : MachOk m) (c : CutOk m.rows.length ct) (hl : w.length ≤ 2000) (hw : wordIn m.l w = true)
    (q : Q (.ref h.length) (h ++ [.lst (placesM m ct w)])) : callN P (n + 2) "_law_cuttings" [mD m, tI ct, .str w] h Q R0' := by
  have n1 := k.n1
  have n32 := k.n32
  have cl := cut_len c
  refine call_go hf rfl ?_
  have hz : w.length ≤ 16777216 := by omega
  simp [f_law_cuttings, dSs, dS, dT, dEs, dTs, dIfs, dI, dTg, dTgs, lay, tst, ini, tsLen, SL.bi, SL.lm, SL.lmT, SL.cmp, op2, SL.wipe, biLen, SL.len, addD, sz, hz]
  refine ⟨by omega, by omega, ?_⟩
  refine for_rng (fun _ => trivial) (w.length + 1) (fun j s H => ∃ (x4 x5 x6 : Option D), s = [some (mD m), some (tI ct), some (.str w), some (.ref h.length), x4, x5, x6] ∧ Gr h H ∧ H[h.length]? = some (.lst (nI (placesN m ct w j)))) ?_ ?_ _ _ ⟨_, _, _, rfl, ⟨[.lst []], rfl⟩, at_end⟩
  · rintro j s H hj ⟨x4, x5, x6, rfl, hG, ef⟩ Nx hN
    have hs := places_succ m ct w j
    have hpl := places_len m ct w j
    simp [lc1b0, dSs, dS, dT, dEs, dTs, dIfs, dI, dTg, dTgs, lay, tst, ini, tsLen, SL.bi, SL.lm, SL.lmT, SL.cmp, op2, SL.wipe, slc, sz, walk, tI]
    refine comp_map (st := fun _ => True) (leadD m (w.drop j)) trivial _ [] (by simp only [List.length_map, List.length_nil, sz]; omega) (fun v hv q z => ?_) ?_
    · try simp [dTg, dIfs, dT, dEs, lay]
      refine ⟨by omega, ?_⟩
      rw [cut_drop (by omega)]
      exact ends_go hlead k c (by omega) hl hw hv z
    · have e0 : ([] ++ (ct.map D.int).map (leadD m (w.drop j))) = (ct.map fun s => leadM m s (w.drop j)).map D.int := by
        rw [List.nil_append, List.map_map, List.map_map]
        rfl
      have xl : (ct.map fun s => leadM m s (w.drop j)).length ≤ 100 := by rw [List.length_map]; omega
      rw [e0]
      have hk0 : okP m ct w j = (decide (leadM m 0 (w.take j) ∈ ct) && endsM m (ct.map fun s => leadM m s (w.drop j))) := rfl
      generalize (ct.map fun s => leadM m s (w.drop j)) = xs at hk0 xl ⊢
      rw [hk0] at hs
      have ef2 := at_app (o := .lst (xs.map D.int)) ef
      simp [lc1b1, dSs, dS, dT, dEs, dTs, dIfs, dI, dTg, dTgs, lay, tst, ini, tsLen, SL.bi, SL.lm, SL.lmT, SL.cmp, op2, SL.wipe, slc, sz]
      refine ⟨by omega, ?_⟩
      rw [cut_take (by omega)]
      refine lead_go hlead k (wordIn_take j hw) (by omega) (by omega) fun _ _ => ?_
      refine inn_ends ?_
      cases h1 : decide (leadM m 0 (w.take j) ∈ ct) with
      | false =>
        rw [h1] at hs
        simp [tru]
        exact hN _ _ ⟨_, _, _, rfl, hG.app _, by rw [hs]; simpa using ef2⟩
      | true =>
        rw [h1] at hs
        simp [tru]
        refine sp_lends hends at_end (by omega) ?_
        cases h2 : endsM m xs with
        | false =>
          rw [h2] at hs
          simp [tru]
          exact hN _ _ ⟨_, _, _, rfl, hG.app _, by rw [hs]; simpa using ef2⟩
        | true =>
          rw [h2] at hs
          simp [tru, lmOk, lstOf, ef2, lmAppend, sz]
          refine ⟨by omega, hN _ _ ⟨_, _, _, rfl, (hG.app _).put (Nat.le_refl _), ?_⟩⟩
          rw [hs]
          exact List.getElem?_set_self (by rw [List.length_append]; have := hG.len; simp; omega)
  · rintro s H ⟨x4, x5, x6, rfl, hG, ef⟩
    simp [dSs, dS, dT, dEs, dTs, dIfs, dI, dTg, dTgs, lay, tst, ini, tsLen, SL.bi, SL.lm, SL.lmT, SL.cmp, op2, SL.wipe]
    exact gc3 hG (Nat.le_refl _) ef (clo_nI _ _) q
end Lw

set_option linter.all false
set_option autoImplicit false
set_option maxRecDepth 100000
set_option Elab.async false
set_option maxHeartbeats 1000000
namespace Lw
open PySem SL
def fz3 : Ss := (.cons (.ret (.cst .non))
    Ss.nil)
def fz2b3 : Ss := (.cons (.asg (.nm 5) (.op .add (.var 5) (.cst (.int 1))))
    Ss.nil)
def fz2b2b2 : Ss := (.cons (.asg (.nm 13) (.tup (.cons (.var 11) (.cons (.call "leasts" (.cons (.sset (.var 12)) Es.nil)) Es.nil))))
    (putAs 13 3 4 6 10))
def fz2b2b1 : Ss := (.cons (.asg (.nm 12) (.op .add (.comp (.call "led" (.cons (.var 0) (.cons (.var 9) (.cons (.var 10) Es.nil)))) (.nm 9) (.val (.var 8)) Es.nil [9]) (.ite (.cmp .inn (.var 11) (.var 1)) (.lst (.cons (.var 1) Es.nil)) (.lst Es.nil))))
    fz2b2b2)
def fz2b2b0 : Ss := (.cons (.asg (.nm 11) (.idx (.idx (.idx (.var 0) (.cst (.int 1))) (.var 7)) (.var 10)))
    fz2b2b1)
def fz2b2 : Ss := (.cons (.for (.nm 10) (.rng (.idx (.var 0) (.cst (.int 0)))) fz2b2b0)
    fz2b3)
def fz2b1 : Ss := (.cons (.ifs (.and (.cmp .inn (.var 7) (.idx (.var 0) (.cst (.int 2)))) (.nt (.bi .any (.cons (.comp (.call "are_ends" (.cons (.var 0) (.cons (.var 9) Es.nil))) (.nm 9) (.val (.var 8)) Es.nil [9]) Es.nil)))) (.cons (.ret (.var 6))
    Ss.nil) Ss.nil)
    fz2b2)
def fz2b0 : Ss := (.cons (.asg (.tp (.cons (.nm 6) (.cons (.tp (.cons (.nm 7) (.cons (.nm 8) Ts.nil))) Ts.nil))) (.idx (.var 4) (.var 5)))
    fz2b1)
def fz2 : Ss := (.cons (.whl (.cmp .lt (.var 5) (.bi .len (.cons (.var 4) Es.nil))) fz2b0)
    fz3)
def fz1 : Ss := (.cons (.par (.cons (.nm 3) (.cons (.nm 4) (.cons (.nm 5) Ts.nil))) (.cons (.dicT (.var 2) (.cst (.bl true))) (.cons (.lst (.cons (.tup (.cons (.cst (.str [])) (.cons (.var 2) Es.nil))) Es.nil)) (.cons (.cst (.int 0)) Es.nil))))
    fz2)
def fz0 : Ss := (.cons (.asg (.nm 2) (.tup (.cons (.cst (.int 0)) (.cons (.ite (.cmp .inn (.cst (.int 0)) (.var 1)) (.tup (.cons (.var 1) Es.nil)) (.tup Es.nil)) Es.nil))))
    fz1)
def f_find_failing : Fn := ⟨2, 14, fz0⟩
theorem node_len {t : Int} {some : List (List Int)} (o : NodeOk t some) : some.length ≤ 16 := by
  have h1 : (some.map (cm t)).Nodup := by
    rw [List.nodup_iff_pairwise_ne, List.pairwise_map]
    refine List.Pairwise.imp_of_mem ?_ (List.nodup_iff_pairwise_ne.mp o.nd)
    intro a b ha hb hne e
    exact hne (cm_inj (o.sets a ha) (o.sets b hb) e)
  have := nodup_le 16 _ h1 fun x hx => by
    obtain ⟨y, _, rfl⟩ := List.mem_map.mp hx
    exact cm_lt t y
  rwa [List.length_map] at this
theorem in_len {A : List Int} {n : Nat} (hn : n ≤ 32) {t : Int} (o : SetIn t A) : A.length ≤ 5 := by
  have nd : A.Nodup := List.nodup_iff_pairwise_ne.mpr (o.up.imp fun {x y} z e => by omega)
  have h1 : (A.map Int.toNat).Nodup := by
    rw [List.nodup_iff_pairwise_ne, List.pairwise_map]
    refine List.Pairwise.imp_of_mem ?_ o.up
    intro a b ha hb hab e
    have := o.inr a ha
    have := o.inr b hb
    omega
  have := nodup_le 5 _ h1 fun x hx => by
    obtain ⟨y, hy, rfl⟩ := List.mem_map.mp hx
    have := o.inr y hy
    omega
  rwa [List.length_map] at this
theorem items_ref {h : Hp} {l : Nat} {xs : List D} (e : h[l]? = some (.lst xs)) : items h (.d (.ref l)) = some xs := by
  show (match h[l]? with
    | some (.lst xs) => some xs
    | some (.fz xs) => some xs
    | _ => none) = _
  rw [e]
theorem tvL_ref {h : Hp} {l : Nat} {xs : List D} (e : h[l]? = some (.lst xs)) : tvL h (.d (.ref l)) = some xs := items_ref e
structure KF (P : Prog) : Prop extends K7 P where
  led : P.lookup "led" = some f_led
  within : P.lookup "is_within" = some f_is_within
  leasts : P.lookup "leasts" = some f_leasts
theorem map_back (us : List (List Int)) (f : List Int → List Int) : (us.map tI).map (fun v => tI (f (backI v))) = (us.map f).map tI := by
  rw [List.map_map, List.map_map]
  refine List.map_congr_left fun t _ => ?_
  show tI (f (backI (tI t))) = _
  rw [backI_tI]
  rfl
/-- what follows of a node, as sets -/
theorem after_ok {m : Mach} (k : MachOk m) (n5 : m.rows.length ≤ 5) {ct : List Int} (c5 : CutOk m.rows.length ct) {x : Fn_} (hx : NodeI m x) {c : Nat} (hc : (c : Int) < m.l) : (afterN m ct x c).length ≤ 17 ∧ ∀ t, t ∈ afterN m ct x c → t ≠ [] ∧ t.length ≤ 5 := by
  have h16 := node_len hx.1
  refine ⟨?_, fun t ht => ?_⟩
  · unfold afterN
    rw [List.length_append, List.length_map]
    split <;> simp <;> omega
  · rcases List.mem_append.mp ht with z | z
    · obtain ⟨B, hB, rfl⟩ := List.mem_map.mp z
      have o := hx.1.sets B hB
      have hi := imgS_in k (hx.2.2 B hB) hc
      refine ⟨imgS_ne (fun e => by rw [e] at o; cases o.mem) c, ?_⟩
      have := iset_len (xs := B.map fun s => toM m s c) (n := m.rows.length) fun y hy => hi y (mem_iset.mpr hy)
      unfold imgS
      omega
    · split at z
      · rw [List.mem_singleton.mp z]
        refine ⟨c5.ne, ?_⟩
        have := cut_len c5
        omega
      · cases z
theorem least_len {us : List (List Int)} : (leastsT us).length ≤ us.length := List.length_filter_le _ _
theorem tset_len (us : List (List Int)) : (tset us).length ≤ us.length := by
  unfold tset
  rw [List.length_mergeSort]
  exact len_ddp us
/-- one letter -/
theorem ff_turn {P : Prog} (hP : KF P) {n : Nat} {m : Mach} (k : MachOk m) (n5 : m.rows.length ≤ 5) {ct : List Int} (c5 : CutOk m.rows.length ct) {x : Tx × Fn_} (hx : NodeI m x.2) (hxl : x.1.length ≤ 1000) {L : List (Tx × Fn_)} (hL : L.length ≤ 1000) {c : Nat} (hc : (c : Int) < m.l) {h H : Hp} (hH : BfH ndD gvA (gqA ndD) h L H) {e : En} {j : Nat} {x2 x9 x11 x12 x13 : Option D} (he : e.xr = fun _ _ _ _ => False)
    (q : ∀ y11 y12 y13 H', BfH ndD gvA (gqA ndD) h (bGrow (stepN m ct) x L c) H' → e.nx [some (mD m), some (tI ct), x2, some (.ref h.length), some (.ref (h.length + 1)), some (.int j), some (.str x.1), some (.int x.2.1), some (.tup (x.2.2.map tI)), x9, some (.int c), y11, y12, y13] H') :
    dSs ⟨callN P (n + 2)⟩ fz2b2b0 e [some (mD m), some (tI ct), x2, some (.ref h.length), some (.ref (h.length + 1)), some (.int j), some (.str x.1), some (.int x.2.1), some (.tup (x.2.2.map tI)), x9, some (.int c), x11, x12, x13] H := by
  obtain ⟨e1, e2, e3, e4, e5⟩ := e
  cases he
  have l3 := k.l3
  obtain ⟨b0, b1, r, a1, a2⟩ := to_in k hx.1.t0 hx.2.1 hc
  obtain ⟨al, am⟩ := after_ok k n5 c5 hx hc
  have h16 := node_len hx.1
  simp [fz2b2b0, fz2b2b1, dSs, dS, dT, dEs, dTs, dIfs, dI, dTg, dTgs, lay, tst, ini, tsLen, SL.bi, SL.lm, SL.lmT, SL.cmp, op2, SL.wipe, m1]
  simp [idx, a1, a2]
  try simp [walk]
  refine comp_map (st := fun _ => True) (fun v => tI (imgS m (backI v) c)) trivial _ [] (by simp only [List.length_map, List.length_nil, sz]; omega) (fun v hv qq z => ?_) ?_
  · obtain ⟨A, hA, rfl⟩ := List.mem_map.mp hv
    rw [backI_tI] at z
    try simp [dTg, dIfs, dT, dEs, lay]
    exact led_go hP.led (n := n + 1) k (hx.2.2 A hA) (by have := in_len (n := 0) (by omega) (hx.1.sets A hA); omega) hc z
  · rw [List.nil_append, map_back x.2.2 fun A => imgS m A c]
    refine inn_ends ?_
    have key : ∀ (y12 : Option D), dSs ⟨callN P (n + 2)⟩ fz2b2b2 ⟨e1, e2, e3, e4, fun _ _ _ _ => False⟩ [some (mD m), some (tI ct), x2, some (.ref h.length), some (.ref (h.length + 1)), some (.int j), some (.str x.1), some (.int x.2.1), some (.tup (x.2.2.map tI)), x9, some (.int c), some (.int (toM m x.2.1 c)), some (.ref H.length), x13] (H ++ [.lst ((afterN m ct x.2 c).map tI)]) := by
      intro _
      simp [fz2b2b2, dSs, dS, dT, dEs, dTs, dIfs, dI, dTg, dTgs, lay, tst, ini, tsLen, SL.bi, SL.lm, SL.lmT, SL.cmp, op2, SL.wipe]
      refine sset_tups (ts := afterN m ct x.2 c) (items_ref at_end) (tvL_ref at_end) (by omega) (fun t ht => (am t ht).1) ?_
      simp [lay]
      refine sp_leasts hP.within hP.leasts (n := n) (us := tset (afterN m ct x.2 c)) (by simp) (by have := tset_len (afterN m ct x.2 c); omega) (fun t ht => by have := (am t (mem_tset.mp ht)).2; omega) ?_
      simp [sz]
      refine putA (c := c) (x := x) (L := L) ndK (stepN m ct) rfl rfl rfl rfl rfl (by omega) (by omega) (by omega) (hH.grow ⟨[_, _], rfl⟩) fun H' hH' => ?_
      exact q _ _ _ H' hH'
    by_cases hm : toM m x.2.1 c ∈ ct
    · have := key none
      simp [afterN, hm] at this
      simp [hm, tru, dSs, dS, dT, dEs, dTs, dIfs, dI, dTg, dTgs, lay, tst, ini, tsLen, SL.bi, SL.lm, SL.lmT, SL.cmp, op2, SL.wipe, addD, lstOf, sz]
      exact ⟨by omega, this⟩
    · have := key none
      simp [afterN, hm] at this
      simp [hm, tru, dSs, dS, dT, dEs, dTs, dIfs, dI, dTg, dTgs, lay, tst, ini, tsLen, SL.bi, SL.lm, SL.lmT, SL.cmp, op2, SL.wipe, addD, lstOf, sz]
      exact ⟨by omega, this⟩

/-- one node -/
theorem ff_step {P : Prog} (hP : KF P) {n : Nat} {m : Mach} (k : MachOk m) (n5 : m.rows.length ≤ 5) {ct : List Int} (c5 : CutOk m.rows.length ct) {x : Tx × Fn_} {j : Nat} (hj : j ≤ 840) (hx : (bSeq (stepN m ct) m.l.toNat (beginN ct) j)[j]? = some x) {h H : Hp} (hH : BfH ndD gvA (gqA ndD) h (bSeq (stepN m ct) m.l.toNat (beginN ct) j) H) {e : En} {x2 x6 x7 x8 x9 x10 x11 x12 x13 : Option D} (he : e.xr = fun _ _ _ _ => False)
    (r : failB m x.2 = true → e.rt (.str x.1) H)
    (q : failB m x.2 = false → ∀ y6 y7 y8 y9 y10 y11 y12 y13 H', BfH ndD gvA (gqA ndD) h (bSeq (stepN m ct) m.l.toNat (beginN ct) (j + 1)) H' → e.nx [some (mD m), some (tI ct), x2, some (.ref h.length), some (.ref (h.length + 1)), some (.int (j + 1 : Nat)), y6, y7, y8, y9, y10, y11, y12, y13] H') :
    dSs ⟨callN P (n + 2)⟩ fz2b0 e [some (mD m), some (tI ct), x2, some (.ref h.length), some (.ref (h.length + 1)), some (.int j), x6, x7, x8, x9, x10, x11, x12, x13] H := by
  obtain ⟨e1, e2, e3, e4, e5⟩ := e
  cases he
  obtain ⟨ok, _⟩ := fail_ok k n5 c5 j
  have hxo := ok.ok x (List.mem_of_getElem? hx)
  have h16 := node_len hxo.1.1
  have l1 := k.l1
  have l3 := k.l3
  simp [fz2b0, dSs, dS, dT, dEs, dTs, dIfs, dI, dTg, dTgs, lay, tst, ini, tsLen, SL.bi, SL.lm, SL.lmT, SL.cmp, op2, SL.wipe]
  rw [ridx hH.at1 (lmq_at hH hx)]
  simp [gqA, ndD, dSs, dS, dT, dEs, dTs, dIfs, dI, dTg, dTgs, lay, tst, ini, tsLen, SL.bi, SL.lm, SL.lmT, SL.cmp, op2, SL.wipe, fz2b1, m2]
  refine inn_ends ?_
  have rest : failB m x.2 = false → dSs ⟨callN P (n + 2)⟩ fz2b2 ⟨e1, e2, e3, e4, fun _ _ _ _ => False⟩ [some (mD m), some (tI ct), x2, some (.ref h.length), some (.ref (h.length + 1)), some (.int j), some (.str x.1), some (.int x.2.1), some (.tup (x.2.2.map tI)), x9, x10, x11, x12, x13] H := fun h3 => by
    simp [fz2b2, dSs, dS, dT, dEs, dTs, dIfs, dI, dTg, dTgs, lay, tst, ini, tsLen, SL.bi, SL.lm, SL.lmT, SL.cmp, op2, SL.wipe, m0, sz]
    refine ⟨by omega, by omega, ?_⟩
    refine for_rng (fun _ => trivial) m.l.toNat (fun c s H => ∃ (y10 y11 y12 y13 : Option D), s = [some (mD m), some (tI ct), x2, some (.ref h.length), some (.ref (h.length + 1)), some (.int j), some (.str x.1), some (.int x.2.1), some (.tup (x.2.2.map tI)), x9, y10, y11, y12, y13] ∧ BfH ndD gvA (gqA ndD) h (bGrowTo (stepN m ct) x (bSeq (stepN m ct) m.l.toNat (beginN ct) j) c) H) ?_ ?_ _ _ ⟨_, _, _, _, rfl, hH⟩
    · rintro c s H hc ⟨y10, y11, y12, y13, rfl, hH⟩ Nx hN
      simp [dTg]
      have gl : (bGrowTo (stepN m ct) x (bSeq (stepN m ct) m.l.toNat (beginN ct) j) c).length ≤ 1000 := by
        obtain ⟨g, eg⟩ := bGrowTo_pre (stepN m ct) x (bSeq (stepN m ct) m.l.toNat (beginN ct) j) c
        have : ∀ c, (bGrowTo (stepN m ct) x (bSeq (stepN m ct) m.l.toNat (beginN ct) j) c).length ≤ 840 + c := fun c => by
          induction c with
          | zero => exact (fail_ok k n5 c5 j).2
          | succ c ih =>
            rw [bGrowTo_succ]
            unfold bGrow
            split
            · omega
            · rw [List.length_append]; simp; omega
        have := this c
        omega
      exact ff_turn (e := ⟨Nx, _, _, Nx, _⟩) hP (n := n) k n5 c5 hxo.1 (by omega) gl (by omega) hH rfl fun y11 y12 y13 H' hH' => hN _ _ ⟨_, _, _, _, rfl, by rw [bGrowTo_succ]; exact hH'⟩
    · rintro s H ⟨y10, y11, y12, y13, rfl, hH⟩
      have es : bGrowTo (stepN m ct) x (bSeq (stepN m ct) m.l.toNat (beginN ct) j) m.l.toNat = bSeq (stepN m ct) m.l.toNat (beginN ct) (j + 1) := by rw [bSeq, hx]
      rw [es] at hH
      simp [fz2b3, dSs, dS, dT, dEs, dTs, dIfs, dI, dTg, dTgs, lay, tst, ini, tsLen, SL.bi, SL.lm, SL.lmT, SL.cmp, op2, SL.wipe, addD]
      have := q h3 (some (.str x.1)) (some (.int x.2.1)) (some (.tup (x.2.2.map tI))) x9 y10 y11 y12 y13 H hH
      simpa using this
  by_cases hm : x.2.1 ∈ m.ends
  · simp [hm, tru, dSs, dS, dT, dEs, dTs, dIfs, dI, dTg, dTgs, lay, tst, ini, tsLen, SL.bi, SL.lm, SL.lmT, SL.cmp, op2, SL.wipe, walk]
    refine comp_map (st := fun _ => True) (fun v => .bl (endsM m (backI v))) trivial _ [] (by simp only [List.length_map, List.length_nil, sz]; omega) (fun v hv qq z => ?_) ?_
    · obtain ⟨A, hA, rfl⟩ := List.mem_map.mp hv
      rw [backI_tI] at z
      try simp [dTg, dIfs, dT, dEs, lay]
      exact sp_are_endsT hP.areEnds (n := n + 1) (by have := in_len (n := 0) (by omega) (hxo.1.1.sets A hA); omega) z
    · rw [List.nil_append, List.map_map]
      refine biAny_l (bools_map (fun A => endsM m A) _ x.2.2 fun A _ => by show D.bl _ = _; rw [backI_tI]) ?_
      rw [any_map]
      have ef : failB m x.2 = !(x.2.2.any fun A => endsM m A) := by unfold failB; rw [decide_eq_true hm, Bool.true_and]
      cases hb : (x.2.2.any fun A => endsM m A) with
      | true =>
        rw [hb] at ef
        simp [tru]
        exact rest ef
      | false =>
        rw [hb] at ef
        simp [tru]
        exact r ef
  · simp [hm, tru]
    exact rest (by unfold failB; rw [decide_eq_false hm, Bool.false_and])
def failD (m : Mach) (ct : List Int) : Option Tx := bFind (stepN m ct) m.l.toNat (beginN ct) 840 (failB m)
def optD : Option Tx → D
  | some w => .str w
  | none => .non
theorem optD_clo (n : Nat) (o : Option Tx) : clo n (optD o) = true := by cases o <;> rfl
theorem sp_find_failing {P : Prog} (hP : KF P) (hf : P.lookup "find_failing" = some f_find_failing) {n : Nat} {m : Mach} (k : MachOk m) (n5 : m.rows.length ≤ 5) {ct : List Int} (c5 : CutOk m.rows.length ct) {h : Hp} {Q : D → Hp → Prop} (q : Q (optD (failD m ct)) h) : callN P (n + 3) "find_failing" [mD m, tI ct] h Q R0' := by
  refine call_go hf rfl ?_
  have go : dSs ⟨callN P (n + 2)⟩ fz1 ⟨fun _ h2 => gcq h Q .non h2, gcq h Q, fun _ _ => False, fun _ _ => False, fun c fs _ h2 => R0' c fs h2⟩ [some (mD m), some (tI ct), some (ndD (beginN ct)), none, none, none, none, none, none, none, none, none, none, none] h := by
    simp [fz1, dSs, dS, dT, dEs, dTs, dIfs, dI, dTg, dTgs, lay, tst, ini, tsLen, SL.bi, SL.lm, SL.lmT, SL.cmp, op2, SL.wipe, sz]
    refine ⟨ndK.tup _, ?_⟩
    rw [fz2, dSs]
    have hN := fun j => (fail_ok k n5 c5 j).2
    refine whlA (kf := ndD) (gv := gvA) (gq := gqA ndD) (h := h) (st := stepN m ct) (l := m.l.toNat) (b := beginN ct) (N := 840) (f := failB m) hN (fun j s => ∃ y6 y7 y8 y9 y10 y11 y12 y13 : Option D, s = [some (mD m), some (tI ct), some (ndD (beginN ct)), some (.ref h.length), some (.ref (h.length + 1)), some (.int j), y6, y7, y8, y9, y10, y11, y12, y13]) ?_ ?_ ?_ ⟨_, _, _, _, _, _, _, _, rfl⟩ ⟨[], by simp [bSeq, kF, gvA, gqA]⟩
    · rintro j s ⟨y6, y7, y8, y9, y10, y11, y12, y13, rfl⟩
      exact ⟨rfl, rfl⟩
    · rintro j x s H hj hx ⟨y6, y7, y8, y9, y10, y11, y12, y13, rfl⟩ hH Nx hNx hfound
      refine ff_step hP (n := n) k n5 c5 hj hx hH rfl (fun h3 => ?_) fun h3 z6 z7 z8 z9 z10 z11 z12 z13 H' hH' => hNx h3 _ _ ⟨_, _, _, _, _, _, _, _, rfl⟩ hH'
      have e : optD (failD m ct) = .str x.1 := by unfold failD; rw [hfound h3]; rfl
      rw [e] at q
      exact hH.end_ rfl q
    · rintro j s H ⟨y6, y7, y8, y9, y10, y11, y12, y13, rfl⟩ hH hno
      simp [fz3, dSs, dS, dT, dEs, dTs, dIfs, dI, dTg, dTgs, lay, tst, ini, tsLen, SL.bi, SL.lm, SL.lmT, SL.cmp, op2, SL.wipe]
      have e : optD (failD m ct) = .non := by unfold failD; rw [hno]; rfl
      rw [e] at q
      exact hH.end_ rfl q
  simp [f_find_failing, fz0, dSs, dS, dT, dEs, dTs, dIfs, dI, dTg, dTgs, lay, tst, ini, tsLen, SL.bi, SL.lm, SL.lmT, SL.cmp, op2, SL.wipe, tI]
  refine inn_ends ?_
  by_cases hm : (0 : Int) ∈ ct
  · simp [beginN, hm, ndD] at go
    simp [hm, tru, sz]
    exact go
  · simp [beginN, hm, ndD] at go
    simp [hm, tru, sz]
    exact go
end Lw

set_option linter.all false
set_option autoImplicit false
set_option maxRecDepth 100000
set_option Elab.async false
set_option maxHeartbeats 4000000
namespace Lw
open PySem SL
def pq1b0a1b1a0 : Ss := (.cons (.asg (.sb (.var 2) (.var 8)) (.op .add (.idx (.var 2) (.idx (.var 3) (.var 4))) (.idx (.cst (.str [97, 98, 99])) (.var 7))))
    (.cons (.exp (.lm .append (.var 3) (.cons (.var 8) Es.nil)))
    Ss.nil))
def pq1b0a1b0 : Ss := (.cons (.asg (.nm 8) (.tup (.cons (.idx (.idx (.idx (.var 0) (.cst (.int 1))) (.var 5)) (.var 7)) (.cons (.idx (.idx (.idx (.var 1) (.cst (.int 1))) (.var 6)) (.var 7)) Es.nil))))
    (.cons (.ifs (.cmp .nin (.var 8) (.var 2)) pq1b0a1b1a0 Ss.nil)
    Ss.nil))
def pq1b0a0 : Ss := (.cons (.asg (.tp (.cons (.nm 5) (.cons (.nm 6) Ts.nil))) (.idx (.var 3) (.var 4)))
    (.cons (.for (.nm 7) (.rng (.idx (.var 0) (.cst (.int 0)))) pq1b0a1b0)
    Ss.nil))
def pq1b0 : Ss := (.cons (.ifs (.cmp .lt (.var 4) (.bi .len (.cons (.var 3) Es.nil))) pq1b0a0 Ss.nil)
    Ss.nil)
def f_law_pairs : Fn := ⟨2, 9, (.cons (.par (.cons (.nm 2) (.cons (.nm 3) Ts.nil)) (.cons (.dicT (.tup (.cons (.cst (.int 0)) (.cons (.cst (.int 0)) Es.nil))) (.cst (.str []))) (.cons (.lst (.cons (.tup (.cons (.cst (.int 0)) (.cons (.cst (.int 0)) Es.nil))) Es.nil)) Es.nil)))
    (.cons (.for (.nm 4) (.rng (.op .mul (.bi .len (.cons (.idx (.var 0) (.cst (.int 1))) Es.nil)) (.bi .len (.cons (.idx (.var 1) (.cst (.int 1))) Es.nil)))) pq1b0)
    (.cons (.ret (.var 2))
    Ss.nil)))⟩
def pz2 : Ss := (.cons (.ret (.ite (.cmp .ne (.var 3) (.lst Es.nil)) (.idx (.var 3) (.cst (.int 0))) (.cst .non)))
    Ss.nil)
def pz1 : Ss := (.cons (.asg (.nm 3) (.comp (.idx (.var 2) (.var 4)) (.nm 4) (.keys (.var 2)) (.cons (.cmp .ne (.cmp .inn (.idx (.var 4) (.cst (.int 0))) (.idx (.var 0) (.cst (.int 2)))) (.cmp .inn (.idx (.var 4) (.cst (.int 1))) (.idx (.var 1) (.cst (.int 2))))) Es.nil) [4]))
    pz2)
def f_law_parting : Fn := ⟨2, 5, (.cons (.asg (.nm 2) (.call "_law_pairs" (.cons (.var 0) (.cons (.var 1) Es.nil))))
    pz1)⟩
abbrev kW (L : List Nd) : List (D × D) := kD (fun x : Nd => x.2) (fun x => .str x.1) L
abbrev pqH (h : Hp) (L : List Nd) : Hp := h ++ [.dic (kW L), .lst (L.map fun x => pD x.2)]
/-- one letter -/
theorem pq_turn {P : Prog} {n : Nat} {m o : Mach} (k : MachOk m) (k2 : MachOk o) (hl : m.l = o.l) {x : Nd} {nn : Nat} (hx : NdOk m o nn x) (hn : nn ≤ 5000) {L : List Nd} (ok : LOk m o (nn + 1) L) {j : Nat} (hj : L[j]? = some x) {c : Nat} (hc : (c : Int) < m.l) (hL : L.length ≤ 5000) {h : Hp} {e : En} {x8 : Option D} (he : e.xr = fun _ _ _ _ => False)
    (q : ∀ y8, e.nx [some (mD m), some (mD o), some (.ref h.length), some (.ref (h.length + 1)), some (.int j), some (.int x.2.1), some (.int x.2.2), some (.int c), y8] (pqH h (grow m o x L c))) :
    dSs ⟨callN P n⟩ pq1b0a1b0 e [some (mD m), some (mD o), some (.ref h.length), some (.ref (h.length + 1)), some (.int j), some (.int x.2.1), some (.int x.2.2), some (.int c), x8] (pqH h L) := by
  obtain ⟨e1, e2, e3, e4, e5⟩ := e
  cases he
  have l3 := k.l3
  obtain ⟨_, _, r, a1, a2⟩ := to_in k hx.a0 hx.a1 hc
  obtain ⟨_, _, r2, b1, b2⟩ := to_in k2 hx.b0 hx.b1 (by omega : (c : Int) < o.l)
  have ec := abc_idx (c := c) (by omega)
  have hx1 := hx.w.1
  have hjl := (List.getElem?_eq_some_iff.mp hj).1
  have ea : L2.atI (L.map fun x => pD x.2) (j : Int) = some (pD x.2) := by
    simp only [L2.atI, L2.ixN, List.length_map]
    rw [if_pos (by omega), if_pos (by omega)]
    show (L.map fun x => pD x.2)[(j : Int).toNat]? = _
    rw [Int.toNat_natCast, List.getElem?_map, hj]
    rfl
  simp [pq1b0a1b0, dSs, dS, dT, dEs, dTs, dIfs, dI, dTg, dTgs, lay, tst, ini, tsLen, SL.bi, SL.lm, SL.lmT, SL.cmp, op2, SL.wipe, m1]
  simp [idx, a1, a2, b1, b2, sz]
  have ep : D.tup [.int (toM m x.2.1 c), .int (toM o x.2.2 c)] = pD (toM m x.2.1 c, toM o x.2.2 c) := rfl
  rw [ep]
  simp only [inn, at_end1]
  refine ⟨fit_kD _ _ L _, ?_⟩
  rw [kget_is]
  by_cases hin : (toM m x.2.1 c, toM o x.2.2 c) ∈ L.map (·.2)
  · have hg := grow_in hin
    rw [decide_eq_true hin]
    simp [tru]
    have := q (some (pD (toM m x.2.1 c, toM o x.2.2 c)))
    rw [hg] at this
    exact this
  · have hg := grow_out hin
    rw [decide_eq_false hin]
    simp [tru, pq1b0a1b1a0, dSs, dS, dT, dEs, dTs, dIfs, dI, dTg, dTgs, lay, tst, ini, tsLen, SL.bi, SL.lm, SL.lmT, SL.cmp, op2, SL.wipe]
    rw [ridx at_end2 ea]
    simp only [idx, at_end1]
    refine ⟨fit_kD _ _ L _, ?_⟩
    rw [kget_some _ _ ok.nd (List.mem_of_getElem? hj)]
    simp [sidx, ec, addD, sz]
    refine ⟨by omega, ?_⟩
    refine ⟨fit_kD _ _ L _, by unfold kW kD; rw [List.length_map]; omega, ?_⟩
    rw [kput_new _ _ _ _ hin]
    simp [lmOk, lstOf, lmAppend, sz]
    refine ⟨by omega, ?_⟩
    have := q (some (pD (toM m x.2.1 c, toM o x.2.2 c)))
    rw [hg] at this
    simpa [pqH, kW, kD, pD] using this
theorem clo_kW (n : Nat) (L : List Nd) : cloO n (.dic (kW L)) = true := by
  show (kW L).all (fun p => clo n p.1 && clo n p.2) = true
  unfold kW kD
  rw [List.all_map, List.all_eq_true]
  exact fun _ _ => rfl
theorem sp_pairs {P : Prog} (hf : P.lookup "_law_pairs" = some f_law_pairs) {n : Nat} {m o : Mach} (k : MachOk m) (k2 : MachOk o) (hl : m.l = o.l) {h : Hp} {Q : D → Hp → Prop} (q : Q (.ref h.length) (h ++ [.dic (kW (fullL m o))])) : callN P (n + 1) "_law_pairs" [mD m, mD o] h Q R0' := by
  refine call_go hf rfl ?_
  have nn := nn_le k k2
  have l1 := k.l1
  have l3 := k.l3
  simp [f_law_pairs, dSs, dS, dT, dEs, dTs, dIfs, dI, dTg, dTgs, lay, tst, ini, tsLen, SL.bi, SL.lm, SL.lmT, SL.cmp, op2, SL.wipe, sz, m1, biLen, SL.len, rowsD_len, mulD]
  have hz : ((m.rows.length : Int) * (o.rows.length : Int)) = ((m.rows.length * o.rows.length : Nat) : Int) := by simp
  rw [hz, Int.toNat_natCast]
  refine ⟨rfl, .inl ⟨by omega, by have := k.n32; omega⟩, by omega, by omega, ?_⟩
  refine for_rng (fun _ => trivial) (m.rows.length * o.rows.length) (fun j s H => ∃ (x4 x5 x6 x7 x8 : Option D), s = [some (mD m), some (mD o), some (.ref h.length), some (.ref (h.length + 1)), x4, x5, x6, x7, x8] ∧ H = pqH h (seqL m o j)) ?_ ?_ _ _ ⟨_, _, _, _, _, rfl, rfl⟩
  · rintro j s H hj ⟨x4, x5, x6, x7, x8, rfl, rfl⟩ Nx hN
    have sl := seq_len k k2 hl j
    simp [pq1b0, dSs, dS, dT, dEs, dTs, dIfs, dI, dTg, dTgs, lay, tst, ini, tsLen, SL.bi, SL.lm, SL.lmT, SL.cmp, op2, SL.wipe, biLen, SL.len, ordD, tru, at_end2]
    by_cases hlt : j < (seqL m o j).length
    · have hx : (seqL m o j)[j]? = some (seqL m o j)[j] := List.getElem?_eq_getElem hlt
      generalize (seqL m o j)[j] = x at hx
      have hxo := (seq_ok k k2 hl j).ok x (List.mem_of_getElem? hx)
      have ea : L2.atI ((seqL m o j).map fun x => pD x.2) (j : Int) = some (pD x.2) := by
        simp only [L2.atI, L2.ixN, List.length_map]
        rw [if_pos (by omega), if_pos (by omega)]
        show ((seqL m o j).map fun x => pD x.2)[(j : Int).toNat]? = _
        rw [Int.toNat_natCast, List.getElem?_map, hx]
        rfl
      rw [if_pos hlt]
      simp [pq1b0a0, dSs, dS, dT, dEs, dTs, dIfs, dI, dTg, dTgs, lay, tst, ini, tsLen, SL.bi, SL.lm, SL.lmT, SL.cmp, op2, SL.wipe]
      rw [ridx at_end2 ea]
      simp [pD, dSs, dS, dT, dEs, dTs, dIfs, dI, dTg, dTgs, lay, tst, ini, tsLen, SL.bi, SL.lm, SL.lmT, SL.cmp, op2, SL.wipe, m0, sz]
      refine ⟨by omega, by omega, ?_⟩
      refine for_rng (fun _ => trivial) m.l.toNat (fun c s H => ∃ (y7 y8 : Option D), s = [some (mD m), some (mD o), some (.ref h.length), some (.ref (h.length + 1)), some (.int j), some (.int x.2.1), some (.int x.2.2), y7, y8] ∧ H = pqH h (growTo m o x (seqL m o j) c)) ?_ ?_ _ _ ⟨_, _, rfl, rfl⟩
      · rintro c s H hc ⟨y7, y8, rfl, rfl⟩ Nx2 hN2
        simp [dTg]
        have gok := growTo_ok k k2 hl hxo ((seq_ok k k2 hl j).mono (by omega : j ≤ j + 1)) c (by omega)
        have gl := gok.len
        obtain ⟨g, eg⟩ := growTo_pre m o x (seqL m o j) c
        exact pq_turn (e := ⟨Nx2, _, _, Nx2, _⟩) k k2 hl hxo (by omega) gok (j := j) (by rw [eg, List.getElem?_append_left hlt]; exact hx) (by omega) (by omega) rfl fun y8 => hN2 _ _ ⟨_, _, rfl, by rw [growTo_succ]⟩
      · rintro s H ⟨y7, y8, rfl, rfl⟩
        have es : growTo m o x (seqL m o j) m.l.toNat = seqL m o (j + 1) := by rw [seqL, hx]
        rw [es]
        exact hN _ _ ⟨_, _, _, _, _, rfl, rfl⟩
    · rw [if_neg hlt]
      have es : seqL m o j = seqL m o (j + 1) := by rw [seqL, List.getElem?_eq_none (by omega)]
      rw [es]
      exact hN _ _ ⟨_, _, _, _, _, rfl, rfl⟩
  · rintro s H ⟨x4, x5, x6, x7, x8, rfl, rfl⟩
    simp [dSs, dS, dT, dEs, dTs, dIfs, dI, dTg, dTgs, lay, tst, ini, tsLen, SL.bi, SL.lm, SL.lmT, SL.cmp, op2, SL.wipe]
    exact gc3 ⟨[_, _], rfl⟩ (Nat.le_refl _) at_end1 (clo_kW _ _) q
theorem strs_rd (h : Hp) (n : Nat) : ∀ ws : List Tx, rdAll (rd h n) (ws.map .str) = some (ws.map fun w => .str (tS w))
  | [] => rfl
  | w :: ws => by
    have e : rd h n (.str w) = some (.str (tS w)) := by cases n <;> rfl
    rw [List.map_cons, rdAll, e, strs_rd h n ws]
    rfl
theorem eqv_l0 (xs : List PyData) : PyData.eqv (.list xs) (.list []) = xs.isEmpty := by
  cases xs <;> simp [PyData.eqv, PyData.eqvAll]
theorem eqD_strs0 {h : Hp} {l : Nat} {ws : List Tx} {Q : Bool → Prop} (e : h[l]? = some (.lst (ws.map .str))) (q : Q ws.isEmpty) : eqD h (.d (.ref l)) (.l []) Q := by
  have e1 : rdT h (.d (.ref l)) = some (.list (ws.map fun w => .str (tS w))) := by
    show rd h 60 (.ref l) = _
    rw [rd, e]
    show (rdAll (rd h 59) (ws.map .str)).map PyData.list = _
    rw [strs_rd]
    rfl
  have e2 : rdT h (.l []) = some (.list []) := rfl
  simp only [eqD, e1, e2, eqv_l0, List.isEmpty_map]
  exact q
theorem fullL_ne (m o : Mach) : fullL m o ≠ [] := by
  obtain ⟨g, e⟩ := seq_pre m o 0 (m.rows.length * o.rows.length)
  rw [Nat.zero_add] at e
  unfold fullL
  rw [e]
  simp [seqL]
theorem sp_lparting {P : Prog} (hp : P.lookup "_law_pairs" = some f_law_pairs) (hf : P.lookup "_law_parting" = some f_law_parting) {n : Nat} {m o : Mach} (k : MachOk m) (k2 : MachOk o) (hl : m.l = o.l) {h : Hp} {Q : D → Hp → Prop} (q : Q (pwD m o) h) : callN P (n + 2) "_law_parting" [mD m, mD o] h Q R0' := by
  refine call_go hf rfl ?_
  have nn := nn_le k k2
  have fl := seq_len k k2 hl (m.rows.length * o.rows.length)
  have nd := (seq_ok k k2 hl (m.rows.length * o.rows.length)).nd
  have fl' : (fullL m o).length ≤ 1024 := Nat.le_trans fl nn
  have nd' : ((fullL m o).map (·.2)).Nodup := nd
  have hne := fullL_ne m o
  have hpw : pwD m o = match (fullL m o).find? (differ m o) with
    | some x => .str x.1
    | none => .non := by
    unfold pwD partM
    cases (fullL m o).find? (differ m o) <;> rfl
  simp [f_law_parting, dSs, dS, dT, dEs, dTs, dIfs, dI, dTg, dTgs, lay, tst, ini, tsLen, SL.bi, SL.lm, SL.lmT, SL.cmp, op2, SL.wipe]
  refine sp_pairs hp (n := n) k k2 hl ?_
  generalize fullL m o = L at *
  simp [pz1, dSs, dS, dT, dEs, dTs, dIfs, dI, dTg, dTgs, lay, tst, ini, tsLen, SL.bi, SL.lm, SL.lmT, SL.cmp, op2, SL.wipe, at_end]
  refine ⟨by unfold kW kD; simp [hne], fun d d2 hd => ?_, fun ob => ?_⟩
  · unfold kW kD at hd
    obtain ⟨x, _, e⟩ := List.mem_map.mp hd
    cases e
    rfl
  have ek : (kW L).map (·.1) = L.map fun x => pD x.2 := by
    unfold kW kD
    rw [List.map_map]
    rfl
  rw [ek]
  have atL : (h ++ [O.lck ob (kW L)])[h.length]? = some (.lck ob (kW L)) := at_end
  refine comp_inv (fun r acc H => ∃ L1 L2, L = L1 ++ L2 ∧ r = L2.map (fun x => pD x.2) ∧ acc = (L1.filter (differ m o)).map (fun x => D.str x.1) ∧ H = h ++ [O.lck ob (kW L)]) ?_ ?_ _ _ _ ⟨[], L, rfl, rfl, rfl, rfl⟩
  · rintro d r acc H ⟨L1, L2, eL, er, rfl, rfl⟩
    cases L2 with
    | nil => cases er
    | cons x L2 =>
      cases er
      have hx : x ∈ L := by rw [eL]; simp
      have hlen : L.length = L1.length + (L2.length + 1) := by rw [eL]; simp
      have fle := List.length_filter_le (differ m o) L1
      refine ⟨atL, by rw [List.length_map]; simp only [sz]; omega, fun qq hq => ?_⟩
      rw [pd0, m2]
      refine inn_ends ?_
      rw [pd1, m2]
      refine inn_ends (bb_ne ?_)
      have hd : (decide (x.2.1 ∈ m.ends) == decide (x.2.2 ∈ o.ends)) = !differ m o x := by
        unfold differ
        cases decide (x.2.1 ∈ m.ends) <;> cases decide (x.2.2 ∈ o.ends) <;> rfl
      rw [hd]
      cases hdf : differ m o x with
      | true =>
        simp only [tru, Bool.not_true, Bool.not_false, if_true, idx, atL]
        refine ⟨fit_kD _ _ L _, ?_⟩
        rw [kget_some _ _ nd' hx]
        exact hq (some (.str x.1)) _ ⟨L1 ++ [x], L2, by rw [eL]; simp, rfl, by rw [List.filter_append, List.filter_cons, hdf]; simp, rfl⟩
      | false =>
        simp only [tru, Bool.not_false, Bool.not_true, Bool.false_eq_true, if_false]
        exact hq none _ ⟨L1 ++ [x], L2, by rw [eL]; simp, rfl, by rw [List.filter_append, List.filter_cons, hdf]; simp, rfl⟩
  · rintro acc H ⟨L1, L2, eL, er, rfl, rfl⟩
    have hL2 : L2 = [] := by
      cases L2 with
      | nil => rfl
      | cons _ _ => cases er
    subst hL2
    rw [List.append_nil] at eL
    subst eL
    refine ⟨atL, ?_⟩
    cases hf : L.filter (differ m o) with
    | nil =>
      have e : pwD m o = .non := by
        rw [hpw]
        have : L.find? (differ m o) = none := by
          rw [List.find?_eq_none]
          intro x hx hd
          have : x ∈ L.filter (differ m o) := List.mem_filter.mpr ⟨hx, hd⟩
          rw [hf] at this
          cases this
        rw [this]
      simp [pz2, dSs, dS, dT, dEs, dTs, dIfs, dI, dTg, dTgs, lay, tst, ini, tsLen, SL.bi, SL.lm, SL.lmT, SL.cmp, op2, SL.wipe]
      refine eqD_strs0 (ws := []) (by simp) ?_
      simp [tru]
      rw [← e]
      exact gcN (by rw [e]; rfl) q
    | cons x r =>
      have e : pwD m o = .str x.1 := by
        rw [hpw]
        have : L.find? (differ m o) = some x := by
          rw [← List.head?_filter, hf]
          rfl
        rw [this]
      simp [pz2, dSs, dS, dT, dEs, dTs, dIfs, dI, dTg, dTgs, lay, tst, ini, tsLen, SL.bi, SL.lm, SL.lmT, SL.cmp, op2, SL.wipe]
      refine eqD_strs0 (ws := x.1 :: r.map (·.1)) (by simp) ?_
      simp [tru]
      rw [ridx (xs := .str x.1 :: r.map fun x => D.str x.1) (d := .str x.1) (by simp) (by simp [L2.atI, L2.ixN])]
      simp
      rw [← e]
      exact gcN (by rw [e]; rfl) q
end Lw

set_option linter.all false
set_option autoImplicit false
set_option maxRecDepth 100000
set_option Elab.async false
set_option maxHeartbeats 1000000
namespace Lw
open PySem SL
def lf3 : Ss := (.cons (.ret (.cst .non))
    Ss.nil)
def lf2b3b2 : Ss := (.cons (.asg (.nm 12) (.tup (.cons (.var 10) (.cons (.toT (.seq (.call "_law_least" (.cons (.var 11) Es.nil)))) Es.nil))))
    (putBs 12 3 4 5 9))
def lf2b3b1 : Ss := (.cons (.asg (.nm 11) (.sset (.op .add (.comp (.call "_law_image" (.cons (.var 0) (.cons (.var 8) (.cons (.var 9) Es.nil)))) (.nm 8) (.val (.var 7)) Es.nil [8]) (.op .mul (.lst (.cons (.var 1) Es.nil)) (.bi .int (.cons (.cmp .inn (.var 10) (.var 1)) Es.nil))))))
    lf2b3b2)
def lf2b3b0 : Ss := (.cons (.asg (.nm 10) (.idx (.idx (.idx (.var 0) (.cst (.int 1))) (.var 6)) (.var 9)))
    lf2b3b1)
def lf2b3 : Ss := (.cons (.for (.nm 9) (.rng (.idx (.var 0) (.cst (.int 0)))) lf2b3b0)
    Ss.nil)
def lf2b2 : Ss := (.cons (.ifs (.and (.cmp .inn (.var 6) (.idx (.var 0) (.cst (.int 2)))) (.cmp .eq (.comp (.var 8) (.nm 8) (.val (.var 7)) (.cons (.call "_law_are_ends" (.cons (.var 0) (.cons (.var 8) Es.nil))) Es.nil) [8]) (.lst Es.nil))) (.cons (.ret (.idx (.var 3) (.idx (.var 4) (.var 5))))
    Ss.nil) Ss.nil)
    lf2b3)
def lf2b1 : Ss := (.cons (.asg (.tp (.cons (.nm 6) (.cons (.nm 7) Ts.nil))) (.idx (.var 4) (.var 5)))
    lf2b2)
def lf2b0 : Ss := (.cons (.ifs (.cmp .eq (.var 5) (.bi .len (.cons (.var 4) Es.nil))) (.cons (.ret (.cst .non))
    Ss.nil) Ss.nil)
    lf2b1)
def lf2 : Ss := (.cons (.for (.nm 5) (.rng (.cst (.int 20000))) lf2b0)
    lf3)
def lf1 : Ss := (.cons (.par (.cons (.nm 3) (.cons (.nm 4) Ts.nil)) (.cons (.dicT (.var 2) (.cst (.str []))) (.cons (.lst (.cons (.var 2) Es.nil)) Es.nil)))
    lf2)
def lf0 : Ss := (.cons (.asg (.nm 2) (.tup (.cons (.cst (.int 0)) (.cons (.ite (.cmp .inn (.cst (.int 0)) (.var 1)) (.tup (.cons (.var 1) Es.nil)) (.tup Es.nil)) Es.nil))))
    lf1)
def f_law_failing : Fn := ⟨2, 13, lf0⟩
structure KG (P : Prog) : Prop where
  image : P.lookup "_law_image" = some f_led
  lEnds : P.lookup "_law_are_ends" = some f_law_are_ends
  least : P.lookup "_law_least" = some f_law_least
theorem addL {h : Hp} {x y : List D} {Q : TV → Prop} (hl : x.length + y.length ≤ sz) (q : Q (.l (x ++ y))) : addD h (.l x) (.l y) Q := ⟨hl, q⟩
/-- one letter -/
theorem lg_turn {P : Prog} (hP : KG P) {n : Nat} {m : Mach} (k : MachOk m) (n5 : m.rows.length ≤ 5) {ct : List Int} (c5 : CutOk m.rows.length ct) {x : Tx × Fn_} (hx : NodeI m x.2) (hxl : x.1.length ≤ 1000) {L : List (Tx × Fn_)} (hL : L.length ≤ 1000) (nd : (L.map (·.2)).Nodup) {j : Nat} (hj : L[j]? = some x) {c : Nat} (hc : (c : Int) < m.l) {h H : Hp} (hH : BfH ndD gvB (gqB ndD) h L H) {e : En} {x2 x8 x10 x11 x12 : Option D} (he : e.xr = fun _ _ _ _ => False)
    (q : ∀ y10 y11 y12 H', BfH ndD gvB (gqB ndD) h (bGrow (stepN m ct) x L c) H' → e.nx [some (mD m), some (tI ct), x2, some (.ref h.length), some (.ref (h.length + 1)), some (.int j), some (.int x.2.1), some (.tup (x.2.2.map tI)), x8, some (.int c), y10, y11, y12] H') :
    dSs ⟨callN P (n + 1)⟩ lf2b3b0 e [some (mD m), some (tI ct), x2, some (.ref h.length), some (.ref (h.length + 1)), some (.int j), some (.int x.2.1), some (.tup (x.2.2.map tI)), x8, some (.int c), x10, x11, x12] H := by
  obtain ⟨e1, e2, e3, e4, e5⟩ := e
  cases he
  have l3 := k.l3
  obtain ⟨b0, b1, r, a1, a2⟩ := to_in k hx.1.t0 hx.2.1 hc
  obtain ⟨al, am⟩ := after_ok k n5 c5 hx hc
  have h16 := node_len hx.1
  simp [lf2b3b0, lf2b3b1, dSs, dS, dT, dEs, dTs, dIfs, dI, dTg, dTgs, lay, tst, ini, tsLen, SL.bi, SL.lm, SL.lmT, SL.cmp, op2, SL.wipe, m1]
  simp [idx, a1, a2]
  try simp [walk]
  refine comp_map (st := fun _ => True) (fun v => tI (imgS m (backI v) c)) trivial _ [] (by simp only [List.length_map, List.length_nil, sz]; omega) (fun v hv qq z => ?_) ?_
  · obtain ⟨A, hA, rfl⟩ := List.mem_map.mp hv
    rw [backI_tI] at z
    try simp [dTg, dIfs, dT, dEs, lay]
    exact led_go hP.image (n := n) k (hx.2.2 A hA) (by have := in_len (n := 0) (by omega) (hx.1.sets A hA); omega) hc z
  · rw [List.nil_append, map_back x.2.2 fun A => imgS m A c]
    simp [sz, -List.map_map]
    refine inn_ends ?_
    have ea : ∀ {Q : TV → Hp → Prop}, Q (.l ((afterN m ct x.2 c).map tI)) H → biInt H [.d (.bl (decide (toM m x.2.1 c ∈ ct)))] fun y h2 => mulD h2 (.l [tI ct]) y fun z => addD h2 (.l ((x.2.2.map fun A => imgS m A c).map tI)) z fun z => Q z h2 := fun {Q} q => by
      by_cases hm : toM m x.2.1 c ∈ ct
      · have : ((x.2.2.map fun A => imgS m A c).map tI) ++ [tI ct] = (afterN m ct x.2 c).map tI := by simp [afterN, hm]
        rw [← this] at q
        simp [biInt, mulD, lstOf, rep, sz, hm, -List.map_map]
        exact addL (by simp [sz]; omega) q
      · have : ((x.2.2.map fun A => imgS m A c).map tI) ++ [] = (afterN m ct x.2 c).map tI := by simp [afterN, hm]
        rw [← this] at q
        simp [biInt, mulD, lstOf, rep, sz, hm, -List.map_map]
        exact addL (by simp [sz]; omega) q
    refine ea ?_
    have tl := tset_len (afterN m ct x.2 c)
    have ll := least_len (us := tset (afterN m ct x.2 c))
    refine sset_tups (ts := afterN m ct x.2 c) rfl rfl (by omega) (fun t ht => (am t ht).1) ?_
    simp [lay, lf2b3b2, dSs, dS, dT, dEs, dTs, dIfs, dI, dTg, dTgs, lay, tst, ini, tsLen, SL.bi, SL.lm, SL.lmT, SL.cmp, op2, SL.wipe]
    refine sp_lleast hP.least (n := n) (us := tset (afterN m ct x.2 c)) at_end (by omega) (fun t ht => by have := (am t (mem_tset.mp ht)).2; omega) ?_
    simp [sz]
    rw [items_ref (xs := (leastsT (tset (afterN m ct x.2 c))).map tI) (by simp)]
    simp [sz]
    refine ⟨by omega, ?_⟩
    refine putB (c := c) (x := x) (L := L) ndK (stepN m ct) rfl rfl rfl rfl rfl (by omega) (by omega) (by omega) hj nd (hH.grow ⟨[_, _], rfl⟩) fun H' hH' => ?_
    exact q _ _ _ H' hH'
theorem eqD_i {h : Hp} {i j : Int} {Q : Bool → Prop} (q : Q (decide (i = j))) : eqD h (.d (.int i)) (.d (.int j)) Q := by
  have e1 : rdT h (.d (.int i)) = some (.int i) := rfl
  have e2 : rdT h (.d (.int j)) = some (.int j) := rfl
  simp only [eqD, e1, e2, eqv_int]
  exact q
def endF (m : Mach) : D → Option D := fun v => if endsM m (backI v) = true then some v else none
theorem eqD_tIs0 {h : Hp} {ts : List (List Int)} {Q : Bool → Prop} (q : Q ts.isEmpty) : eqD h (.l (ts.map tI)) (.l []) Q := by
  have e1 : rdT h (.l (ts.map tI)) = some (.list (ts.map tP)) := by
    show (rdL h _).map PyData.list = _
    rw [tIs_rd]
    rfl
  have e2 : rdT h (.l []) = some (.list []) := rfl
  simp only [eqD, e1, e2, eqv_l0, List.isEmpty_map]
  exact q
theorem lg_step {P : Prog} (hP : KG P) {n : Nat} {m : Mach} (k : MachOk m) (n5 : m.rows.length ≤ 5) {ct : List Int} (c5 : CutOk m.rows.length ct) {j : Nat} (hj : j ≤ 840) (hjl : j ≤ (bSeq (stepN m ct) m.l.toNat (beginN ct) j).length) {h H : Hp} (hH : BfH ndD gvB (gqB ndD) h (bSeq (stepN m ct) m.l.toNat (beginN ct) j) H) {e : En} {x2 x6 x7 x8 x9 x10 x11 x12 : Option D} (he : e.xr = fun _ _ _ _ => False)
    (r0 : (bSeq (stepN m ct) m.l.toNat (beginN ct) j).length ≤ j → e.rt .non H)
    (r : ∀ x, (bSeq (stepN m ct) m.l.toNat (beginN ct) j)[j]? = some x → failB m x.2 = true → e.rt (.str x.1) H)
    (q : ∀ x, (bSeq (stepN m ct) m.l.toNat (beginN ct) j)[j]? = some x → failB m x.2 = false → ∀ y6 y7 y8 y9 y10 y11 y12 H', BfH ndD gvB (gqB ndD) h (bSeq (stepN m ct) m.l.toNat (beginN ct) (j + 1)) H' → e.nx [some (mD m), some (tI ct), x2, some (.ref h.length), some (.ref (h.length + 1)), some (.int j), y6, y7, y8, y9, y10, y11, y12] H') :
    dSs ⟨callN P (n + 1)⟩ lf2b0 e [some (mD m), some (tI ct), x2, some (.ref h.length), some (.ref (h.length + 1)), some (.int j), x6, x7, x8, x9, x10, x11, x12] H := by
  obtain ⟨e1, e2, e3, e4, e5⟩ := e
  cases he
  obtain ⟨ok, okl⟩ := fail_ok k n5 c5 j
  have l1 := k.l1
  have l3 := k.l3
  simp [lf2b0, dSs, dS, dT, dEs, dTs, dIfs, dI, dTg, dTgs, lay, tst, ini, tsLen, SL.bi, SL.lm, SL.lmT, SL.cmp, op2, SL.wipe, biLen, SL.len, hH.at1]
  refine eqD_i ?_
  by_cases hl : (bSeq (stepN m ct) m.l.toNat (beginN ct) j).length ≤ j
  · have e0 : ((j : Int) = ((bSeq (stepN m ct) m.l.toNat (beginN ct) j).length : Int)) := by omega
    rw [decide_eq_true e0]
    simp [tru]
    exact r0 hl
  · have e0 : ¬ ((j : Int) = ((bSeq (stepN m ct) m.l.toNat (beginN ct) j).length : Int)) := by omega
    rw [decide_eq_false e0]
    have hlt : j < (bSeq (stepN m ct) m.l.toNat (beginN ct) j).length := by omega
    have hx : (bSeq (stepN m ct) m.l.toNat (beginN ct) j)[j]? = some (bSeq (stepN m ct) m.l.toNat (beginN ct) j)[j] := List.getElem?_eq_getElem hlt
    generalize (bSeq (stepN m ct) m.l.toNat (beginN ct) j)[j] = x at hx
    have hxo := ok.ok x (List.mem_of_getElem? hx)
    have h16 := node_len hxo.1.1
    simp [tru, lf2b1, dSs, dS, dT, dEs, dTs, dIfs, dI, dTg, dTgs, lay, tst, ini, tsLen, SL.bi, SL.lm, SL.lmT, SL.cmp, op2, SL.wipe]
    rw [ridx hH.at1 (lmq_at hH hx)]
    simp [gqB, ndD, dSs, dS, dT, dEs, dTs, dIfs, dI, dTg, dTgs, lay, tst, ini, tsLen, SL.bi, SL.lm, SL.lmT, SL.cmp, op2, SL.wipe, lf2b2, m2]
    refine inn_ends ?_
    have rest : failB m x.2 = false → dSs ⟨callN P (n + 1)⟩ lf2b3 ⟨e1, e2, e3, e4, fun _ _ _ _ => False⟩ [some (mD m), some (tI ct), x2, some (.ref h.length), some (.ref (h.length + 1)), some (.int j), some (.int x.2.1), some (.tup (x.2.2.map tI)), x8, x9, x10, x11, x12] H := fun h3 => by
      simp [lf2b3, dSs, dS, dT, dEs, dTs, dIfs, dI, dTg, dTgs, lay, tst, ini, tsLen, SL.bi, SL.lm, SL.lmT, SL.cmp, op2, SL.wipe, m0, sz]
      refine ⟨by omega, by omega, ?_⟩
      refine for_rng (fun _ => trivial) m.l.toNat (fun c s H => ∃ (y9 y10 y11 y12 : Option D), s = [some (mD m), some (tI ct), x2, some (.ref h.length), some (.ref (h.length + 1)), some (.int j), some (.int x.2.1), some (.tup (x.2.2.map tI)), x8, y9, y10, y11, y12] ∧ BfH ndD gvB (gqB ndD) h (bGrowTo (stepN m ct) x (bSeq (stepN m ct) m.l.toNat (beginN ct) j) c) H) ?_ ?_ _ _ ⟨_, _, _, _, rfl, hH⟩
      · rintro c s H hc ⟨y9, y10, y11, y12, rfl, hH⟩ Nx hN
        simp [dTg]
        obtain ⟨g, eg⟩ := bGrowTo_pre (stepN m ct) x (bSeq (stepN m ct) m.l.toNat (beginN ct) j) c
        have gok := bGrowTo_ok (stepN m ct) m.l.toNat (I := NodeI m) (fun a c ha hc => step_node k n5 c5 ha.1 ha.2.1 ha.2.2 (by omega)) hxo (ok.mono _ (by omega : j ≤ j + 1)) c (by omega)
        have gl : (bGrowTo (stepN m ct) x (bSeq (stepN m ct) m.l.toNat (beginN ct) j) c).length ≤ 1000 := by
          have := nodes_len _ gok.nd fun x hx => by
            obtain ⟨y, hy, rfl⟩ := List.mem_map.mp hx
            exact (gok.ok y hy).1.1
          rw [List.length_map] at this
          omega
        exact lg_turn (e := ⟨Nx, _, _, Nx, _⟩) hP (n := n) k n5 c5 hxo.1 (by omega) gl gok.nd (j := j) (by rw [eg, List.getElem?_append_left hlt]; exact hx) (by omega) hH rfl fun y10 y11 y12 H' hH' => hN _ _ ⟨_, _, _, _, rfl, by rw [bGrowTo_succ]; exact hH'⟩
      · rintro s H ⟨y9, y10, y11, y12, rfl, hH⟩
        have es : bGrowTo (stepN m ct) x (bSeq (stepN m ct) m.l.toNat (beginN ct) j) m.l.toNat = bSeq (stepN m ct) m.l.toNat (beginN ct) (j + 1) := by rw [bSeq, hx]
        rw [es] at hH
        exact q x hx h3 _ _ _ _ _ _ _ _ hH
    by_cases hm : x.2.1 ∈ m.ends
    · simp [hm, tru, dSs, dS, dT, dEs, dTs, dIfs, dI, dTg, dTgs, lay, tst, ini, tsLen, SL.bi, SL.lm, SL.lmT, SL.cmp, op2, SL.wipe, walk]
      refine comp_filter (st := fun _ => True) (endF m) trivial _ [] (by simp only [List.length_map, List.length_nil, sz]; omega) (fun v hv qq z => ?_) ?_
      · obtain ⟨A, hA, rfl⟩ := List.mem_map.mp hv
        have ez : endF m (tI A) = if endsM m A = true then some (tI A) else none := by unfold endF; rw [backI_tI]
        rw [ez] at z
        try simp [dTg, dIfs, dT, dEs, lay]
        refine sp_lendsT hP.lEnds (n := n) (by have := in_len (n := 0) (by omega) (hxo.1.1.sets A hA); omega) ?_
        cases hb : endsM m A with
        | true =>
          simp [hb, tru] at z ⊢
          exact z
        | false =>
          simp [hb, tru] at z ⊢
          exact z
      · rw [List.nil_append, show (x.2.2.map tI).filterMap (endF m) = (x.2.2.filter fun A => endsM m A).map tI from filter_back x.2.2 _]
        refine eqD_tIs0 ?_
        have ef : failB m x.2 = (x.2.2.filter fun A => endsM m A).isEmpty := by
          unfold failB
          rw [decide_eq_true hm, Bool.true_and, Bool.eq_iff_iff, List.isEmpty_iff, List.filter_eq_nil_iff, Bool.not_eq_true', List.any_eq_false]
        cases hb : (x.2.2.filter fun A => endsM m A).isEmpty with
        | true =>
          rw [hb] at ef
          simp [tru]
          rw [ridx hH.at1 (lmq_at hH hx)]
          simp only [SL.idx, hH.at0]
          refine ⟨fit_kF ndK _ _ _ _, ?_⟩
          rw [show gqB ndD x = ndD x.2 from rfl, kFget_some ndK (fun x => x.2) gvB ok.nd (List.mem_of_getElem? hx)]
          simp [gvB]
          exact r x hx ef
        | false =>
          rw [hb] at ef
          simp [tru]
          exact rest ef
    · simp [hm, tru]
      exact rest (by unfold failB; rw [decide_eq_false hm, Bool.false_and])
theorem sp_lfailing {P : Prog} (hP : KG P) (hf : P.lookup "_law_failing" = some f_law_failing) {n : Nat} {m : Mach} (k : MachOk m) (n5 : m.rows.length ≤ 5) {ct : List Int} (c5 : CutOk m.rows.length ct) {h : Hp} {Q : D → Hp → Prop} (q : Q (optD (failD m ct)) h) : callN P (n + 2) "_law_failing" [mD m, tI ct] h Q R0' := by
  refine call_go hf rfl ?_
  have go : dSs ⟨callN P (n + 1)⟩ lf1 ⟨fun _ h2 => gcq h Q .non h2, gcq h Q, fun _ _ => False, fun _ _ => False, fun c fs _ h2 => R0' c fs h2⟩ [some (mD m), some (tI ct), some (ndD (beginN ct)), none, none, none, none, none, none, none, none, none, none] h := by
    simp [lf1, dSs, dS, dT, dEs, dTs, dIfs, dI, dTg, dTgs, lay, tst, ini, tsLen, SL.bi, SL.lm, SL.lmT, SL.cmp, op2, SL.wipe, sz]
    refine ⟨ndK.tup _, ?_⟩
    simp only [lf2, dSs, dS, dI, dT]
    refine ⟨by decide, by decide, ?_⟩
    have hN := fun j => (fail_ok k n5 c5 j).2
    refine forB (kf := ndD) (gv := gvB) (gq := gqB ndD) (h := h) (st := stepN m ct) (l := m.l.toNat) (b := beginN ct) (N := 840) (f := failB m) (M := 20000) (by decide) hN (fun j s => ∃ y5 y6 y7 y8 y9 y10 y11 y12 : Option D, s = [some (mD m), some (tI ct), some (ndD (beginN ct)), some (.ref h.length), some (.ref (h.length + 1)), y5, y6, y7, y8, y9, y10, y11, y12]) ?_ ⟨_, _, _, _, _, _, _, _, rfl⟩ ⟨[], by simp [bSeq, kF, gvB, gqB]⟩
    rintro j s H hj ⟨y5, y6, y7, y8, y9, y10, y11, y12, rfl⟩ hH hjl hno hfound Nx hNx
    simp only [dTg]
    refine lg_step hP (n := n) (e := ⟨Nx, _, _, Nx, _⟩) k n5 c5 hj hjl hH rfl (fun hl => ?_) (fun x hx h3 => ?_) fun x hx h3 z6 z7 z8 z9 z10 z11 z12 H' hH' => hNx x hx h3 _ _ ⟨_, _, _, _, _, _, _, _, rfl⟩ hH'
    · have e : optD (failD m ct) = .non := by unfold failD; rw [hno hl]; rfl
      rw [e] at q
      exact hH.end_ rfl q
    · have e : optD (failD m ct) = .str x.1 := by unfold failD; rw [hfound x hx h3]; rfl
      rw [e] at q
      exact hH.end_ rfl q
  simp [f_law_failing, lf0, dSs, dS, dT, dEs, dTs, dIfs, dI, dTg, dTgs, lay, tst, ini, tsLen, SL.bi, SL.lm, SL.lmT, SL.cmp, op2, SL.wipe, tI]
  refine inn_ends ?_
  by_cases hm : (0 : Int) ∈ ct
  · simp [beginN, hm, ndD] at go
    simp [hm, tru, sz]
    exact go
  · simp [beginN, hm, ndD] at go
    simp [hm, tru, sz]
    exact go
end Lw

set_option linter.all false
set_option autoImplicit false
set_option maxRecDepth 100000
set_option Elab.async false
set_option maxHeartbeats 4000000
namespace Lw
open PySem SL
/-! ### the law's words, one by one -/
def extW (l : Nat) (w : Tx) : List Tx := (List.range l).map fun c => w ++ [97 + c]
theorem abc_ext {l : Int} (l1 : 1 ≤ l) (l3 : l ≤ 3) (w : Tx) : (abc l).map (fun c => w ++ [c]) = extW l.toNat w := by
  have hl : l = 1 ∨ l = 2 ∨ l = 3 := by omega
  rcases hl with rfl | rfl | rfl <;> rfl
theorem ext_len (l : Nat) (w : Tx) : (extW l w).length = l := by unfold extW; rw [List.length_map, List.length_range]
theorem wd_turnX {P : Prog} {n : Nat} {l : Int} {H : Hp} {w : Tx} {lo : Nat} {ls : List Tx} {e : En} {x1 x2 x3 x4 x7 : Option D} (l1 : 1 ≤ l) (l3 : l ≤ 3) (hw : w.length ≤ 100) (hlo : H[lo]? = some (.lst (ls.map .str))) (hn : ls.length ≤ 1000) (he : e.xr = fun _ _ _ _ => False)
    (q : ∀ (y7 : Option D), e.nx [some (.int l), x1, x2, x3, x4, some (.ref H.length), some (.str w), y7] (H ++ [.lst ((ls ++ extW l.toNat w).map .str)])) :
    dSs ⟨callN P n⟩ wdI e [some (.int l), x1, x2, x3, x4, some (.ref lo), some (.str w), x7] H := by
  obtain ⟨e1, e2, e3, e4, e5⟩ := e
  cases he
  simp [wdI, dSs, dS, dT, dEs, dTs, dIfs, dI, dTg, dTgs, lay, tst, ini, tsLen, SL.bi, SL.lm, SL.lmT, SL.cmp, op2, SL.wipe, slc, cut_abc l1 l3, walk, sz]
  have al := abc_len l l1 l3
  refine comp_map (fun x => match x with
    | .str [c] => .str (w ++ [c])
    | y => y) trivial _ [] (by simp only [List.length_map, List.length_nil, sz]; omega) (fun x m q z => ?_) ?_
  · obtain ⟨c, _, rfl⟩ := mem_sig m
    simp [addD, sz]
    exact ⟨by omega, z⟩
  · have e0 : ([] ++ ((abc l).map fun c => D.str [c]).map (fun x => match x with
        | .str [c] => D.str (w ++ [c])
        | y => y)) = ((abc l).map fun c => w ++ [c]).map D.str := by
      rw [List.nil_append, List.map_map, List.map_map]
      rfl
    rw [e0]
    have e1' : lstOf H (.d (.ref lo)) = some (ls.map .str) := by simp only [lstOf, hlo]
    have e2' : lstOf H (.l (((abc l).map fun c => w ++ [c]).map D.str)) = some (((abc l).map fun c => w ++ [c]).map D.str) := rfl
    simp only [addD, e1', e2']
    refine ⟨by simp only [List.length_map, sz]; omega, ?_⟩
    rw [← List.map_append, abc_ext l1 l3]
    exact q _
theorem lev_len (l : Nat) : ∀ k, (levW l k).length = l ^ k
  | 0 => rfl
  | k + 1 => by
    rw [levW, List.length_flatMap, show (List.map (fun w => ((List.range l).map fun c => w ++ [97 + c]).length) (levW l k)) = List.replicate (levW l k).length l from ?_, List.sum_replicate_nat, lev_len l k, Nat.pow_succ]
    rw [List.eq_replicate_iff]
    refine ⟨by simp, fun b hb => ?_⟩
    obtain ⟨w, _, rfl⟩ := List.mem_map.mp hb
    simp
theorem all_len {l : Nat} (l3 : l ≤ 3) : ∀ k, k ≤ 5 → (allW l k).length ≤ 400
  | 0, _ => by simp [allW]
  | k + 1, hk => by
    have h : ∀ k, (allW l k).length ≤ (List.range (k + 1)).foldl (fun s i => s + 3 ^ i) 0 := fun k => by
      induction k with
      | zero => simp [allW]
      | succ k ih =>
        rw [List.range_succ, List.foldl_append, allW, List.length_append, lev_len]
        have := Nat.pow_le_pow_left l3 (k + 1)
        simp only [List.foldl_cons, List.foldl_nil]
        omega
    have := h (k + 1)
    have hk : k = 0 ∨ k = 1 ∨ k = 2 ∨ k = 3 ∨ k = 4 := by omega
    rcases hk with rfl | rfl | rfl | rfl | rfl <;> exact Nat.le_trans this (by decide)
theorem sp_wordsX {P : Prog} (hf : P.lookup "_law_words" = some f_law_words) {n : Nat} {l : Int} {mo : Nat} (mo5 : mo ≤ 5) {h : Hp} {Q : D → Hp → Prop} (l1 : 1 ≤ l) (l3 : l ≤ 3) (q : Q (.ref h.length) (h ++ [.lst ((allW l.toNat mo).map .str)])) : callN P (n + 1) "_law_words" [.int l, .int mo] h Q R0' := by
  refine call_go hf rfl ?_
  simp [f_law_words, dSs, dS, dT, dEs, dTs, dIfs, dI, dTg, dTgs, lay, tst, ini, tsLen, SL.bi, SL.lm, SL.lmT, SL.cmp, op2, SL.wipe, sz]
  refine ⟨by omega, ?_⟩
  refine for_rng (fun _ => trivial) mo (fun k s H => ∃ (f la : Nat) (x4 x5 x6 x7 : Option D), s = [some (.int l), some (.int mo), some (.ref f), some (.ref la), x4, x5, x6, x7] ∧ Gr h H ∧ h.length ≤ f ∧ H[f]? = some (.lst ((allW l.toNat k).map .str)) ∧ H[la]? = some (.lst ((levW l.toNat k).map .str))) ?_ ?_ _ _
    ⟨h.length, h.length + 1, _, _, _, _, rfl, ⟨[.lst [.str []], .lst [.str []]], by simp⟩, Nat.le_refl _, by simp [allW], by simp [levW]⟩
  · rintro k s H hk ⟨f, la, x4, x5, x6, x7, rfl, hG, hf, ef, el⟩ Nx hN
    have ll : (levW l.toNat k).length ≤ 300 := by
      rw [lev_len]
      have := Nat.pow_le_pow_left (by omega : l.toNat ≤ 3) k
      have h2 := Nat.pow_le_pow_right (by decide : 0 < 3) (by omega : k ≤ 5)
      have : 3 ^ 5 = 243 := rfl
      omega
    have la5 := all_len (l := l.toNat) (by omega) k (by omega)
    have lw : ∀ w, w ∈ levW l.toNat k → w.length = k := fun w hw => ((lev_in _ k w).mp hw).2
    simp [dSs, dS, dT, dEs, dTs, dIfs, dI, dTg, dTgs, lay, tst, ini, tsLen, SL.bi, SL.lm, SL.lmT, SL.cmp, op2, SL.wipe, walk, at_app (o := .lst []) el]
    refine for_inv (fun r s H2 => ∃ (ps qs : List Tx) (lo : Nat) (y6 y7 : Option D), levW l.toNat k = ps ++ qs ∧ r = qs.map .str ∧ s = [some (.int l), some (.int mo), some (.ref f), some (.ref la), some (.int k), some (.ref lo), y6, y7] ∧ Gr H H2 ∧ H2[lo]? = some (.lst ((ps.flatMap (extW l.toNat)).map .str)) ∧ (ps.flatMap (extW l.toNat)).length ≤ 3 * ps.length) ?_ ?_ _ _ _ ⟨[], levW l.toNat k, H.length, _, _, rfl, rfl, rfl, ⟨[.lst []], rfl⟩, at_end, Nat.le_refl _⟩
    · rintro x r s H2 ⟨ps, qs, lo, y6, y7, e1, e2, rfl, g2, eo, no⟩
      cases qs with
      | nil => cases e2
      | cons w qs =>
        cases e2
        have el2 : H2[la]? = some (.lst ((levW l.toNat k).map .str)) := by
          obtain ⟨g, rfl⟩ := g2
          rw [List.getElem?_append_left (List.getElem?_eq_some_iff.mp el).1]
          exact el
        have hlen : (levW l.toNat k).length = ps.length + (qs.length + 1) := by rw [e1]; simp
        refine ⟨el2, fun Nx2 hN2 => ?_⟩
        simp [dTg]
        refine wd_turnX (e := ⟨Nx2, _, _, Nx2, _⟩) l1 l3 (by rw [lw w (by rw [e1]; simp)]; omega) eo (by omega) rfl fun y7' => hN2 _ _ ⟨ps ++ [w], qs, H2.length, _, _, by rw [e1]; simp, rfl, rfl, g2.app _, ?_, ?_⟩
        · rw [at_end, List.flatMap_append]
          simp
        · have e5 : ([w].flatMap (extW l.toNat)).length = l.toNat := by simp [ext_len]
          rw [List.flatMap_append, List.length_append, List.length_append, e5]
          show _ ≤ 3 * (ps.length + 1)
          omega
    · rintro s H2 ⟨ps, qs, lo, y6, y7, e1, e2, rfl, g2, eo, no⟩
      have hqs : qs = [] := by
        cases qs with
        | nil => rfl
        | cons _ _ => cases e2
      subst hqs
      rw [List.append_nil] at e1
      have at2 : ∀ {i : Nat} {u : O}, H[i]? = some u → H2[i]? = some u := fun {i u} e => by
        obtain ⟨g, rfl⟩ := g2
        rw [List.getElem?_append_left (List.getElem?_eq_some_iff.mp e).1]
        exact e
      have ef2 := at2 ef
      rw [← e1] at eo no
      have e3 : (levW l.toNat k).flatMap (extW l.toNat) = levW l.toNat (k + 1) := rfl
      rw [e3] at eo no
      refine ⟨at2 el, ?_⟩
      have a1 : lstOf H2 (.d (.ref f)) = some ((allW l.toNat k).map .str) := by simp only [lstOf, ef2]
      have a2 : lstOf H2 (.d (.ref lo)) = some ((levW l.toNat (k + 1)).map .str) := by simp only [lstOf, eo]
      simp [dSs, dS, dT, dEs, dTs, dIfs, dI, dTg, dTgs, lay, tst, ini, tsLen, SL.bi, SL.lm, SL.lmT, SL.cmp, op2, SL.wipe, addD, a1, a2, sz]
      refine ⟨by omega, ?_⟩
      refine hN _ _ ⟨H2.length, lo, _, _, _, _, rfl, ?_, by have := hG.len; have := g2.len; omega, by rw [allW, List.map_append]; exact at_end, at_app eo⟩
      obtain ⟨g, rfl⟩ := hG
      obtain ⟨g', rfl⟩ := g2
      exact ⟨g ++ (g' ++ [.lst ((allW l.toNat k).map .str ++ (levW l.toNat (k + 1)).map .str)]), by simp⟩
  · rintro s H ⟨f, la, x4, x5, x6, x7, rfl, hG, hf, ef, el⟩
    simp [dSs, dS, dT, dEs, dTs, dIfs, dI, dTg, dTgs, lay, tst, ini, tsLen, SL.bi, SL.lm, SL.lmT, SL.cmp, op2, SL.wipe]
    exact gc3 hG hf ef (clo_strs _ _) q
end Lw

set_option linter.all false
set_option autoImplicit false
set_option maxRecDepth 100000
set_option Elab.async false
set_option maxHeartbeats 1000000
namespace Lw
open PySem SL
/-! ### what the nodes of the search mean -/
theorem inW_word {l : Int} (l1 : 1 ≤ l) (l3 : l ≤ 3) (w : Tx) : wordIn l w = true ↔ inW l.toNat w := by
  unfold wordIn inW
  rw [List.all_eq_true]
  have hl : l = 1 ∨ l = 2 ∨ l = 3 := by omega
  have key : ∀ c : Nat, decide (c ∈ abc l) = true ↔ 97 ≤ c ∧ c < 97 + l.toNat := fun c => by
    rcases hl with rfl | rfl | rfl <;> simp [abc] <;> omega
  exact ⟨fun h c hc => (key c).mp (h c hc), fun h c hc => (key c).mpr (h c hc)⟩
theorem step_to (m : Mach) (s : Int) {c : Nat} (h0 : 97 ≤ c) (h1 : c < 100) : stepM m s c = toM m s (c - 97) := by
  unfold stepM toM
  congr 1
  have : c = 97 ∨ c = 98 ∨ c = 99 := by omega
  rcases this with rfl | rfl | rfl <;> rfl
theorem lead_snoc (m : Mach) (s : Int) (w : Tx) (c : Nat) : leadM m s (w ++ [c]) = stepM m (leadM m s w) c := by
  unfold leadM
  rw [List.foldl_append]
  rfl
theorem lead_in {m : Mach} (k : MachOk m) {s : Int} (h0 : 0 ≤ s) (h1 : s < m.rows.length) (w : Tx) (hw : inW m.l.toNat w) : 0 ≤ leadM m s w ∧ leadM m s w < m.rows.length := by
  induction w using snoc_ind with
  | h0 => exact ⟨h0, h1⟩
  | h1 w c ih =>
    obtain ⟨a, b, d⟩ := hw.init
    obtain ⟨i0, i1⟩ := ih a
    have := k.l3
    rw [lead_snoc, step_to m _ b (by omega)]
    obtain ⟨z0, z1, _⟩ := to_in k i0 i1 (c := c - 97) (by omega)
    exact ⟨z0, z1⟩
theorem up_subset {A B : List Int} (a : A.Pairwise (· < ·)) (b : B.Pairwise (· < ·)) (h1 : ∀ x, x ∈ A → x ∈ B) (h2 : ∀ x, x ∈ B → x ∈ A) : A = B := by
  have na : A.Nodup := List.nodup_iff_pairwise_ne.mpr (a.imp fun {x y} z e => by omega)
  have nb : B.Nodup := List.nodup_iff_pairwise_ne.mpr (b.imp fun {x y} z e => by omega)
  exact List.Perm.eq_of_pairwise (le := (· < ·)) (fun x y _ _ p q => by omega) a b (perm_same na nb fun x => ⟨h1 x, h2 x⟩)
/-- within each set there is a least one -/
theorem least_has {us : List (List Int)} (up : ∀ A, A ∈ us → A.Pairwise (· < ·)) : ∀ (n : Nat) (B : List Int), B.length ≤ n → B ∈ us → ∃ A, A ∈ leastsT us ∧ ∀ x, x ∈ A → x ∈ B := fun n => by
  induction n with
  | zero =>
    intro B hn hB
    have e : B = [] := List.length_eq_zero_iff.mp (by omega)
    refine ⟨B, List.mem_filter.mpr ⟨hB, ?_⟩, fun x hx => hx⟩
    cases h : lessB us B with
    | false => rfl
    | true =>
      obtain ⟨o, ho, hh⟩ := List.any_eq_true.mp h
      rw [Bool.and_eq_true, decide_eq_true_eq] at hh
      rw [e] at hh
      have : o = [] := by
        cases o with
        | nil => rfl
        | cons y _ =>
          have := List.all_eq_true.mp hh.2 y (List.mem_cons_self ..)
          simp at this
      exact absurd this hh.1
  | succ n ih =>
    intro B hn hB
    cases h : lessB us B with
    | false => exact ⟨B, List.mem_filter.mpr ⟨hB, by rw [h]; rfl⟩, fun x hx => hx⟩
    | true =>
      obtain ⟨o, ho, hh⟩ := List.any_eq_true.mp h
      rw [Bool.and_eq_true, decide_eq_true_eq] at hh
      have sub : ∀ x, x ∈ o → x ∈ B := fun x hx => of_decide_eq_true (List.all_eq_true.mp hh.2 x hx)
      have hex : ∃ x, x ∈ B ∧ x ∉ o := by
        by_cases hall : ∀ x, x ∈ B → x ∈ o
        · exact absurd (up_subset (up o ho) (up B hB) sub hall) hh.1
        · simp only [Classical.not_forall] at hall
          obtain ⟨x, hx, hn⟩ := hall
          exact ⟨x, hx, hn⟩
      obtain ⟨x, hx, hxo⟩ := hex
      have no : o.Nodup := List.nodup_iff_pairwise_ne.mpr ((up o ho).imp fun {x y} z e => by omega)
      have hlen := nodup_len2 o (B.erase x) no fun y hy => (List.mem_erase_of_ne (fun e => hxo (by rw [← e]; exact hy))).mpr (sub y hy)
      have h1 := List.length_erase_of_mem hx
      have h2 := List.length_pos_of_mem hx
      obtain ⟨A, hA, hAo⟩ := ih o (by omega) ho
      exact ⟨A, hA, fun y hy => sub y (hAo y hy)⟩
theorem mem_imgS {m : Mach} {A : List Int} {c : Nat} {y : Int} : y ∈ imgS m A c ↔ ∃ s, s ∈ A ∧ toM m s c = y := by
  unfold imgS
  rw [mem_iset, List.mem_map]
/-- what is known of the sets of a word -/
structure NodeW (m : Mach) (ct : List Int) (w : Tx) (x : Fn_) : Prop where
  at_ : x.1 = leadM m 0 w
  fro : ∀ A, A ∈ x.2 → ∃ p, p ≤ w.length ∧ leadM m 0 (w.take p) ∈ ct ∧ ∀ y, y ∈ A ↔ ∃ s, s ∈ ct ∧ leadM m s (w.drop p) = y
  to : ∀ p, p ≤ w.length → leadM m 0 (w.take p) ∈ ct → ∃ A, A ∈ x.2 ∧ ∀ y, y ∈ A → ∃ s, s ∈ ct ∧ leadM m s (w.drop p) = y
theorem node_word {m : Mach} (k : MachOk m) (n5 : m.rows.length ≤ 5) {ct : List Int} (c5 : CutOk m.rows.length ct) (w : Tx) (hw : inW m.l.toNat w) : NodeI m (runS (stepN m ct) (beginN ct) w) ∧ NodeW m ct w (runS (stepN m ct) (beginN ct) w) := by
  have l1 := k.l1
  have l3 := k.l3
  induction w using snoc_ind with
  | h0 =>
    refine ⟨begin_node k n5 c5, ⟨rfl, fun A hA => ?_, fun p hp hm => ?_⟩⟩
    · show ∃ p, p ≤ 0 ∧ _
      have hA' : A ∈ (if (0 : Int) ∈ ct then [ct] else []) := hA
      split at hA'
      · rename_i hm
        rw [List.mem_singleton.mp hA']
        exact ⟨0, Nat.le_refl 0, hm, fun y => ⟨fun hy => ⟨y, hy, rfl⟩, fun ⟨s, hs, e⟩ => e ▸ hs⟩⟩
      · cases hA'
    · have hp0 : p = 0 := Nat.le_zero.mp hp
      subst hp0
      have hm' : (0 : Int) ∈ ct := hm
      refine ⟨ct, ?_, fun y hy => ⟨y, hy, rfl⟩⟩
      show ct ∈ (if (0 : Int) ∈ ct then [ct] else [])
      rw [if_pos hm']
      exact List.mem_singleton.mpr rfl
  | h1 w c ih =>
    obtain ⟨w1, w2, w3⟩ := hw.init
    obtain ⟨I, W⟩ := ih w1
    rw [runS_snoc]
    generalize runS (stepN m ct) (beginN ct) w = x at I W ⊢
    have hc : ((c - 97 : Nat) : Int) < m.l := by omega
    have I' := step_node k n5 c5 I.1 I.2.1 I.2.2 hc
    have eat : (stepN m ct x (c - 97)).1 = leadM m 0 (w ++ [c]) := by
      rw [lead_snoc, ← W.at_, step_to m _ w2 (by omega)]
      rfl
    have lds : ∀ s p, p ≤ w.length → leadM m s ((w ++ [c]).drop p) = toM m (leadM m s (w.drop p)) (c - 97) := fun s p hp => by
      rw [List.drop_append_of_le_length hp, lead_snoc, step_to m _ w2 (by omega)]
    have ltk : ∀ p, p ≤ w.length → (w ++ [c]).take p = w.take p := fun p hp => List.take_append_of_le_length hp
    have full : (w ++ [c]).take (w.length + 1) = w ++ [c] := List.take_of_length_le (by simp)
    have none_ : (w ++ [c]).drop (w.length + 1) = [] := List.drop_eq_nil_of_le (by simp)
    refine ⟨I', ⟨eat, fun A hA => ?_, fun p hp hm => ?_⟩⟩
    · have hA' : A ∈ afterN m ct x (c - 97) := mem_tset.mp (List.mem_filter.mp hA).1
      rcases List.mem_append.mp hA' with z | z
      · obtain ⟨B, hB, rfl⟩ := List.mem_map.mp z
        obtain ⟨p, hp, hl, hiff⟩ := W.fro B hB
        refine ⟨p, by simp; omega, by rw [ltk p hp]; exact hl, fun y => ?_⟩
        rw [mem_imgS]
        constructor
        · rintro ⟨s, hs, rfl⟩
          obtain ⟨t, ht, e⟩ := (hiff s).mp hs
          exact ⟨t, ht, by rw [lds t p hp, e]⟩
        · rintro ⟨t, ht, rfl⟩
          exact ⟨_, (hiff _).mpr ⟨t, ht, rfl⟩, (lds t p hp).symm⟩
      · split at z
        · rename_i hm
          rw [List.mem_singleton.mp z]
          refine ⟨w.length + 1, by simp, ?_, fun y => ?_⟩
          · rw [full, ← eat]
            exact hm
          · rw [none_]
            exact ⟨fun hy => ⟨y, hy, rfl⟩, fun ⟨s, hs, e⟩ => e ▸ hs⟩
        · cases z
    · have lift : ∀ B, B ∈ afterN m ct x (c - 97) → ∃ A, A ∈ (stepN m ct x (c - 97)).2 ∧ ∀ y, y ∈ A → y ∈ B := fun B hB => by
        refine least_has (us := tset (afterN m ct x (c - 97))) (fun A hA => ?_) B.length B (Nat.le_refl _) (mem_tset.mpr hB)
        rcases List.mem_append.mp (mem_tset.mp hA) with z | z
        · obtain ⟨B, hB, rfl⟩ := List.mem_map.mp z
          exact up_iset _
        · split at z
          · rw [List.mem_singleton.mp z]; exact up_pair c5.up
          · cases z
      rw [List.length_append] at hp
      by_cases hpw : p ≤ w.length
      · rw [ltk p hpw] at hm
        obtain ⟨B, hB, hBs⟩ := W.to p hpw hm
        obtain ⟨A, hA, hAB⟩ := lift (imgS m B (c - 97)) (List.mem_append.mpr (.inl (List.mem_map_of_mem hB)))
        refine ⟨A, hA, fun y hy => ?_⟩
        obtain ⟨s, hs, rfl⟩ := mem_imgS.mp (hAB y hy)
        obtain ⟨t, ht, e⟩ := hBs s hs
        exact ⟨t, ht, by rw [lds t p hpw, e]⟩
      · have hpe : p = w.length + 1 := by simp at hp; omega
        subst hpe
        rw [full, ← eat] at hm
        obtain ⟨A, hA, hAB⟩ := lift ct (List.mem_append.mpr (.inr (by rw [if_pos (show toM m x.1 (c - 97) ∈ ct from hm)]; exact List.mem_singleton.mpr rfl)))
        rw [none_]
        exact ⟨A, hA, fun y hy => ⟨y, hAB y hy, rfl⟩⟩
/-- a word fails just if it is taken and has no place -/
theorem fail_word {m : Mach} (k : MachOk m) (n5 : m.rows.length ≤ 5) {ct : List Int} (c5 : CutOk m.rows.length ct) {w : Tx} (hw : inW m.l.toNat w) : failB m (runS (stepN m ct) (beginN ct) w) = (takeM m w && (placesN m ct w (w.length + 1)).isEmpty) := by
  obtain ⟨I, W⟩ := node_word k n5 c5 w hw
  generalize runS (stepN m ct) (beginN ct) w = x at I W ⊢
  unfold failB takeM
  rw [W.at_]
  congr 1
  rw [Bool.eq_iff_iff, List.isEmpty_iff, Bool.not_eq_true', List.any_eq_false]
  unfold placesN
  rw [List.filter_eq_nil_iff]
  constructor
  · intro h p hp
    have hp' := List.mem_range.mp hp
    intro hok
    unfold okP at hok
    rw [Bool.and_eq_true, decide_eq_true_eq] at hok
    obtain ⟨A, hA, hs⟩ := W.to p (by omega) hok.1
    refine h A hA (List.all_eq_true.mpr fun y hy => ?_)
    obtain ⟨s, hs, rfl⟩ := hs y hy
    exact List.all_eq_true.mp hok.2 _ (List.mem_map_of_mem (f := fun s => leadM m s (w.drop p)) hs)
  · intro h A hA he
    obtain ⟨p, hp, hm, hiff⟩ := W.fro A hA
    refine h p (List.mem_range.mpr (by omega)) ?_
    unfold okP
    rw [Bool.and_eq_true, decide_eq_true_eq]
    refine ⟨hm, List.all_eq_true.mpr fun y hy => ?_⟩
    obtain ⟨s, hs, rfl⟩ := List.mem_map.mp hy
    exact List.all_eq_true.mp he _ ((hiff _).mpr ⟨s, hs, rfl⟩)
/-- what a told word is -/
def FailIs (m : Mach) (ct : List Int) (N : Nat) : Option Tx → Prop
  | some w => w.length ≤ N ∧ wordIn m.l w = true ∧ takeM m w = true ∧ placesN m ct w (w.length + 1) = [] ∧ ∀ u, inW m.l.toNat u → valW m.l.toNat u < valW m.l.toNat w → (takeM m u && (placesN m ct u (u.length + 1)).isEmpty) = false
  | none => ∀ u, inW m.l.toNat u → (takeM m u && (placesN m ct u (u.length + 1)).isEmpty) = false
structure FailW (m : Mach) (ct : List Int) (N : Nat) (o : Option Tx) : Prop where
  is : FailIs m ct N o
theorem fail_is {m : Mach} (k : MachOk m) (n5 : m.rows.length ≤ 5) {ct : List Int} (c5 : CutOk m.rows.length ct) {N : Nat} (hN : (bSeq (stepN m ct) m.l.toNat (beginN ct) N).length ≤ N) : FailW m ct N (bFind (stepN m ct) m.l.toNat (beginN ct) N (failB m)) := by
  have hl := bFind_least (stepN m ct) m.l.toNat (beginN ct) hN (failB m)
  have hb : ∀ w, bFind (stepN m ct) m.l.toNat (beginN ct) N (failB m) = some w → w.length ≤ N := fun w hw => by
    unfold bFind at hw
    cases hf : (bAll (stepN m ct) m.l.toNat (beginN ct) N).find? fun x => failB m x.2 with
    | none => rw [hf] at hw; cases hw
    | some x =>
      rw [hf] at hw
      cases hw
      exact ((fail_ok k n5 c5 N).1.ok x (List.mem_of_find?_eq_some hf)).2.1
  revert hl hb
  generalize bFind (stepN m ct) m.l.toNat (beginN ct) N (failB m) = o
  intro hl hb
  constructor
  cases o with
  | none =>
    intro u hu
    rw [← fail_word k n5 c5 hu]
    exact hl u hu
  | some w =>
    obtain ⟨h1, h2, h3⟩ := hl
    have h2 : failB m (runS (stepN m ct) (beginN ct) w) = true := h2
    rw [fail_word k n5 c5 h1, Bool.and_eq_true, List.isEmpty_iff] at h2
    exact ⟨hb w rfl, (inW_word k.l1 k.l3 w).mpr h1, h2.1, h2.2, fun u hu hlt => by rw [← fail_word k n5 c5 hu]; exact h3 u hu hlt⟩
end Lw

set_option linter.all false
set_option autoImplicit false
set_option maxRecDepth 100000
set_option Elab.async false
set_option maxHeartbeats 4000000
namespace Lw
open PySem SL
/-! ### weights -/
def wL (f : D → Option Nat) : List D → Option Nat
  | [] => some 0
  | x :: xs => match f x, wL f xs with
    | some a, some b => some (a + b)
    | _, _ => none
def wD (h : Hp) (k : Nat) : Nat → D → Option Nat
  | _, .non => some 60
  | _, .bl _ => some 60
  | _, .int i => if i.natAbs ≤ 10 ^ 20 + k then some 60 else none
  | _, .str w => if w.length ≤ 2000 then some ((PyData.str (tS w)).shown.length + 60) else none
  | d + 1, .tup xs => (wL (wD h k d) xs).map (· + 60)
  | d + 1, .ref l => if l ≤ 2 then none else match h[l]? with
    | some (.lst xs) => (wL (wD h k d) xs).map (· + 60)
    | _ => none
  | _, _ => none
theorem wL_cons {f : D → Option Nat} {x : D} {xs : List D} {n : Nat} : wL f (x :: xs) = some n ↔ ∃ a b, f x = some a ∧ wL f xs = some b ∧ n = a + b := by
  simp only [wL]
  cases f x <;> cases wL f xs <;> simp
  exact ⟨fun h => h.symm, fun h => h.symm⟩
theorem wL_app {f : D → Option Nat} : ∀ {xs ys : List D} {a b : Nat}, wL f xs = some a → wL f ys = some b → wL f (xs ++ ys) = some (a + b)
  | [], ys, a, b, e, g => by cases e; simpa using g
  | x :: xs, ys, a, b, e, g => by
    obtain ⟨p, q, e1, e2, rfl⟩ := wL_cons.mp e
    exact wL_cons.mpr ⟨p, q + b, e1, wL_app e2 g, by omega⟩
theorem wL_split {f : D → Option Nat} : ∀ {xs ys : List D} {n : Nat}, wL f (xs ++ ys) = some n → ∃ a b, wL f xs = some a ∧ wL f ys = some b ∧ n = a + b
  | [], ys, n, e => ⟨0, n, rfl, e, by omega⟩
  | x :: xs, ys, n, e => by
    obtain ⟨p, q, e1, e2, rfl⟩ := wL_cons.mp e
    obtain ⟨a, b, f1, f2, rfl⟩ := wL_split e2
    exact ⟨p + a, b, wL_cons.mpr ⟨p, a, e1, f1, rfl⟩, f2, by omega⟩
theorem wL_mem {f : D → Option Nat} {x : D} : ∀ {xs : List D} {n : Nat}, wL f xs = some n → x ∈ xs → ∃ a, f x = some a ∧ a ≤ n
  | [], _, _, m => by cases m
  | y :: xs, n, e, m => by
    obtain ⟨p, q, e1, e2, rfl⟩ := wL_cons.mp e
    cases m with
    | head => exact ⟨p, e1, by omega⟩
    | tail _ m =>
      obtain ⟨a, z, k⟩ := wL_mem e2 m
      exact ⟨a, z, by omega⟩
theorem wL_mono {f g : D → Option Nat} (hg : ∀ x a, f x = some a → g x = some a) : ∀ {xs : List D} {n : Nat}, wL f xs = some n → wL g xs = some n
  | [], _, e => e
  | y :: xs, n, e => by
    obtain ⟨p, q, e1, e2, rfl⟩ := wL_cons.mp e
    exact wL_cons.mpr ⟨p, q, hg _ _ e1, wL_mono hg e2, rfl⟩
theorem wD_up {h : Hp} {k : Nat} : ∀ {d : Nat} {v : D} {n : Nat}, wD h k d v = some n → wD h k (d + 1) v = some n
  | 0, v, n, e => by
    cases v with
    | tup xs => simp [wD] at e
    | ref l => simp [wD] at e
    | _ => simpa [wD] using e
  | d + 1, v, n, e => by
    cases v with
    | tup xs =>
      simp only [wD, Option.map_eq_some_iff] at e ⊢
      obtain ⟨a, e1, rfl⟩ := e
      exact ⟨a, wL_mono (fun x a => wD_up) e1, rfl⟩
    | ref l =>
      simp only [wD] at e ⊢
      by_cases hl : l ≤ 2
      · simp [hl] at e
      · simp only [hl, if_false] at e ⊢
        cases g : h[l]? with
        | none => simp [g] at e
        | some o =>
          cases o with
          | lst xs =>
            simp only [g, Option.map_eq_some_iff] at e ⊢
            obtain ⟨a, e1, rfl⟩ := e
            exact ⟨a, wL_mono (fun x a => wD_up) e1, rfl⟩
          | _ => simp [g] at e
    | _ => simpa [wD] using e
theorem wD_upN {h : Hp} {k d : Nat} {v : D} {n : Nat} (e : wD h k d v = some n) : ∀ j, wD h k (d + j) v = some n
  | 0 => e
  | j + 1 => wD_up (wD_upN e j)
theorem wD_k {h : Hp} {k k' : Nat} (hk : k ≤ k') : ∀ {d : Nat} {v : D} {n : Nat}, wD h k d v = some n → wD h k' d v = some n
  | 0, v, n, e => by
    cases v with
    | tup xs => simp [wD] at e
    | ref l => simp [wD] at e
    | int i =>
      simp only [wD] at e ⊢
      split at e
      · rename_i z
        rw [if_pos (by omega)]
        exact e
      · cases e
    | _ => simpa [wD] using e
  | d + 1, v, n, e => by
    cases v with
    | tup xs =>
      simp only [wD, Option.map_eq_some_iff] at e ⊢
      obtain ⟨a, e1, rfl⟩ := e
      exact ⟨a, wL_mono (fun x a => wD_k hk) e1, rfl⟩
    | ref l =>
      simp only [wD] at e ⊢
      by_cases hl : l ≤ 2
      · simp [hl] at e
      · simp only [hl, if_false] at e ⊢
        cases g : h[l]? with
        | none => simp [g] at e
        | some o =>
          cases o with
          | lst xs =>
            simp only [g, Option.map_eq_some_iff] at e ⊢
            obtain ⟨a, e1, rfl⟩ := e
            exact ⟨a, wL_mono (fun x a => wD_k hk) e1, rfl⟩
          | _ => simp [g] at e
    | int i =>
      simp only [wD] at e ⊢
      split at e
      · rename_i z
        rw [if_pos (by omega)]
        exact e
      · cases e
    | _ => simpa [wD] using e
theorem wD_fr {h h' : Hp} {k : Nat} (f : FrE 2 h h') : ∀ {d : Nat} {v : D} {n : Nat}, wD h k d v = some n → wD h' k d v = some n
  | 0, v, n, e => by
    cases v with
    | tup xs => simp [wD] at e
    | ref l => simp [wD] at e
    | _ => simpa [wD] using e
  | d + 1, v, n, e => by
    cases v with
    | tup xs =>
      simp only [wD, Option.map_eq_some_iff] at e ⊢
      obtain ⟨a, e1, rfl⟩ := e
      exact ⟨a, wL_mono (fun x a => wD_fr f) e1, rfl⟩
    | ref l =>
      simp only [wD] at e ⊢
      by_cases hl : l ≤ 2
      · simp [hl] at e
      · simp only [hl, if_false] at e ⊢
        cases g : h[l]? with
        | none => simp [g] at e
        | some o =>
          have g' : h'[l]? = some o := (f.same l (List.getElem?_eq_some_iff.mp g).1 (by omega)).trans g
          cases o with
          | lst xs =>
            simp only [g, g', Option.map_eq_some_iff] at e ⊢
            obtain ⟨a, e1, rfl⟩ := e
            exact ⟨a, wL_mono (fun x a => wD_fr f) e1, rfl⟩
          | _ => simp [g] at e
    | _ => simpa [wD] using e
/-- each part weighs sixty or more -/
theorem wD_60 {h : Hp} {k d : Nat} {v : D} {n : Nat} (e : wD h k d v = some n) : 60 ≤ n := by
  cases v with
  | tup xs =>
    cases d with
    | zero => simp [wD] at e
    | succ d =>
      simp only [wD, Option.map_eq_some_iff] at e
      obtain ⟨a, e1, rfl⟩ := e
      omega
  | ref l =>
    cases d with
    | zero => simp [wD] at e
    | succ d =>
      simp only [wD] at e
      by_cases hl : l ≤ 2
      · simp [hl] at e
      · simp only [hl, if_false] at e
        split at e
        · simp only [Option.map_eq_some_iff] at e
          obtain ⟨a, e1, rfl⟩ := e
          omega
        · cases e
  | int i =>
    have : (if i.natAbs ≤ 10 ^ 20 + k then some 60 else none) = some n := by cases d <;> exact e
    split at this
    · cases this; exact Nat.le_refl _
    · cases this
  | str w =>
    have : (if w.length ≤ 2000 then some ((PyData.str (tS w)).shown.length + 60) else none) = some n := by cases d <;> exact e
    split at this
    · cases this; omega
    · cases this
  | non => have : some 60 = some n := by cases d <;> exact e
           cases this; exact Nat.le_refl _
  | bl b => have : some 60 = some n := by cases d <;> exact e
            cases this; exact Nat.le_refl _
theorem wL_len {f : D → Option Nat} (hf : ∀ x a, f x = some a → 60 ≤ a) : ∀ {xs : List D} {n : Nat}, wL f xs = some n → 60 * xs.length ≤ n
  | [], _, _ => by simp
  | x :: xs, n, e => by
    obtain ⟨p, q, e1, e2, rfl⟩ := wL_cons.mp e
    have := wL_len hf e2
    have := hf _ _ e1
    rw [List.length_cons]
    omega
end Lw

set_option linter.all false
set_option autoImplicit false
set_option maxRecDepth 100000
set_option Elab.async false
set_option maxHeartbeats 4000000
namespace Lw
open PySem SL
theorem cps_le : ∀ (bs : List UInt8) (k a : Nat), (cpsOfBytes k a bs).length ≤ bs.length
  | [], k, a => by rw [cpsOfBytes.eq_1]; exact Nat.le_refl _
  | b :: t, k, a => by
    have ih := cps_le t
    rw [cpsOfBytes.eq_def]
    split
    · exact Nat.zero_le _
    · rename_i e
      cases e
      repeat' split
      all_goals first
        | (rw [List.length_cons, List.length_cons]; have := ih 0 0; omega)
        | (rw [List.length_cons]; exact Nat.le_succ_of_le (ih _ _))
    · rename_i e
      cases e
      rw [List.length_cons, List.length_cons]
      have := ih 0 0
      omega
    · rename_i e
      cases e
      rw [List.length_cons]
      exact Nat.le_succ_of_le (ih _ _)
theorem ofS_le (s : String) : (Str.ofString s).length ≤ s.utf8ByteSize := by
  show ((cpsOfBytes 0 0 s.toByteArray.data.toList).toArray).size ≤ _
  rw [List.size_toArray]
  exact cps_le _ 0 0
theorem ofL_size : ∀ cs : List Char, (∀ c, c ∈ cs → c.utf8Size = 1) → (String.ofList cs).utf8ByteSize = cs.length
  | [], _ => rfl
  | c :: cs, h => by
    rw [show c :: cs = [c] ++ cs from rfl, String.ofList_append, String.utf8ByteSize_append, ofL_size cs fun x hx => h x (List.mem_cons_of_mem _ hx)]
    have : (String.ofList [c]).utf8ByteSize = 1 := by
      rw [← h c (List.mem_cons_self ..)]
      show (String.singleton c).utf8ByteSize = _
      simp
    rw [this, List.length_append]
    rfl
theorem dig_size {n k : Nat} (hk : 0 < k) (h : n < 10 ^ k) : (Nat.repr n).utf8ByteSize ≤ k := by
  rw [Nat.repr_eq_ofList_toDigits, ofL_size]
  · exact (Nat.length_toDigits_le_iff (by decide) hk).mpr h
  · intro c hc
    have := Nat.isDigit_of_mem_toDigits (by decide) (by decide) hc
    rw [Char.utf8Size_eq_one_iff]
    simp [Char.isDigit] at this
    have := this.2
    exact UInt32.le_trans this (by decide)
theorem int_len {i : Int} {k : Nat} (hk : 0 < k) (h : i.natAbs < 10 ^ k) : (PyData.int i).shown.length ≤ k + 1 := by
  rw [PyData.shown.eq_def]
  show (Str.ofString (toString i)).length ≤ _
  refine Nat.le_trans (ofS_le _) ?_
  cases i with
  | ofNat n => exact Nat.le_succ_of_le (dig_size hk h)
  | negSucc n =>
    show ("-" ++ Nat.repr (n + 1)).utf8ByteSize ≤ _
    rw [String.utf8ByteSize_append]
    have : ("-" : String).utf8ByteSize = 1 := rfl
    have := dig_size (n := n + 1) hk h
    omega
theorem text_le : ∀ (ts : List Str) (k : Nat) (a : Str), (textFrom k a ts).length ≤ a.length + piled ts
  | [], k, a => by rw [textFrom.eq_def]; exact Nat.le_add_right _ _
  | t :: ts, k, a => by
    rw [textFrom.eq_def]
    have ih := text_le ts (k + 1) (a ++ Str.ofString (if k > 0 then ", " else "") ++ t)
    rw [str_app, str_app] at ih
    have e2 : (Str.ofString (if k > 0 then ", " else "")).length ≤ 2 := by
      split <;> decide
    show (textFrom (k + 1) (a ++ Str.ofString (if k > 0 then ", " else "") ++ t) ts).length ≤ _
    have : piled (t :: ts) = t.length + 2 + piled ts := rfl
    omega
theorem list_len (ts : List Str) : (listText ts).length ≤ piled ts + 2 := by
  unfold listText
  rw [str_app]
  have := text_le ts 0 (Str.ofString "[")
  have e1 : (Str.ofString "[").length = 1 := by decide
  have e2 : (Str.ofString "]").length = 1 := by decide
  omega
theorem tup_len (ts : List Str) : (tupleText ts).length ≤ piled ts + 3 := by
  unfold tupleText
  rw [str_app, str_app]
  have e1 : ("(" : Str).length = 1 := by decide
  have e2 : ((if ts.length == 1 then ",)" else ")" : String) : Str).length ≤ 2 := by
    split <;> decide
  have e3 : (Str.join ", " ts).length ≤ piled ts := by
    cases ts with
    | nil => decide
    | cons t ts =>
      have := join_length_add (t :: ts) (by simp)
      omega
  omega
theorem list_shown {n : Nat} {xs : List PyData} (h : piled (xs.map PyData.shown) ≤ n) : (PyData.list xs).shown.length ≤ n + 2 := by
  show (listText (PyData.shownAll xs)).length ≤ _
  rw [shownAll_map]
  exact Nat.le_trans (list_len _) (by omega)
theorem tup_shown2 {n : Nat} {xs : List PyData} (h : piled (xs.map PyData.shown) ≤ n) : (PyData.tuple xs).shown.length ≤ n + 3 := by
  show (tupleText (PyData.shownAll xs)).length ≤ _
  rw [shownAll_map]
  exact Nat.le_trans (tup_len _) (by omega)
/-- what a weight says of the value's text -/
theorem wL_text {h : Hp} {k d e : Nat} (ih : ∀ v n, wD h k d v = some n → ∃ p, rd h e v = some p ∧ p.showable = true ∧ p.shown.length + 10 ≤ n) : ∀ (xs : List D) (n : Nat), wL (wD h k d) xs = some n → ∃ ps, rdAll (rd h e) xs = some ps ∧ PyData.showableAll ps = true ∧ piled (ps.map PyData.shown) ≤ n
  | [], n, _ => ⟨[], rfl, rfl, Nat.zero_le _⟩
  | x :: xs, n, w => by
    obtain ⟨a, b, e1, e2, rfl⟩ := wL_cons.mp w
    obtain ⟨p, r1, s1, l1⟩ := ih x a e1
    obtain ⟨ps, r2, s2, l2⟩ := wL_text ih xs b e2
    refine ⟨p :: ps, ?_, ?_, ?_⟩
    · simp only [rdAll, r1, r2]
    · show (p.showable && PyData.showableAll ps) = true
      rw [s1, s2]
      rfl
    · show p.shown.length + 2 + piled (ps.map PyData.shown) ≤ _
      omega
theorem int_sh {i : Int} {k : Nat} (hk : k ≤ 10 ^ 20) (h : i.natAbs ≤ 10 ^ 20 + k) : (PyData.int i).shown.length + 10 ≤ 60 ∧ (PyData.int i).showable = true := by
  have h1 : i.natAbs < 10 ^ 22 := by omega
  have := int_len (i := i) (k := 22) (by decide) h1
  refine ⟨by omega, ?_⟩
  show decide _ = true
  rw [decide_eq_true_eq]
  by_cases hz : i.natAbs = 0
  · rw [hz]; decide
  · exact (Nat.log2_lt hz).mpr (by have : (10 : Nat) ^ 22 < 2 ^ 1920 := by decide
                                   omega)
theorem w_text {h : Hp} {k : Nat} (hk : k ≤ 10 ^ 20) : ∀ (d e : Nat) (v : D) (n : Nat), d ≤ e → wD h k d v = some n → ∃ p, rd h e v = some p ∧ p.showable = true ∧ p.shown.length + 10 ≤ n := by
  have atom : ∀ (d e : Nat) (v : D) (n : Nat), (∀ xs, v ≠ .tup xs) → (∀ l, v ≠ .ref l) → wD h k d v = some n → ∃ p, rd h e v = some p ∧ p.showable = true ∧ p.shown.length + 10 ≤ n := by
    intro d e v n h1 h2 w
    cases v with
    | tup xs => exact absurd rfl (h1 xs)
    | ref l => exact absurd rfl (h2 l)
    | int i =>
      have w' : (if i.natAbs ≤ 10 ^ 20 + k then some 60 else none) = some n := by cases d <;> exact w
      split at w'
      · rename_i z
        cases w'
        obtain ⟨a, b⟩ := int_sh hk z
        exact ⟨.int i, by cases e <;> rfl, b, a⟩
      · cases w'
    | str x =>
      have w' : (if x.length ≤ 2000 then some ((PyData.str (tS x)).shown.length + 60) else none) = some n := by cases d <;> exact w
      split at w'
      · cases w'
        exact ⟨.str (tS x), by cases e <;> rfl, rfl, by omega⟩
      · cases w'
    | non =>
      have w' : some 60 = some n := by cases d <;> exact w
      cases w'
      exact ⟨.none, by cases e <;> rfl, rfl, by decide⟩
    | bl b =>
      have w' : some 60 = some n := by cases d <;> exact w
      cases w'
      exact ⟨.bool b, by cases e <;> rfl, rfl, by cases b <;> decide⟩
  intro d
  induction d with
  | zero =>
    intro e v n _ w
    cases v with
    | tup xs => simp [wD] at w
    | ref l => simp [wD] at w
    | _ => exact atom 0 e _ n (fun _ z => by cases z) (fun _ z => by cases z) w
  | succ d ih =>
    intro e v n hde w
    obtain ⟨e, rfl⟩ : ∃ e', e = e' + 1 := ⟨e - 1, by omega⟩
    cases v with
    | tup xs =>
      simp only [wD, Option.map_eq_some_iff] at w
      obtain ⟨a, w, rfl⟩ := w
      obtain ⟨ps, r, s, l⟩ := wL_text (e := e) (fun v n w => ih e v n (by omega) w) xs a w
      have := tup_shown2 l
      exact ⟨.tuple ps, by simp only [rd, r, Option.map_some], s, by omega⟩
    | ref l =>
      simp only [wD] at w
      by_cases hl : l ≤ 2
      · simp [hl] at w
      · simp only [hl, if_false] at w
        cases g : h[l]? with
        | none => simp [g] at w
        | some o =>
          cases o with
          | lst xs =>
            simp only [g, Option.map_eq_some_iff] at w
            obtain ⟨a, w, rfl⟩ := w
            obtain ⟨ps, r, s, l⟩ := wL_text (e := e) (fun v n w => ih e v n (by omega) w) xs a w
            have := list_shown l
            exact ⟨.list ps, by simp only [rd, g, r, Option.map_some], s, by omega⟩
          | _ => simp [g] at w
    | _ => exact atom (d + 1) (e + 1) _ n (fun _ z => by cases z) (fun _ z => by cases z) w
theorem w_pl {h : Hp} {k : Nat} : ∀ (m d : Nat) (v : D) (n : Nat), n ≤ 60000 → wD h k d v = some n → Pl h m v
  | m, d, v, n, hn, w => by
    cases v with
    | ref l =>
      have : ∃ xs, h[l]? = some (.lst xs) ∨ h[l]? = some (.fz xs) := by
        cases d with
        | zero => simp [wD] at w
        | succ d =>
          simp only [wD] at w
          by_cases hl : l ≤ 2
          · simp [hl] at w
          · simp only [hl, if_false] at w
            cases g : h[l]? with
            | none => simp [g] at w
            | some o =>
              cases o with
              | lst xs => exact ⟨xs, .inl rfl⟩
              | _ => simp [g] at w
      cases m <;> exact this
    | tup xs =>
      cases m with
      | zero => trivial
      | succ m =>
        cases d with
        | zero => simp [wD] at w
        | succ d =>
          simp only [wD, Option.map_eq_some_iff] at w
          obtain ⟨a, w, rfl⟩ := w
          have := wL_len (fun x a => wD_60) w
          refine ⟨by omega, fun x hx => ?_⟩
          obtain ⟨b, e1, e2⟩ := wL_mem w hx
          exact w_pl m d x b (by omega) e1
    | _ => cases m <;> trivial
theorem biRepr_w {h : Hp} {k d n : Nat} {v : D} {Q : TV → Hp → Prop} (hk : k ≤ 10 ^ 20) (hd : d ≤ 60) (hn : n ≤ 60000) (w : wD h k d v = some n) (q : ∀ p, rd h 60 v = some p → Q (.d (.str p.shown.cps.toList)) h) : biRepr h [.d v] Q := by
  obtain ⟨p, r, s, l⟩ := w_text hk d 60 v n hd w
  have e : rdT h (.d v) = some p := r
  simp only [biRepr, e]
  exact ⟨s, by simp only [sz]; omega, q p r⟩
end Lw

set_option linter.all false
set_option autoImplicit false
set_option maxRecDepth 100000
set_option Elab.async false
set_option maxHeartbeats 4000000
namespace Lw
open PySem SL
/-! ### lists of small numbers, shown -/
def nP (xs : List Nat) : List PyData := xs.map fun (i : Nat) => .int i
theorem nI_rd (h : Hp) (n : Nat) : ∀ xs : List Nat, rdAll (rd h n) (nI xs) = some (nP xs)
  | [] => rfl
  | x :: xs => by
    have e : rd h n (.int x) = some (.int x) := by cases n <;> rfl
    show (match rd h n (.int x), rdAll (rd h n) (nI xs) with
      | some p, some ps => some (p :: ps)
      | _, _ => none) = _
    rw [e, nI_rd h n xs]
    rfl
theorem ref_rd {h : Hp} {l : Nat} {xs : List Nat} (e : h[l]? = some (.lst (nI xs))) : rdT h (.d (.ref l)) = some (.list (nP xs)) := by
  show rd h 60 (.ref l) = _
  rw [rd, e]
  show (rdAll (rd h 59) (nI xs)).map PyData.list = _
  rw [nI_rd]
  rfl
def plT (xs : List Nat) : Tx := (PyData.list (nP xs)).shown.cps.toList
theorem biRepr_pl {h : Hp} {l : Nat} {xs : List Nat} {Q : TV → Hp → Prop} (h2 : 2 < l) (e : h[l]? = some (.lst (nI xs))) (hn : xs.length ≤ 900) (hx : ∀ x, x ∈ xs → x ≤ 100000) (q : Q (.d (.str (plT xs))) h) : biRepr h [.d (.ref l)] Q := by
  have w : ∃ n, wL (wD h 0 1) (nI xs) = some n ∧ n ≤ 60 * xs.length := by
    clear e hn q
    induction xs with
    | nil => exact ⟨0, rfl, by simp⟩
    | cons x xs ih =>
      obtain ⟨n, e, hn⟩ := ih fun y hy => hx y (List.mem_cons_of_mem _ hy)
      have h1 := hx x (List.mem_cons_self ..)
      have e1 : wD h 0 1 (.int x) = some 60 := by
        show (if (x : Int).natAbs ≤ 10 ^ 20 + 0 then some 60 else none) = _
        rw [if_pos (by have : (x : Int).natAbs = x := Int.natAbs_natCast x; omega)]
      exact ⟨60 + n, wL_cons.mpr ⟨60, n, e1, e, rfl⟩, by rw [List.length_cons]; omega⟩
  obtain ⟨n, w, hn2⟩ := w
  have w2 : wD h 0 2 (.ref l) = some (n + 60) := by
    show (if l ≤ 2 then none else match h[l]? with
      | some (.lst xs) => (wL (wD h 0 1) xs).map (· + 60)
      | _ => none) = _
    rw [if_neg (by omega), e]
    show (wL (wD h 0 1) (nI xs)).map (· + 60) = _
    rw [w]
    rfl
  refine biRepr_w (by decide) (by decide) (by omega) w2 fun p hp => ?_
  have e3 : rd h 60 (.ref l) = some (.list (nP xs)) := ref_rd e
  rw [e3] at hp
  cases hp
  exact q
theorem eqv_nP : ∀ xs : List Nat, PyData.eqvAll (nP xs) (nP xs) = true
  | [] => by simp [nP, PyData.eqvAll]
  | x :: xs => by
    show PyData.eqvAll (.int x :: nP xs) (.int x :: nP xs) = true
    rw [PyData.eqvAll, eqv_nP xs]
    simp [PyData.eqv]
theorem eqD_pl {h : Hp} {l : Nat} {xs : List Nat} {Q : Bool → Prop} (e : h[l]? = some (.lst (nI xs))) (q : Q true) : eqD h (.d (.ref l)) (.l (nI xs)) Q := by
  have e2 : rdT h (.l (nI xs)) = some (.list (nP xs)) := by
    show (rdAll (rd h 60) (nI xs)).map PyData.list = _
    rw [nI_rd]
    rfl
  simp only [eqD, ref_rd e, e2]
  rw [PyData.eqv, eqv_nP]
  exact q
theorem eqD_pl0 {h : Hp} {l : Nat} {xs : List Nat} {Q : Bool → Prop} (e : h[l]? = some (.lst (nI xs))) (q : Q xs.isEmpty) : eqD h (.d (.ref l)) (.l []) Q := by
  have e2 : rdT h (.l []) = some (.list []) := rfl
  simp only [eqD, ref_rd e, e2, eqv_nil]
  have : (nP xs).isEmpty = xs.isEmpty := List.isEmpty_map
  rw [this]
  exact q
/-- a word with a place is taken -/
theorem place_taken {m : Mach} {ct : List Int} {w : Tx} {k : Nat} (h : (placesN m ct w k).isEmpty = false) : takeM m w = true := by
  cases e : placesN m ct w k with
  | nil => rw [e] at h; cases h
  | cons p r =>
    have hp : p ∈ placesN m ct w k := by rw [e]; exact List.mem_cons_self ..
    have hk := (List.mem_filter.mp hp).2
    simp only [okP, Bool.and_eq_true, decide_eq_true_eq, endsM, List.all_eq_true] at hk
    have hh := hk.2 (leadM m (leadM m 0 (w.take p)) (w.drop p)) (List.mem_map_of_mem (f := fun s => leadM m s (w.drop p)) hk.1)
    have e2 : leadM m (leadM m 0 (w.take p)) (w.drop p) = leadM m 0 w := by
      unfold leadM
      rw [← List.foldl_append, List.take_append_drop]
    rw [e2] at hh
    exact decide_eq_true hh
theorem places_le {m : Mach} {ct : List Int} {w : Tx} {k : Nat} : (placesN m ct w k).length ≤ k ∧ ∀ x, x ∈ placesN m ct w k → x ≤ k := by
  refine ⟨?_, fun x hx => ?_⟩
  · have := places_len m ct w k
    unfold nI at this
    rw [List.length_map] at this
    exact this
  · have := List.mem_range.mp (List.mem_filter.mp hx).1
    omega
end Lw

set_option linter.all false
set_option autoImplicit false
set_option maxRecDepth 100000
set_option Elab.async false
set_option maxHeartbeats 4000000
namespace Lw
open PySem SL
/-! ### either way round -/
def sw (x : Nd) : Nd := (x.1, x.2.2, x.2.1)
theorem sw_mem (a b : Int) (L : List Nd) : ((b, a) ∈ (L.map sw).map (·.2)) ↔ ((a, b) ∈ L.map (·.2)) := by
  simp only [List.mem_map]
  constructor
  · rintro ⟨y, ⟨x, hx, rfl⟩, e⟩
    refine ⟨x, hx, ?_⟩
    have e1 : x.2.2 = b := congrArg Prod.fst e
    have e2 : x.2.1 = a := congrArg Prod.snd e
    exact Prod.ext e2 e1
  · rintro ⟨x, hx, e⟩
    exact ⟨sw x, ⟨x, hx, rfl⟩, by have e1 := congrArg Prod.fst e; have e2 := congrArg Prod.snd e; exact Prod.ext e2 e1⟩
theorem grow_sw (m o : Mach) (x : Nd) (L : List Nd) (c : Nat) : grow o m (sw x) (L.map sw) c = (grow m o x L c).map sw := by
  by_cases h : (toM m x.2.1 c, toM o x.2.2 c) ∈ L.map (·.2)
  · rw [grow_in h, grow_in (by show (toM o x.2.2 c, toM m x.2.1 c) ∈ _; exact (sw_mem _ _ L).mpr h)]
  · rw [grow_out h, grow_out (by show (toM o x.2.2 c, toM m x.2.1 c) ∉ _; exact fun z => h ((sw_mem _ _ L).mp z)), List.map_append]
    rfl
theorem growTo_sw (m o : Mach) (x : Nd) (L : List Nd) : ∀ k, growTo o m (sw x) (L.map sw) k = (growTo m o x L k).map sw
  | 0 => rfl
  | k + 1 => by rw [growTo_succ, growTo_succ, growTo_sw m o x L k, grow_sw]
theorem seq_sw {m o : Mach} (hl : m.l = o.l) : ∀ k, seqL o m k = (seqL m o k).map sw
  | 0 => rfl
  | k + 1 => by
    rw [seqL, seqL, seq_sw hl k, List.getElem?_map]
    cases (seqL m o k)[k]? with
    | none => rfl
    | some x =>
      show growTo o m (sw x) _ o.l.toNat = _
      rw [← hl]
      exact growTo_sw m o x _ _
theorem part_sw {m o : Mach} (hl : m.l = o.l) : partM o m = partM m o := by
  unfold partM fullL
  rw [Nat.mul_comm, seq_sw hl]
  have : ∀ L : List Nd, ((L.map sw).find? (differ o m)).map (·.1) = (L.find? (differ m o)).map (·.1) := fun L => by
    induction L with
    | nil => rfl
    | cons x L ih =>
      have e : differ o m (sw x) = differ m o x := by
        show (decide (x.2.2 ∈ o.ends) != decide (x.2.1 ∈ m.ends)) = (decide (x.2.1 ∈ m.ends) != decide (x.2.2 ∈ o.ends))
        cases decide (x.2.1 ∈ m.ends) <;> cases decide (x.2.2 ∈ o.ends) <;> rfl
      rw [List.map_cons, List.find?_cons, List.find?_cons, e]
      cases differ m o x with
      | true => rfl
      | false => exact ih
  exact this _
theorem pwD_sw {m o : Mach} (hl : m.l = o.l) : pwD o m = pwD m o := by
  unfold pwD
  rw [part_sw hl]
/-! ### ascending numbers -/
theorem up_iff : ∀ xs : List Int, upL xs = true ↔ xs.Pairwise (· < ·)
  | [] => by simp [upL]
  | [x] => by simp [upL]
  | x :: y :: r => by
    have ih := up_iff (y :: r)
    have e : upL (x :: y :: r) = (decide (x < y) && upL (y :: r)) := rfl
    rw [e, Bool.and_eq_true, decide_eq_true_eq, ih, List.pairwise_cons (a := x)]
    constructor
    · rintro ⟨h1, h2⟩
      refine ⟨fun z hz => ?_, h2⟩
      rcases List.mem_cons.mp hz with rfl | hz
      · exact h1
      · have := (List.pairwise_cons.mp h2).1 z hz
        omega
    · rintro ⟨h1, h2⟩
      exact ⟨h1 y (List.mem_cons_self ..), h2⟩
theorem up_filter {xs : List Int} (h : upL xs = true) (p : Int → Bool) : upL (xs.filter p) = true := (up_iff _).mpr (((up_iff _).mp h).filter p)
def leI (a b : Int) : Bool := decide (a ≤ b)
theorem sort_nums (xs : List Int) : sortBy (xs.map PyData.int) (xs.map D.int) = (xs.mergeSort leI).map D.int := by
  unfold sortBy
  have e : (xs.map PyData.int).zip (xs.map D.int) = xs.map fun t => (PyData.int t, D.int t) := by
    induction xs with
    | nil => rfl
    | cons t ts ih => rw [List.map_cons, List.map_cons, List.zip_cons_cons, ih]; rfl
  rw [e, ← List.map_mergeSort (r := leI) (s := fun a b : PyData × D => !PySem.W.dataLt b.1 a.1) (f := fun t => (PyData.int t, D.int t)) (fun a _ b _ => by
    show leI a b = !PySem.W.dataLt (.int b) (.int a)
    rw [PySem.W.dataLt_int]
    unfold leI
    by_cases h : a ≤ b
    · rw [decide_eq_true h, decide_eq_false (by omega)]; rfl
    · rw [decide_eq_false h, decide_eq_true (by omega)]; rfl), List.map_map]
  rfl
theorem sortD_nums {h : Hp} {xs : List Int} {Q : List D → Prop} (q : Q ((xs.mergeSort leI).map D.int)) : sortD h (xs.map D.int) Q := by
  have e : rdL h (xs.map D.int) = some (xs.map PyData.int) := rdAll_int h 59 xs
  unfold sortD
  rw [e]
  refine ⟨?_, by rw [sort_nums]; exact q⟩
  have a1 : alikes (xs.map PyData.int) = true := by
    unfold alikes
    rw [List.all_eq_true]
    intro p hp
    rw [List.all_eq_true]
    intro q hq
    obtain ⟨a, _, rfl⟩ := List.mem_map.mp hp
    obtain ⟨b, _, rfl⟩ := List.mem_map.mp hq
    simp [PySem.W.alike]
  have a2 : (xs.map PyData.int).all isOth = true := by
    rw [List.all_map, List.all_eq_true]
    exact fun _ _ => rfl
  unfold sortable
  rw [a1, a2]
  simp
theorem up_sorted {xs : List Int} (nd : xs.Nodup) : upL (xs.mergeSort leI) = true := by
  rw [up_iff]
  have h1 := List.pairwise_mergeSort (le := leI) (fun a b c h k => by unfold leI at *; simp at *; omega) (fun a b => by unfold leI; simp; omega) xs
  have h2 : (xs.mergeSort leI).Nodup := (List.mergeSort_perm xs leI).nodup_iff.mpr nd
  have h3 := List.nodup_iff_pairwise_ne.mp h2
  refine (h1.and h3).imp fun {a b} h => ?_
  have h4 : a ≤ b := of_decide_eq_true h.1
  have h5 : a ≠ b := h.2
  omega
theorem up_nodup {xs : List Int} (h : upL xs = true) : xs.Nodup := List.nodup_iff_pairwise_ne.mpr (((up_iff _).mp h).imp fun {a b} h e => by omega)
/-! ### shown -/
theorem biRepr_mm {h : Hp} {m o : Mach} {Q : TV → Hp → Prop} (k : MachOk m) (k2 : MachOk o) (q : Q (.d (.str (PyData.tuple [mP m, mP o]).shown.cps.toList)) h) : biRepr h [.d (.tup [mD m, mD o])] Q := by
  have e : rdT h (.d (.tup [mD m, mD o])) = some (.tuple [mP m, mP o]) := by
    show (rdAll (rd h 59) [mD m, mD o]).map PyData.tuple = _
    have e1 : ∀ m : Mach, rd h 59 (mD m) = some (mP m) := fun m => by
      show (rdAll (rd h 58) [.int m.l, .tup (rowsD m.rows), .tup (m.ends.map .int)]).map PyData.tuple = _
      have a1 : rd h 58 (.tup (rowsD m.rows)) = some (.tuple (m.rows.map fun r => PyData.tuple (r.map .int))) := by
        show (rdAll (rd h 57) (rowsD m.rows)).map PyData.tuple = _
        rw [rows_rd]
        rfl
      have a2 : rd h 58 (.tup (m.ends.map .int)) = some (.tuple (m.ends.map .int)) := by
        show (rdAll (rd h 57) (m.ends.map .int)).map PyData.tuple = _
        rw [rdAll_int]
        rfl
      have a3 : rd h 58 (.int m.l) = some (.int m.l) := rfl
      simp only [rdAll, a1, a2, a3]
      rfl
    simp only [rdAll, e1]
    rfl
  obtain ⟨a1, b1⟩ := m_shown k
  obtain ⟨a2, b2⟩ := m_shown k2
  simp only [biRepr, e]
  refine ⟨showableAll_of _ fun x hx => ?_, ?_, q⟩
  · have hx' : x = mP m ∨ x = mP o := by simpa using hx
    rcases hx' with rfl | rfl
    · exact a1
    · exact a2
  · have := tup_shown (B := 2000) (xs := [mP m, mP o]) fun x hx => by
      have hx' : x = mP m ∨ x = mP o := by simpa using hx
      rcases hx' with rfl | rfl
      · exact b1
      · exact b2
    simp only [sz]
    exact Nat.le_trans this (by show 2 * (2000 + 2) + 3 ≤ 16777216; decide)
def pwP (m o : Mach) : PyData := match partM m o with
  | some w => .str (tS w)
  | none => .none
theorem part_word {m o : Mach} (k : MachOk m) (k2 : MachOk o) (hl : m.l = o.l) {w : Tx} (h : partM m o = some w) : w.length ≤ 1024 ∧ wordIn m.l w = true := by
  unfold partM at h
  obtain ⟨x, hx, rfl⟩ := Option.map_eq_some_iff.mp h
  have ok := (seq_ok k k2 hl (m.rows.length * o.rows.length)).ok x (List.mem_of_find?_eq_some hx)
  have nn := nn_le k k2
  exact ⟨by have := ok.w.1; omega, ok.w.2⟩
theorem pw_rd {m o : Mach} (h : Hp) (n : Nat) : rd h n (pwD m o) = some (pwP m o) := by
  unfold pwD pwP
  cases partM m o <;> cases n <;> rfl
theorem abc_lt {l : Int} {c : Nat} (h : c ∈ abc l) : c < 1000 := by
  have : c ∈ ([97, 98, 99] : List Nat) := List.mem_of_mem_take h
  simp at this
  omega
theorem pw_shown {m o : Mach} (k : MachOk m) (k2 : MachOk o) (hl : m.l = o.l) : (pwP m o).showable = true ∧ (pwP m o).shown.length ≤ 20000 := by
  unfold pwP
  cases hw : partM m o with
  | none => exact ⟨rfl, by decide⟩
  | some w =>
    obtain ⟨h1, h2⟩ := part_word k k2 hl hw
    refine ⟨rfl, ?_⟩
    rw [PyData.shown_str]
    have := StrLaws.reprText_len (tS w) (fun c hc => by have hc' : c ∈ w := by simpa [tS] using hc
                                                        have := abc_lt (of_decide_eq_true (List.all_eq_true.mp h2 c hc')); omega)
    have e : (tS w).length = w.length := by simp [tS, Str.length]
    rw [e] at this
    omega
end Lw

set_option linter.all false
set_option autoImplicit false
set_option maxRecDepth 100000
set_option Elab.async false
set_option maxHeartbeats 1000000
namespace Lw
open PySem SL
def nc2 : Ss := (.cons (.exp (.call "need_small" (.cons (.var 0) Es.nil)))
    Ss.nil)
def nc1 : Ss := (.cons (.exp (.call "need_cut_of" (.cons (.var 0) (.cons (.var 1) Es.nil))))
    nc2)
def nc0 : Ss := (.cons (.exp (.call "need_machine" (.cons (.var 0) Es.nil)))
    nc1)
def f_need_cut : Fn := ⟨2, 2, nc0⟩
def fw1 : Ss := (.cons (.ret (.call "find_failing" (.cons (.var 0) (.cons (.var 1) Es.nil))))
    Ss.nil)
def fw0 : Ss := (.cons (.exp (.call "need_cut" (.cons (.var 0) (.cons (.var 1) Es.nil))))
    fw1)
def f_failing_word : Fn := ⟨2, 2, fw0⟩
theorem sp_needcut {P : Prog} (hP : KC P) (hf : P.lookup "need_cut" = some f_need_cut) {n : Nat} {m : Mach} {ct : List Int} {h : Hp} {Q : D → Hp → Prop} (k : MachOk m) (n5 : m.rows.length ≤ 5) (c : CutOk m.rows.length ct) (q : Q .non h) : callN P (n + 5) "need_cut" [mD m, tI ct] h Q R0' := by
  refine call_go hf rfl ?_
  simp [f_need_cut, nc0, nc1, nc2, dSs, dS, dT, dEs, dTs, dIfs, dI, dTg, dTgs, lay, tst, ini, tsLen, SL.bi, SL.lm, SL.lmT, SL.cmp, op2, SL.wipe]
  refine sp_need hP.toKN k (sp_need_cut hP k c (sp_small hP.needSmall n5 ?_))
  exact gc0 q
theorem sp_failing {P : Prog} (hP : KF P) (hc : P.lookup "need_cut" = some f_need_cut) (hff : P.lookup "find_failing" = some f_find_failing) (hf : P.lookup "failing_word" = some f_failing_word) {n : Nat} {m : Mach} {ct : List Int} {h : Hp} {Q : D → Hp → Prop} (k : MachOk m) (n5 : m.rows.length ≤ 5) (c : CutOk m.rows.length ct) (q : Q (optD (failD m ct)) h) : callN P (n + 6) "failing_word" [mD m, tI ct] h Q R0' := by
  refine call_go hf rfl ?_
  simp [f_failing_word, fw0, fw1, dSs, dS, dT, dEs, dTs, dIfs, dI, dTg, dTgs, lay, tst, ini, tsLen, SL.bi, SL.lm, SL.lmT, SL.cmp, op2, SL.wipe]
  refine sp_needcut hP.toKC hc (n := n) k n5 c ?_
  exact sp_find_failing hP hff (n := n + 2) k n5 c (gc0 q)
def optP : Option Tx → PyData
  | some w => .str (tS w)
  | none => .none
def optT (o : Option Tx) : Tx := (optP o).shown.cps.toList
theorem opt_repr {h : Hp} {l : Int} {o : Option Tx} {Q : TV → Hp → Prop} (ho : ∀ w, o = some w → w.length ≤ 2000 ∧ wordIn l w = true) (q : Q (.d (.str (optT o))) h) : biRepr h [.d (optD o)] Q := by
  have e : rdT h (.d (optD o)) = some (optP o) := by cases o <;> rfl
  simp only [biRepr, e]
  cases o with
  | none => exact ⟨rfl, by decide, q⟩
  | some w =>
    obtain ⟨h1, h2⟩ := ho w rfl
    refine ⟨rfl, ?_, q⟩
    unfold optP
    rw [PyData.shown_str]
    have := StrLaws.reprText_len (tS w) (fun c hc => by have hc' : c ∈ w := by simpa [tS] using hc
                                                        have := abc_lt (of_decide_eq_true (List.all_eq_true.mp h2 c hc')); omega)
    have e : (tS w).length = w.length := by simp [tS, Str.length]
    rw [e] at this
    simp only [sz]
    omega
def takF (m : Mach) : D → Option D := fun v => match v with
  | .str w => if takeM m w = true then some v else none
  | _ => none
theorem strs_filter (p : Tx → Bool) (f : D → Option D) (hf : ∀ w, f (.str w) = if p w = true then some (.str w) else none) : ∀ ws : List Tx, (ws.map D.str).filterMap f = (ws.filter p).map D.str
  | [] => rfl
  | w :: ws => by
    rw [List.map_cons, List.filterMap_cons, hf, List.filter_cons, strs_filter p f hf ws]
    cases p w <;> rfl
/-- one list of at most one word, or another -/
theorem eqD_l1 {h : Hp} {o : Option Tx} {Q : Bool → Prop} (q : Q true) : eqD h (.l ((o.toList).map D.str)) (.l ((o.toList).map D.str)) Q := by
  have e : rdT h (.l (o.toList.map D.str)) = some (.list (o.toList.map fun w => .str (tS w))) := by
    show (rdAll (rd h 60) _).map PyData.list = _
    rw [strs_rd]
    rfl
  simp only [eqD, e]
  have : PyData.eqv (.list (o.toList.map fun w => .str (tS w))) (.list (o.toList.map fun w => .str (tS w))) = true := by
    cases o with
    | none => simp [PyData.eqv, PyData.eqvAll]
    | some w => simp [PyData.eqv, PyData.eqvAll]
  rw [this]
  exact q
end Lw

set_option linter.all false
set_option autoImplicit false
set_option maxRecDepth 100000
set_option Elab.async false
set_option maxHeartbeats 1000000
namespace Lw
open PySem SL
def lz4 : Ss := (.cons (.ret (.cmp .eq (.bi .repr (.cons (.var 2) Es.nil)) (.var 3)))
    Ss.nil)
def lz3b5 : Ss := (.cons (.ifs (.cmp .ne (.slT (.var 11) (.cst (.int 1))) (.op .mul (.lst (.cons (.var 7) Es.nil)) (.bi .int (.cons (.and (.cmp .nis (.var 7) (.cst .non)) (.cmp .lt (.bi .len (.cons (.var 7) Es.nil)) (.cst (.int 5)))) Es.nil)))) (.cons (.ret (.cst (.bl false)))
    Ss.nil) Ss.nil)
    Ss.nil)
def lz3b4 : Ss := (.cons (.asg (.nm 11) (.comp (.var 10) (.nm 10) (.val (.var 9)) (.cons (.cmp .eq (.call "_law_cuttings" (.cons (.var 2) (.cons (.var 5) (.cons (.var 10) Es.nil)))) (.lst Es.nil)) Es.nil) [10]))
    lz3b5)
def lz3b3 : Ss := (.cons (.asg (.nm 9) (.comp (.var 10) (.nm 10) (.val (.call "_law_words" (.cons (.idx (.var 2) (.cst (.int 0))) (.cons (.cst (.int 4)) Es.nil)))) (.cons (.call "_law_does_take" (.cons (.var 2) (.cons (.var 10) Es.nil))) Es.nil) [10]))
    lz3b4)
def lz3b2 : Ss := (.cons (.ifs (.and (.cmp .nis (.var 7) (.cst .non)) (.or (.cmp .nis (.call "takes" (.cons (.var 2) (.cons (.var 7) Es.nil))) (.cst (.bl true))) (.cmp .ne (.call "cuttings" (.cons (.var 2) (.cons (.var 5) (.cons (.var 7) Es.nil)))) (.lst Es.nil)))) (.cons (.ret (.cst (.bl false)))
    Ss.nil) Ss.nil)
    lz3b3)
def lz3b1 : Ss := (.cons (.ifs (.cmp .ne (.bi .repr (.cons (.var 7) Es.nil)) (.bi .repr (.cons (.var 8) Es.nil))) (.cons (.ret (.cst (.bl false)))
    Ss.nil) Ss.nil)
    lz3b2)
def lz3b0 : Ss := (.cons (.par (.cons (.nm 7) (.cons (.nm 8) Ts.nil)) (.cons (.call "failing_word" (.cons (.var 2) (.cons (.var 5) Es.nil))) (.cons (.call "_law_failing" (.cons (.var 2) (.cons (.var 5) Es.nil))) Es.nil)))
    lz3b1)
def lz3 : Ss := (.cons (.for (.nm 5) (.val (.op .add (.op .add (.slT (.var 4) (.cst (.int 1))) (.slF (.var 4) (.neg (.cst (.int 1))))) (.comp (.call "_law_one" (.cons (.var 1) (.cons (.var 4) Es.nil))) (.nm 6) (.rng (.cst (.int 2))) Es.nil [6]))) lz3b0)
    lz4)
def lz2 : Ss := (.cons (.par (.cons (.nm 3) (.cons (.nm 4) Ts.nil)) (.cons (.bi .repr (.cons (.var 2) Es.nil)) (.cons (.call "_law_all_cuts" (.cons (.var 2) Es.nil)) Es.nil)))
    lz3)
def lz1 : Ss := (.cons (.asg (.nm 2) (.call "_law_some_machine" (.cons (.call "_law_anew" (.cons (.var 1) Es.nil)) (.cons (.call "_law_one" (.cons (.var 1) (.cons (.lst (.cons (.cst (.int 3)) (.cons (.cst (.int 4)) (.cons (.cst (.int 4)) (.cons (.cst (.int 5)) Es.nil))))) Es.nil))) Es.nil))))
    lz2)
def lz0 : Ss := (.cons (.asg (.nm 1) (.call "_law_open" (.cons (.var 0) Es.nil)))
    lz1)
def f_law : Fn := ⟨1, 12, lz0⟩
structure K8 (P : Prog) : Prop extends KF P, KG P, KP P where
  needCutA : P.lookup "need_cut" = some f_need_cut
  findF : P.lookup "find_failing" = some f_find_failing
  failW : P.lookup "failing_word" = some f_failing_word
  lLead : P.lookup "_law_lead" = some f_lead
  lDoes : P.lookup "_law_does_take" = some f_law_does_take
  lWords : P.lookup "_law_words" = some f_law_words
  lDrawn : P.lookup "_law_drawn_machine" = some f_law_drawn_machine
  lSome : P.lookup "_law_some_machine" = some f_law_some_machine
  lCuts : P.lookup "_law_all_cuts" = some f_law_all_cuts
  lCut : P.lookup "_law_cuttings" = some f_law_cuttings
  lFail : P.lookup "_law_failing" = some f_law_failing
def noPl (m : Mach) (ct : List Int) (w : Tx) : Bool := (placesN m ct w (w.length + 1)).isEmpty
theorem short_is {m : Mach} (k : MachOk m) {ct : List Int} {N : Nat} {o : Option Tx} (h : FailIs m ct N o) : ((((allW m.l.toNat 4).filter (takeM m)).filter (noPl m ct)).take 1) = o.toList.filter fun w => decide (w.length ≤ 4) := by
  rw [List.filter_filter]
  have l1 := k.l1
  refine first_short (l := m.l.toNat) (by omega) 4 (fun w => noPl m ct w && takeM m w) o ?_
  cases o with
  | none => exact fun u hu => by show (noPl m ct u && takeM m u) = false; rw [Bool.and_comm]; exact h u hu
  | some w =>
    obtain ⟨_, a, b, c, d⟩ := h
    refine ⟨(inW_word k.l1 k.l3 w).mp a, ?_, fun u hu hlt => by show (noPl m ct u && takeM m u) = false; rw [Bool.and_comm]; exact d u hu hlt⟩
    show ((placesN m ct w (w.length + 1)).isEmpty && takeM m w) = true
    rw [b, c]
    rfl
/-- the short words -/
theorem lz_5 {P : Prog} {n fl : Nat} {m : Mach} {ct : List Int} {o : Option Tx} {h : Hp} {e : En} {x0 x1 x2 x3 x4 x5 x6 x8 x9 x10 : Option D} (k : MachOk m) (ho : FailIs m ct 840 o) (hf : h[fl]? = some (.lst ((((allW m.l.toNat 4).filter (takeM m)).filter (noPl m ct)).map .str))) (he : e.xr = fun _ _ _ _ => False)
    (q : e.nx [x0, x1, x2, x3, x4, x5, x6, some (optD o), x8, x9, x10, some (.ref fl)] h) :
    dSs ⟨callN P n⟩ lz3b5 e [x0, x1, x2, x3, x4, x5, x6, some (optD o), x8, x9, x10, some (.ref fl)] h := by
  obtain ⟨e1, e2, e3, e4, e5⟩ := e
  cases he
  have hs := short_is k ho
  generalize ((allW m.l.toNat 4).filter (takeM m)).filter (noPl m ct) = F at hf hs
  have ec : cut (F.map D.str) none (some 1) = (F.take 1).map D.str := by
    have : cut (F.map D.str) none (some 1) = (F.map D.str).take 1 := by
      cases F with
      | nil => rfl
      | cons x r =>
        simp only [cut, ix, HT.sIx]
        rw [if_neg (by omega), List.drop_zero, Nat.sub_zero]
        congr 1
    rw [this, List.map_take]
  simp [lz3b5, dSs, dS, dT, dEs, dTs, dIfs, dI, dTg, dTgs, lay, tst, ini, tsLen, SL.bi, SL.lm, SL.lmT, SL.cmp, op2, SL.wipe, slc, items_ref hf, ec, hs]
  cases o with
  | none =>
    simp [optD, isO, isD, tru, biInt, mulD, lstOf, rep, sz]
    refine eqD_l1 (o := none) ?_
    simp [tru]
    exact q
  | some w =>
    have hw8 := ho.1
    have hz : w.length ≤ sz := by simp only [sz]; omega
    simp [optD, isO, isD, tru, biLen, SL.len, hz, ordD, biInt]
    by_cases hw : w.length ≤ 4
    · have h5 : (w.length : Int) < 5 := by omega
      simp [hw, h5, tru, mulD, lstOf, rep, sz]
      refine eqD_l1 (o := some w) ?_
      simp [tru]
      exact q
    · have h5 : ¬ (w.length : Int) < 5 := by omega
      simp [hw, h5, tru, mulD, lstOf, rep, sz]
      refine eqD_l1 (o := none) ?_
      simp [tru]
      exact q
theorem len_allW {l : Nat} (l3 : l ≤ 3) : (allW l 4).length ≤ 400 := all_len l3 4 (by decide)
/-- those without a place -/
theorem lz_4 {P : Prog} (hP : K8 P) {n wl : Nat} {m : Mach} {ct : List Int} {o : Option Tx} {h : Hp} {e : En} {x0 x1 x3 x4 x6 x8 x10 x11 : Option D} (k : MachOk m) (c5 : CutOk m.rows.length ct) (ho : FailIs m ct 840 o) (hw : h[wl]? = some (.lst (((allW m.l.toNat 4).filter (takeM m)).map .str))) (he : e.xr = fun _ _ _ _ => False)
    (q : ∀ h' y10 y11, Gr h h' → e.nx [x0, x1, some (mD m), x3, x4, some (tI ct), x6, some (optD o), x8, some (.ref wl), y10, y11] h') :
    dSs ⟨callN P (n + 6)⟩ lz3b4 e [x0, x1, some (mD m), x3, x4, some (tI ct), x6, some (optD o), x8, some (.ref wl), x10, x11] h := by
  have l3 := k.l3
  have la := len_allW (l := m.l.toNat) (by omega)
  have hin : ∀ w, w ∈ (allW m.l.toNat 4).filter (takeM m) → wordIn m.l w = true ∧ w.length ≤ 4 := fun w hw => by
    obtain ⟨a, b⟩ := (all_in _ _ w).mp (List.mem_filter.mp hw).1
    exact ⟨(inW_word k.l1 k.l3 w).mpr a, b⟩
  have hlen : ((allW m.l.toNat 4).filter (takeM m)).length ≤ 400 := Nat.le_trans (List.length_filter_le _ _) la
  have at2 : ∀ {H : Hp}, Gr h H → H[wl]? = some (.lst (((allW m.l.toNat 4).filter (takeM m)).map .str)) := fun {H} g => by
    obtain ⟨g, rfl⟩ := g
    rw [List.getElem?_append_left (List.getElem?_eq_some_iff.mp hw).1]
    exact hw
  simp [lz3b4, dSs, dS, dT, dEs, dTs, dIfs, dI, dTg, dTgs, lay, tst, ini, tsLen, SL.bi, SL.lm, SL.lmT, SL.cmp, op2, SL.wipe, walk, hw, he]
  refine comp_inv (fun r acc H => ∃ (ps qs : List Tx), (allW m.l.toNat 4).filter (takeM m) = ps ++ qs ∧ r = qs.map .str ∧ acc = (ps.filter (noPl m ct)).map .str ∧ Gr h H) ?_ ?_ _ _ _ ⟨[], (allW m.l.toNat 4).filter (takeM m), rfl, rfl, rfl, Gr.refl h⟩
  · rintro d rr acc H ⟨ps, qs, eL, er, rfl, g⟩
    cases qs with
    | nil => cases er
    | cons w qs =>
      cases er
      have hl : ((allW m.l.toNat 4).filter (takeM m)).length = ps.length + (qs.length + 1) := by rw [eL]; simp
      have fl := List.length_filter_le (noPl m ct) ps
      obtain ⟨w1, w2⟩ := hin w (by rw [eL]; simp)
      refine ⟨at2 g, by rw [List.length_map]; simp only [sz]; omega, fun qq hq => ?_⟩
      try simp [dSs, dS, dT, dEs, dTs, dIfs, dI, dTg, dTgs, lay, tst, ini, tsLen, SL.bi, SL.lm, SL.lmT, SL.cmp, op2, SL.wipe]
      refine sp_lcuttings hP.lLead hP.lEnds hP.lCut (n := n + 4) k c5 (by omega) w1 ?_
      refine eqD_pl0 (xs := placesN m ct w (w.length + 1)) at_end ?_
      have hq1 : (placesN m ct w (w.length + 1)).isEmpty = noPl m ct w := rfl
      rw [hq1]
      cases hb : noPl m ct w with
      | true =>
        simp [tru]
        exact hq (some (.str w)) _ ⟨ps ++ [w], qs, by rw [eL]; simp, rfl, by simp [hb], g.app _⟩
      | false =>
        simp [tru]
        exact hq none _ ⟨ps ++ [w], qs, by rw [eL]; simp, rfl, by simp [hb], g.app _⟩
  · rintro acc H ⟨ps, qs, eL, er, rfl, g⟩
    have hqs : qs = [] := by
      cases qs with
      | nil => rfl
      | cons _ _ => cases er
    subst hqs
    rw [List.append_nil] at eL
    refine ⟨at2 g, ?_⟩
    rw [← eL]
    try simp [lay, dTg, -List.filter_filter]
    refine lz_5 (fl := H.length) k ho at_end he ?_
    exact q _ _ _ (g.app _)
theorem lz_3 {P : Prog} (hP : K8 P) {n : Nat} {m : Mach} {ct : List Int} {o : Option Tx} {h : Hp} {e : En} {x0 x1 x3 x4 x6 x8 x9 x10 x11 : Option D} (k : MachOk m) (c5 : CutOk m.rows.length ct) (ho : FailIs m ct 840 o) (he : e.xr = fun _ _ _ _ => False)
    (q : ∀ h' y9 y10 y11, Gr h h' → e.nx [x0, x1, some (mD m), x3, x4, some (tI ct), x6, some (optD o), x8, y9, y10, y11] h') :
    dSs ⟨callN P (n + 6)⟩ lz3b3 e [x0, x1, some (mD m), x3, x4, some (tI ct), x6, some (optD o), x8, x9, x10, x11] h := by
  have l1 := k.l1
  have l3 := k.l3
  have la := len_allW (l := m.l.toNat) (by omega)
  simp [lz3b3, dSs, dS, dT, dEs, dTs, dIfs, dI, dTg, dTgs, lay, tst, ini, tsLen, SL.bi, SL.lm, SL.lmT, SL.cmp, op2, SL.wipe, m0, he]
  refine sp_wordsX hP.lWords (n := n + 5) (mo := 4) (by decide) l1 l3 ?_
  have atw : (h ++ [O.lst ((allW m.l.toNat 4).map .str)])[h.length]? = some (.lst ((allW m.l.toNat 4).map .str)) := at_end
  simp [walk]
  refine comp_filter (takF m) atw _ [] (by simp only [List.length_map, List.length_nil, sz]; omega) (fun v hv qq z => ?_) ?_
  · obtain ⟨w, hw, rfl⟩ := List.mem_map.mp hv
    obtain ⟨a, b⟩ := (all_in _ _ w).mp hw
    try simp [dSs, dS, dT, dEs, dTs, dIfs, dI, dTg, dTgs, lay, tst, ini, tsLen, SL.bi, SL.lm, SL.lmT, SL.cmp, op2, SL.wipe]
    refine does_go hP.lDoes rfl hP.lLead (n := n + 4) k ((inW_word k.l1 k.l3 w).mpr a) ?_
    have ez : takF m (.str w) = if takeM m w = true then some (.str w) else none := rfl
    rw [ez] at z
    cases hb : takeM m w with
    | true =>
      simp [hb, tru] at z ⊢
      exact z
    | false =>
      simp [hb, tru] at z ⊢
      exact z
  · rw [List.nil_append, strs_filter (takeM m) (takF m) (fun w => rfl)]
    try simp [lay, dTg]
    refine lz_4 hP (n := n) (wl := h.length + 1) (o := o) k c5 ho (by simp) he fun h' y10 y11 g => q h' _ y10 y11 ?_
    exact (((Gr.refl h).app _).app _).trans (by simpa using g)
end Lw

set_option linter.all false
set_option autoImplicit false
set_option maxRecDepth 100000
set_option Elab.async false
set_option maxHeartbeats 1000000
namespace Lw
open PySem SL
theorem fail_at {m : Mach} (k : MachOk m) (n5 : m.rows.length ≤ 5) {ct : List Int} (c5 : CutOk m.rows.length ct) : ∃ o, failD m ct = o ∧ FailW m ct 840 o := ⟨_, rfl, fail_is k n5 c5 (fail_ok k n5 c5 840).2⟩
theorem FailIs.word {m : Mach} {ct : List Int} {o : Option Tx} (h : FailIs m ct 840 o) : ∀ w, o = some w → w.length ≤ 2000 ∧ wordIn m.l w = true := fun w e => by
  subst e
  exact ⟨by have := h.1; omega, h.2.1⟩
/-- one cut -/
theorem lz_0 {P : Prog} (hP : K8 P) {n : Nat} {m : Mach} {ct : List Int} {h : Hp} {e : En} {x0 x1 x3 x4 x6 x7 x8 x9 x10 x11 : Option D} (k : MachOk m) (n5 : m.rows.length ≤ 5) (c5 : CutOk m.rows.length ct) (he : e.xr = fun _ _ _ _ => False)
    (q : ∀ h' y7 y8 y9 y10 y11, Gr h h' → e.nx [x0, x1, some (mD m), x3, x4, some (tI ct), x6, y7, y8, y9, y10, y11] h') :
    dSs ⟨callN P (n + 6)⟩ lz3b0 e [x0, x1, some (mD m), x3, x4, some (tI ct), x6, x7, x8, x9, x10, x11] h := by
  obtain ⟨o, eo, ⟨ho⟩⟩ := fail_at k n5 c5
  have hr : ∀ {h : Hp} {Q : TV → Hp → Prop}, Q (.d (.str (optT o))) h → biRepr h [.d (optD o)] Q := fun q => opt_repr ho.word q
  generalize optT o = K at hr
  simp [lz3b0, dSs, dS, dT, dEs, dTs, dIfs, dI, dTg, dTgs, lay, tst, ini, tsLen, SL.bi, SL.lm, SL.lmT, SL.cmp, op2, SL.wipe, he]
  refine sp_failing hP.toKF hP.needCutA hP.findF hP.failW (n := n) k n5 c5 ?_
  refine sp_lfailing hP.toKG hP.lFail (n := n + 4) k n5 c5 ?_
  rw [eo]
  simp [lz3b1, dSs, dS, dT, dEs, dTs, dIfs, dI, dTg, dTgs, lay, tst, ini, tsLen, SL.bi, SL.lm, SL.lmT, SL.cmp, op2, SL.wipe, he]
  refine hr ?_
  refine hr ?_
  refine eqD_str (x := K) ?_
  simp [tru]
  have rest : ∀ h', Gr h h' → dSs ⟨callN P (n + 6)⟩ lz3b3 e [x0, x1, some (mD m), x3, x4, some (tI ct), x6, some (optD o), some (optD o), x9, x10, x11] h' := fun h' g => lz_3 hP (n := n) k c5 ho he fun h2 y9 y10 y11 g2 => q h2 _ _ y9 y10 y11 (g.trans g2)
  simp [lz3b2, dSs, dS, dT, dEs, dTs, dIfs, dI, dTg, dTgs, lay, tst, ini, tsLen, SL.bi, SL.lm, SL.lmT, SL.cmp, op2, SL.wipe, he]
  cases o with
  | none =>
    simp [optD, isO, isD, tru]
    exact rest h (Gr.refl h)
  | some w =>
    obtain ⟨w1, w2, w3, w4, _⟩ := ho
    simp [optD, isO, isD, tru]
    refine sp_takes hP.toKV (n := n + 1) k (by omega) w2 ?_
    rw [w3]
    simp [isO, isD, tru]
    refine sp_cuttings hP.toK7 (n := n + 1) k n5 c5 (by omega) w2 ?_
    refine eqD_pl0 (xs := placesN m ct w (w.length + 1)) at_end ?_
    rw [w4]
    simp [tru]
    exact rest _ ((Gr.refl h).app _)
theorem lz_Z {P : Prog} {n : Nat} {m : Mach} {h : Hp} {e : En} {x0 x1 x4 x5 x6 x7 x8 x9 x10 x11 : Option D} {K : Tx} (hK : (mP m).shown.cps.toList = K) (k : MachOk m) (he : e.xr = fun _ _ _ _ => False) (q : e.rt (.bl true) h) :
    dSs ⟨callN P n⟩ lz4 e [x0, x1, some (mD m), some (.str K), x4, x5, x6, x7, x8, x9, x10, x11] h := by
  simp [lz4, dSs, dS, dT, dEs, dTs, dIfs, dI, dTg, dTgs, lay, tst, ini, tsLen, SL.bi, SL.lm, SL.lmT, SL.cmp, op2, SL.wipe, he]
  refine biRepr_m k ?_
  rw [hK]
  refine eqD_str ?_
  exact q
theorem cut_head {xs : List D} : cut xs none (some 1) = xs.take 1 := by
  cases xs with
  | nil => rfl
  | cons x r =>
    simp only [cut, ix, HT.sIx]
    rw [if_neg (by omega), List.drop_zero, Nat.sub_zero]
    congr 1
theorem cut_last {xs : List D} : ∀ x, x ∈ cut xs (some (-1)) none → x ∈ xs := fun x hx => List.mem_of_mem_drop (List.mem_of_mem_take hx)
theorem cut_last_len {xs : List D} : (cut xs (some (-1)) none).length ≤ xs.length := by
  unfold cut
  rw [List.length_take, List.length_drop]
  omega
theorem lz_main {P : Prog} (hP : K8 P) {n cl : Nat} {m : Mach} {h : Hp} {cells : List Int} {a r : Int} {e : En} {x0 x5 x6 x7 x8 x9 x10 x11 : Option D} {K : Tx} (hK : (mP m).shown.cps.toList = K) (x : PenAt h 2 1 cells a r) (k : MachOk m) (n5 : m.rows.length ≤ 5) (ha : a ≤ 400000) (hcl : h[cl]? = some (.lst ((allCuts m.rows.length).map tI))) (hc2 : cl ≠ 2) (he : e.xr = fun _ _ _ _ => False) (q : ∀ h', e.rt (.bl true) h') :
    dSs ⟨callN P (n + 6)⟩ lz3 e [x0, some (.ref 2), some (mD m), some (.str K), some (.ref cl), x5, x6, x7, x8, x9, x10, x11] h := by
  have n1 := k.n1
  have al := allCuts_len m.rows.length
  have p2' : 2 ≤ 2 ^ m.rows.length := by
    have := Nat.pow_le_pow_right (n := 2) (by decide) n1
    omega
  have p5 : 2 ^ m.rows.length ≤ 2 ^ 5 := Nat.pow_le_pow_right (by decide) n5
  have p5' : (2 : Nat) ^ 5 = 32 := rfl
  have ne : (allCuts m.rows.length).map tI ≠ [] := by intro z; have := congrArg List.length z; rw [List.length_map] at this; rw [this] at al; simp at al; omega
  have hlen : ((allCuts m.rows.length).map tI).length ≤ 31 := by rw [List.length_map]; omega
  have go : ∀ (qs : List (List Int)) (H : Hp) (a2 r2 : Int), (∀ t, t ∈ qs → CutOk m.rows.length t) → PenAt H 2 1 cells a2 r2 → ∀ s6 : Option D, forGo (fun _ => True) (fun y N s h => dSs ⟨callN P (n + 6)⟩ lz3b0 { nx := N, rt := e.rt, bk := fun s1 h1 => dSs ⟨callN P (n + 6)⟩ lz4 e s1 h1, ct := N, xr := fun _ _ _ _ => False } (s.set 5 (some y)) h) (fun s1 h1 => dSs ⟨callN P (n + 6)⟩ lz4 e s1 h1) (qs.map tI) [x0, some (.ref 2), some (mD m), some (.str K), some (.ref cl), x5, s6, x7, x8, x9, x10, x11] H := fun qs H a2 r2 hq p s6 => by
    refine for_inv (fun r s H' => ∃ (rs : List (List Int)) (y5 y7 y8 y9 y10 y11 : Option D), r = rs.map tI ∧ (∀ t, t ∈ rs → CutOk m.rows.length t) ∧ Gr H H' ∧ s = [x0, some (.ref 2), some (mD m), some (.str K), some (.ref cl), y5, s6, y7, y8, y9, y10, y11]) ?_ ?_ _ _ _ ⟨qs, _, _, _, _, _, _, rfl, hq, Gr.refl _, rfl⟩
    · rintro y r s H' ⟨rs, y5, y7, y8, y9, y10, y11, e1, hr, g, rfl⟩
      cases rs with
      | nil => cases e1
      | cons t rs =>
        cases e1
        refine ⟨trivial, fun Nx hN => ?_⟩
        exact lz_0 (e := ⟨Nx, _, _, Nx, _⟩) hP (n := n) k n5 (hr t (List.mem_cons_self ..)) rfl fun h' z7 z8 z9 z10 z11 g' => hN _ _ ⟨rs, _, _, _, _, _, _, rfl, fun u hu => hr u (List.mem_cons_of_mem _ hu), g.trans g', rfl⟩
    · rintro s H' ⟨rs, y5, y7, y8, y9, y10, y11, e1, hr, g, rfl⟩
      exact ⟨trivial, lz_Z hK k he (q _)⟩
  simp [lz3, dSs, dS, dT, dEs, dTs, dIfs, dI, dTg, dTgs, lay, tst, ini, tsLen, SL.bi, SL.lm, SL.lmT, SL.cmp, op2, SL.wipe, he, slc, items_ref hcl, sz, -List.map_take, -List.map_drop]
  rw [cut_head]
  obtain ⟨us, eus⟩ : ∃ us, us = (((allCuts m.rows.length).map tI).take 1) ++ cut ((allCuts m.rows.length).map tI) (some (-1)) none := ⟨_, rfl⟩
  have lus : us.length ≤ 32 := by
    rw [eus, List.length_append, List.length_take]
    have := cut_last_len (xs := (allCuts m.rows.length).map tI)
    omega
  refine addL (by simp only [sz]; rw [eus, List.length_append] at lus; omega) ?_
  rw [← eus]
  have mus : ∀ d, d ∈ us → ∃ t, CutOk m.rows.length t ∧ d = tI t := fun d hd => by
    rw [eus] at hd
    have : d ∈ (allCuts m.rows.length).map tI := (List.mem_append.mp hd).elim (fun z => List.mem_of_mem_take z) (cut_last d)
    obtain ⟨t, ht, rfl⟩ := List.mem_map.mp this
    exact ⟨t, allCuts_ok ht, rfl⟩
  have hlt := x.lt
  refine comp_rng (fun _ => trivial) 2 (by decide) (fun j acc H => ∃ (a1 r1 : Int), acc.length = j ∧ (∀ d, d ∈ acc → ∃ t, CutOk m.rows.length t ∧ d = tI t) ∧ PenAt H 2 1 cells a1 r1 ∧ Fr 2 h H ∧ a1 ≤ a + j) ?_ ?_ ?_ _ ⟨a, r, rfl, fun d hd => (by cases hd), x, Fr.refl 2 _, by omega⟩
  · rintro j acc H ⟨a1, r1, hj, _⟩
    omega
  · rintro j acc H hj ⟨a1, r1, hl, hd, p1, f1, ha1⟩ qq hq
    refine sp_one hP.toKP (n := n + 3) p1 ((f1.same cl hc2).trans hcl) hc2 ne (by omega) (by omega) fun v h3 a3 r3 mv p3 f3 ha3 => ?_
    obtain ⟨t, ht, rfl⟩ := List.mem_map.mp mv
    refine hq (some (tI t)) h3 ⟨a3, r3, by simp [hl], fun d hd' => ?_, p3, f1.trans f3, by omega⟩
    rcases List.mem_append.mp hd' with z | z
    · exact hd d z
    · rw [List.mem_singleton.mp z]
      exact ⟨t, allCuts_ok ht, rfl⟩
  · rintro acc H ⟨a1, r1, hl, hd, p1, f1, ha1⟩
    refine addL (by simp only [sz]; omega) ?_
    have hall : ∀ d, d ∈ us ++ acc → ∃ t, CutOk m.rows.length t ∧ d = tI t := fun d hd' => (List.mem_append.mp hd').elim (mus d) (hd d)
    have : ∃ qs : List (List Int), us ++ acc = qs.map tI ∧ ∀ t, t ∈ qs → CutOk m.rows.length t := by
      generalize us ++ acc = ds at hall
      induction ds with
      | nil => exact ⟨[], rfl, fun t ht => by cases ht⟩
      | cons d ds ih =>
        obtain ⟨t, ht, rfl⟩ := hall d (List.mem_cons_self ..)
        obtain ⟨qs, e1, hq⟩ := ih fun d hd => hall d (List.mem_cons_of_mem _ hd)
        exact ⟨t :: qs, by rw [e1]; rfl, fun u hu => (List.mem_cons.mp hu).elim (fun z => z ▸ ht) (hq u)⟩
    obtain ⟨qs, eqs, hqs⟩ := this
    rw [eqs]
    exact go qs H a1 r1 hqs p1 _
theorem lz_2 {P : Prog} (hP : K8 P) {n : Nat} {m : Mach} {h : Hp} {cells : List Int} {a r : Int} {e : En} {x0 x3 x4 x5 x6 x7 x8 x9 x10 x11 : Option D} (x : PenAt h 2 1 cells a r) (k : MachOk m) (n5 : m.rows.length ≤ 5) (ha : a ≤ 400000) (he : e.xr = fun _ _ _ _ => False) (q : ∀ h', e.rt (.bl true) h') :
    dSs ⟨callN P (n + 6)⟩ lz2 e [x0, some (.ref 2), some (mD m), x3, x4, x5, x6, x7, x8, x9, x10, x11] h := by
  obtain ⟨K, hK⟩ : ∃ K, (mP m).shown.cps.toList = K := ⟨_, rfl⟩
  have hr : ∀ {h : Hp} {Q : TV → Hp → Prop}, Q (.d (.str K)) h → biRepr h [.d (mD m)] Q := fun q => biRepr_m k (by rw [hK]; exact q)
  have hlt := x.lt
  simp [lz2, dSs, dS, dT, dEs, dTs, dIfs, dI, dTg, dTgs, lay, tst, ini, tsLen, SL.bi, SL.lm, SL.lmT, SL.cmp, op2, SL.wipe, he]
  refine hr ?_
  rw [lay_d]
  refine sp_all_cuts hP.lCuts (n := n + 5) (by omega) ?_
  exact lz_main hP (n := n) hK x.app k n5 ha at_end (by omega) he q
end Lw

set_option linter.all false
set_option autoImplicit false
set_option maxRecDepth 100000
set_option Elab.async false
set_option maxHeartbeats 1000000
namespace Lw
open PySem SL
theorem asgC {P : Prog} {n i : Nat} {f : String} {es : Es} {k : Ss} {e : En} {s : Sto} {h : Hp} (q : dEs ⟨callN P n⟩ (fun c fs h => e.xr c fs s h) es s h fun xs h1 => callN P n f xs h1 (fun x h2 => dSs ⟨callN P n⟩ k e (s.set i (some x)) h2) (fun c fs h => e.xr c fs s h)) : dSs ⟨callN P n⟩ (.cons (.asg (.nm i) (.call f es)) k) e s h := q
theorem lz_law {P : Prog} (hP : K8 P) (hl : P.lookup "law" = some f_law) {n : Nat} {ns : List Int} (hn : ns.length ≤ 63) : callN P (n + 7) "law" [.ref 0] [.fz (ns.map .int)] (fun v _ => v = .bl true) R0' := by
  refine call_go hl rfl ?_
  show dSs ⟨callN P (n + 6)⟩ lz0 _ _ _
  unfold lz0
  refine asgC ?_
  simp [dEs, dT, lay, ini, f_law]
  refine sp_open hP.toKP (n := n + 5) (fun cells => ?_) hn
  have pen : PenAt [.fz (ns.map .int), .lst (cells.map .int), .lst [.ref 1, .int 0, .int 0]] 2 1 cells 0 0 := ⟨rfl, rfl, by decide, by decide, by decide⟩
  unfold lz1
  refine asgC ?_
  simp [dEs, dT, lay]
  refine sp_anew hP.toKP (n := n + 5) pen fun h2 p2 f2 => ?_
  have lt2 := p2.lt
  try simp [sz]
  refine sp_one hP.toKP (n := n + 3) p2.app at_end (by omega) (by simp) (by simp) (by omega) fun v3 h3 a3 r3 m3 p3 f3 ha3 => ?_
  have iv3 : ∃ i : Int, v3 = .int i ∧ 3 ≤ i ∧ i ≤ 5 := by
    simp at m3
    rcases m3 with rfl | rfl | rfl <;> exact ⟨_, rfl, by omega, by omega⟩
  obtain ⟨mo, rfl, o1, o4⟩ := iv3
  try simp
  refine sp_some hP.toKP hP.lDrawn hP.lSome (n := n + 1) p3 (by omega) (by omega) (by omega) fun m h4 a4 r4 k n5 p4 f4 ha4 => ?_
  refine lz_2 hP (n := n) p4 k (by omega) (by omega) rfl fun h' => ?_
  exact (gc0 rfl : gcq [O.fz (ns.map .int)] (fun v _ => v = .bl true) (.bl true) h')
end Lw

set_option linter.all false
set_option autoImplicit false
set_option maxRecDepth 100000
set_option Elab.async false
set_option maxHeartbeats 0
namespace Lw
open PySem PySem.Spec PyProof.Rows L2 SL
/- is_below: 0:value 1:limit -/
/- is_rising: 0:value 1:limit 2:one 3:other -/
/- is_letters: 0:value -/
/- is_row: 0:value 1:letters 2:many 3:one -/
/- is_machine: 0:value 1:many 2:row -/
/- need_machine: 0:machine -/
/- is_word_of: 0:letters 1:value 2:sign -/
/- need_word: 0:machine 1:word -/
/- lead: 0:machine 1:standing 2:word 3:sign -/
/- does_take: 0:machine 1:word -/
/- takes: 0:machine 1:word -/
/- led: 0:machine 1:some 2:number 3:standing -/
/- are_ends: 0:machine 1:some 2:standing -/
/- need_small: 0:machine -/
/- is_cut_of: 0:machine 1:value -/
/- need_cut_of: 0:machine 1:cut -/
/- need_cut: 0:machine 1:cut -/
/- find_cuttings: 0:machine 1:cut 2:word 3:found 4:place 5:standing -/
/- leasts: 0:some 1:one 2:other -/
/- is_within: 0:one 1:other 2:standing -/
/- find_failing: 0:machine 1:cut 2:begin 3:met 4:queue 5:at 6:word 7:standing 8:some 9:one 10:number 11:to 12:after 13:found -/
/- cuttings: 0:machine 1:cut 2:word -/
/- failing_word: 0:machine 1:cut -/
/- _law_spread: 0:cell 1:at 2:primes 3:mixed 4:one 5:rest 6:two 7:three -/
/- _law_open: 0:script 1:cells 2:k 3:cell -/
/- _law_take: 0:pen 1:many 2:at 3:cell 4:found -/
/- _law_anew: 0:pen -/
/- _law_one: 0:pen 1:some -/
/- _law_lead: 0:machine 1:standing 2:word 3:sign -/
/- _law_does_take: 0:machine 1:word -/
/- _law_words: 0:letters 1:most 2:found 3:last 4:length 5:longer 6:word 7:sign -/
/- _law_drawn_machine: 0:pen 1:letters 2:many 3:sort 4:moves 5:standing 6:row 7:number 8:to 9:odds 10:ends -/
/- _law_some_machine: 0:pen 1:most 2:letters 3:some 4:good 5:own -/
/- _law_all_cuts: 0:machine 1:found 2:standing 3:own -/
/- _law_image: 0:machine 1:some 2:number 3:standing -/
def f_law_image : Fn := ⟨3, 4, (.cons (.ret (.toT (.seq (.sset (.comp (.idx (.idx (.idx (.var 0) (.cst (.int 1))) (.var 3)) (.var 2)) (.nm 3) (.val (.var 1)) Es.nil [3])))))
    Ss.nil)⟩
/- _law_are_ends: 0:machine 1:some 2:standing -/
/- _law_cuttings: 0:machine 1:cut 2:word 3:found 4:place 5:ends 6:standing -/
/- _law_failing: 0:machine 1:cut 2:begin 3:met 4:queue 5:at 6:standing 7:some 8:own 9:number 10:to 11:after 12:found -/
/- _law_least: 0:some 1:found 2:one 3:within 4:other 5:own -/
/- law: 0:script 1:pen 2:machine 3:kept 4:cuts 5:cut 6:step 7:told 8:due 9:words 10:word 11:failing -/
def prog : Prog := ([("is_below", f_is_below), ("is_rising", f_is_rising), ("is_letters", f_is_letters), ("is_row", f_is_row), ("is_machine", f_is_machine), ("need_machine", f_need_machine), ("is_word_of", f_is_word_of), ("need_word", f_need_word), ("lead", f_lead), ("does_take", f_does_take), ("takes", f_takes), ("led", f_led), ("are_ends", f_are_ends), ("need_small", f_need_small), ("is_cut_of", f_is_cut_of), ("need_cut_of", f_need_cut_of), ("need_cut", f_need_cut), ("find_cuttings", f_find_cuttings), ("leasts", f_leasts), ("is_within", f_is_within)] : List (String × Fn)) ++ ([("find_failing", f_find_failing), ("cuttings", f_cuttings), ("failing_word", f_failing_word), ("_law_spread", f_law_spread), ("_law_open", f_law_open), ("_law_take", f_law_take), ("_law_anew", f_law_anew), ("_law_one", f_law_one), ("_law_lead", f_law_lead), ("_law_does_take", f_law_does_take), ("_law_words", f_law_words), ("_law_drawn_machine", f_law_drawn_machine), ("_law_some_machine", f_law_some_machine), ("_law_all_cuts", f_law_all_cuts), ("_law_image", f_law_image), ("_law_are_ends", f_law_are_ends), ("_law_cuttings", f_law_cuttings), ("_law_failing", f_law_failing), ("_law_least", f_law_least), ("law", f_law)] : List (String × Fn))
def gt : Gt := ⟨[("LETTERS", (.str [97, 98, 99])), ("MOST_STANDINGS", (.int 32)), ("MOST_CUT", (.int 5))], prog.map fun p => (p.1, p.2.np), ["isinstance", "int", "bool", "str", "tuple", "list", "len", "all", "any", "min", "repr", "range", "zip", "enumerate", "sorted", "set"]⟩
def top (i : Nat) : Stmt := PySem.Challenge.pw_seamlots_k08_failing_words.main.body.getD i (.Pass ⟨0, 0, 0, 0⟩)
def d_is_below : He.DefD := ⟨("is_below", none), "is_below", "is_below", defArgs (top 9), defBody (top 9), defScope (top 9), [], []⟩
def d_is_rising : He.DefD := ⟨("is_rising", none), "is_rising", "is_rising", defArgs (top 10), defBody (top 10), defScope (top 10), [], []⟩
def d_is_letters : He.DefD := ⟨("is_letters", none), "is_letters", "is_letters", defArgs (top 11), defBody (top 11), defScope (top 11), [], []⟩
def d_is_row : He.DefD := ⟨("is_row", none), "is_row", "is_row", defArgs (top 12), defBody (top 12), defScope (top 12), [], []⟩
def d_is_machine : He.DefD := ⟨("is_machine", none), "is_machine", "is_machine", defArgs (top 13), defBody (top 13), defScope (top 13), [], []⟩
def d_need_machine : He.DefD := ⟨("need_machine", none), "need_machine", "need_machine", defArgs (top 14), defBody (top 14), defScope (top 14), [], []⟩
def d_is_word_of : He.DefD := ⟨("is_word_of", none), "is_word_of", "is_word_of", defArgs (top 15), defBody (top 15), defScope (top 15), [], []⟩
def d_need_word : He.DefD := ⟨("need_word", none), "need_word", "need_word", defArgs (top 16), defBody (top 16), defScope (top 16), [], []⟩
def d_lead : He.DefD := ⟨("lead", none), "lead", "lead", defArgs (top 17), defBody (top 17), defScope (top 17), [], []⟩
def d_does_take : He.DefD := ⟨("does_take", none), "does_take", "does_take", defArgs (top 18), defBody (top 18), defScope (top 18), [], []⟩
def d_takes : He.DefD := ⟨("takes", none), "takes", "takes", defArgs (top 19), defBody (top 19), defScope (top 19), [], []⟩
def d_led : He.DefD := ⟨("led", none), "led", "led", defArgs (top 22), defBody (top 22), defScope (top 22), [], []⟩
def d_are_ends : He.DefD := ⟨("are_ends", none), "are_ends", "are_ends", defArgs (top 23), defBody (top 23), defScope (top 23), [], []⟩
def d_need_small : He.DefD := ⟨("need_small", none), "need_small", "need_small", defArgs (top 24), defBody (top 24), defScope (top 24), [], []⟩
def d_is_cut_of : He.DefD := ⟨("is_cut_of", none), "is_cut_of", "is_cut_of", defArgs (top 25), defBody (top 25), defScope (top 25), [], []⟩
def d_need_cut_of : He.DefD := ⟨("need_cut_of", none), "need_cut_of", "need_cut_of", defArgs (top 26), defBody (top 26), defScope (top 26), [], []⟩
def d_need_cut : He.DefD := ⟨("need_cut", none), "need_cut", "need_cut", defArgs (top 27), defBody (top 27), defScope (top 27), [], []⟩
def d_find_cuttings : He.DefD := ⟨("find_cuttings", none), "find_cuttings", "find_cuttings", defArgs (top 28), defBody (top 28), defScope (top 28), [], []⟩
def d_leasts : He.DefD := ⟨("leasts", none), "leasts", "leasts", defArgs (top 29), defBody (top 29), defScope (top 29), [], []⟩
def d_is_within : He.DefD := ⟨("is_within", none), "is_within", "is_within", defArgs (top 30), defBody (top 30), defScope (top 30), [], []⟩
def d_find_failing : He.DefD := ⟨("find_failing", none), "find_failing", "find_failing", defArgs (top 31), defBody (top 31), defScope (top 31), [], []⟩
def d_cuttings : He.DefD := ⟨("cuttings", none), "cuttings", "cuttings", defArgs (top 32), defBody (top 32), defScope (top 32), [], []⟩
def d_failing_word : He.DefD := ⟨("failing_word", none), "failing_word", "failing_word", defArgs (top 33), defBody (top 33), defScope (top 33), [], []⟩
def d_law_spread : He.DefD := ⟨("_law_spread", none), "_law_spread", "_law_spread", defArgs (top 35), defBody (top 35), defScope (top 35), [], []⟩
def d_law_open : He.DefD := ⟨("_law_open", none), "_law_open", "_law_open", defArgs (top 36), defBody (top 36), defScope (top 36), [], []⟩
def d_law_take : He.DefD := ⟨("_law_take", none), "_law_take", "_law_take", defArgs (top 37), defBody (top 37), defScope (top 37), [], []⟩
def d_law_anew : He.DefD := ⟨("_law_anew", none), "_law_anew", "_law_anew", defArgs (top 38), defBody (top 38), defScope (top 38), [], []⟩
def d_law_one : He.DefD := ⟨("_law_one", none), "_law_one", "_law_one", defArgs (top 39), defBody (top 39), defScope (top 39), [], []⟩
def d_law_lead : He.DefD := ⟨("_law_lead", none), "_law_lead", "_law_lead", defArgs (top 40), defBody (top 40), defScope (top 40), [], []⟩
def d_law_does_take : He.DefD := ⟨("_law_does_take", none), "_law_does_take", "_law_does_take", defArgs (top 41), defBody (top 41), defScope (top 41), [], []⟩
def d_law_words : He.DefD := ⟨("_law_words", none), "_law_words", "_law_words", defArgs (top 42), defBody (top 42), defScope (top 42), [], []⟩
def d_law_drawn_machine : He.DefD := ⟨("_law_drawn_machine", none), "_law_drawn_machine", "_law_drawn_machine", defArgs (top 43), defBody (top 43), defScope (top 43), [], []⟩
def d_law_some_machine : He.DefD := ⟨("_law_some_machine", none), "_law_some_machine", "_law_some_machine", defArgs (top 44), defBody (top 44), defScope (top 44), [], []⟩
def d_law_all_cuts : He.DefD := ⟨("_law_all_cuts", none), "_law_all_cuts", "_law_all_cuts", defArgs (top 45), defBody (top 45), defScope (top 45), [], []⟩
def d_law_image : He.DefD := ⟨("_law_image", none), "_law_image", "_law_image", defArgs (top 46), defBody (top 46), defScope (top 46), [], []⟩
def d_law_are_ends : He.DefD := ⟨("_law_are_ends", none), "_law_are_ends", "_law_are_ends", defArgs (top 47), defBody (top 47), defScope (top 47), [], []⟩
def d_law_cuttings : He.DefD := ⟨("_law_cuttings", none), "_law_cuttings", "_law_cuttings", defArgs (top 48), defBody (top 48), defScope (top 48), [], []⟩
def d_law_failing : He.DefD := ⟨("_law_failing", none), "_law_failing", "_law_failing", defArgs (top 49), defBody (top 49), defScope (top 49), [], []⟩
def d_law_least : He.DefD := ⟨("_law_least", none), "_law_least", "_law_least", defArgs (top 50), defBody (top 50), defScope (top 50), [], []⟩
def d_law : He.DefD := ⟨("law", none), "law", "law", defArgs (top 51), defBody (top 51), defScope (top 51), [], []⟩
def fn : List He.DefD := ([d_is_below, d_is_rising, d_is_letters, d_is_row, d_is_machine, d_need_machine, d_is_word_of, d_need_word, d_lead, d_does_take, d_takes, d_led, d_are_ends, d_need_small, d_is_cut_of, d_need_cut_of, d_need_cut, d_find_cuttings, d_leasts, d_is_within] : List He.DefD) ++ ([d_find_failing, d_cuttings, d_failing_word, d_law_spread, d_law_open, d_law_take, d_law_anew, d_law_one, d_law_lead, d_law_does_take, d_law_words, d_law_drawn_machine, d_law_some_machine, d_law_all_cuts, d_law_image, d_law_are_ends, d_law_cuttings, d_law_failing, d_law_least, d_law] : List He.DefD)
def fa0 : List He.Fa := ([.glo "is_below", .glo "is_rising", .glo "is_letters", .glo "is_row", .glo "is_machine", .glo "need_machine", .glo "is_word_of", .glo "need_word", .glo "lead", .glo "does_take", .glo "takes", .glo "led", .glo "are_ends", .glo "need_small", .glo "is_cut_of", .glo "need_cut_of", .glo "need_cut", .glo "find_cuttings", .glo "leasts", .glo "is_within"] : List He.Fa) ++ ([.glo "find_failing", .glo "cuttings", .glo "failing_word", .glo "_law_spread", .glo "_law_open", .glo "_law_take", .glo "_law_anew", .glo "_law_one", .glo "_law_lead", .glo "_law_does_take", .glo "_law_words", .glo "_law_drawn_machine", .glo "_law_some_machine", .glo "_law_all_cuts", .glo "_law_image", .glo "_law_are_ends", .glo "_law_cuttings", .glo "_law_failing", .glo "_law_least", .glo "law"] : List He.Fa) ++ ([.str "LETTERS" "abc", .int "MOST_STANDINGS" 32, .int "MOST_CUT" 5] : List He.Fa)
def fa : List He.Fa := fa0 ++ gt.fre.map He.Fa.free
section
variable {K : PySem.W.Frag} {h : Heap} {mg : Str → Option Value}
theorem n_is_below : FnScope ["value", "limit"] ["value", "limit"] d_is_below.scope := ⟨by kernel_rfl, by kernel_rfl, by kernel_rfl, by decide +kernel, by kernel_rfl, by decide +kernel, by decide +kernel⟩
theorem k_is_below : okSs gt ["value", "limit"] f_is_below.body d_is_below.scope.names d_is_below.body = true := by kernel_rfl
theorem h_is_below (X : K.In h) (Gn : h.Ns mainGlobals mg) (c : He.SaysD fa fn K) : Have K mg gt "is_below" f_is_below :=
  have_of (N := ["value", "limit"]) (ps := ["value", "limit"]) (d := d_is_below) X Gn c (List.mem_of_getElem? (i := 0) rfl) (List.mem_of_getElem? (i := 0) rfl) rfl rfl rfl rfl n_is_below rfl rfl k_is_below fun _ _ _ _ _ _ us hl => match us, hl with | [_, _], _ => rfl
theorem n_is_rising : FnScope ["value", "limit", "one", "other"] ["value", "limit"] d_is_rising.scope := ⟨by kernel_rfl, by kernel_rfl, by kernel_rfl, by decide +kernel, by kernel_rfl, by decide +kernel, by decide +kernel⟩
theorem k_is_rising : okSs gt ["value", "limit", "one", "other"] f_is_rising.body d_is_rising.scope.names d_is_rising.body = true := by kernel_rfl
theorem h_is_rising (X : K.In h) (Gn : h.Ns mainGlobals mg) (c : He.SaysD fa fn K) : Have K mg gt "is_rising" f_is_rising :=
  have_of (N := ["value", "limit", "one", "other"]) (ps := ["value", "limit"]) (d := d_is_rising) X Gn c (List.mem_of_getElem? (i := 1) rfl) (List.mem_of_getElem? (i := 1) rfl) rfl rfl rfl rfl n_is_rising rfl rfl k_is_rising fun _ _ _ _ _ _ us hl => match us, hl with | [_, _], _ => rfl
theorem n_is_letters : FnScope ["value"] ["value"] d_is_letters.scope := ⟨by kernel_rfl, by kernel_rfl, by kernel_rfl, by decide +kernel, by kernel_rfl, by decide +kernel, by decide +kernel⟩
theorem k_is_letters : okSs gt ["value"] f_is_letters.body d_is_letters.scope.names d_is_letters.body = true := by kernel_rfl
theorem h_is_letters (X : K.In h) (Gn : h.Ns mainGlobals mg) (c : He.SaysD fa fn K) : Have K mg gt "is_letters" f_is_letters :=
  have_of (N := ["value"]) (ps := ["value"]) (d := d_is_letters) X Gn c (List.mem_of_getElem? (i := 2) rfl) (List.mem_of_getElem? (i := 2) rfl) rfl rfl rfl rfl n_is_letters rfl rfl k_is_letters fun _ _ _ _ _ _ us hl => match us, hl with | [_], _ => rfl
theorem n_is_row : FnScope ["value", "letters", "many", "one"] ["value", "letters", "many"] d_is_row.scope := ⟨by kernel_rfl, by kernel_rfl, by kernel_rfl, by decide +kernel, by kernel_rfl, by decide +kernel, by decide +kernel⟩
theorem k_is_row : okSs gt ["value", "letters", "many", "one"] f_is_row.body d_is_row.scope.names d_is_row.body = true := by kernel_rfl
theorem h_is_row (X : K.In h) (Gn : h.Ns mainGlobals mg) (c : He.SaysD fa fn K) : Have K mg gt "is_row" f_is_row :=
  have_of (N := ["value", "letters", "many", "one"]) (ps := ["value", "letters", "many"]) (d := d_is_row) X Gn c (List.mem_of_getElem? (i := 3) rfl) (List.mem_of_getElem? (i := 3) rfl) rfl rfl rfl rfl n_is_row rfl rfl k_is_row fun _ _ _ _ _ _ us hl => match us, hl with | [_, _, _], _ => rfl
theorem n_is_machine : FnScope ["value", "many", "row"] ["value"] d_is_machine.scope := ⟨by kernel_rfl, by kernel_rfl, by kernel_rfl, by decide +kernel, by kernel_rfl, by decide +kernel, by decide +kernel⟩
theorem k_is_machine : okSs gt ["value", "many", "row"] f_is_machine.body d_is_machine.scope.names d_is_machine.body = true := by kernel_rfl
theorem h_is_machine (X : K.In h) (Gn : h.Ns mainGlobals mg) (c : He.SaysD fa fn K) : Have K mg gt "is_machine" f_is_machine :=
  have_of (N := ["value", "many", "row"]) (ps := ["value"]) (d := d_is_machine) X Gn c (List.mem_of_getElem? (i := 4) rfl) (List.mem_of_getElem? (i := 4) rfl) rfl rfl rfl rfl n_is_machine rfl rfl k_is_machine fun _ _ _ _ _ _ us hl => match us, hl with | [_], _ => rfl
theorem n_need_machine : FnScope ["machine"] ["machine"] d_need_machine.scope := ⟨by kernel_rfl, by kernel_rfl, by kernel_rfl, by decide +kernel, by kernel_rfl, by decide +kernel, by decide +kernel⟩
theorem k_need_machine : okSs gt ["machine"] f_need_machine.body d_need_machine.scope.names d_need_machine.body = true := by kernel_rfl
theorem h_need_machine (X : K.In h) (Gn : h.Ns mainGlobals mg) (c : He.SaysD fa fn K) : Have K mg gt "need_machine" f_need_machine :=
  have_of (N := ["machine"]) (ps := ["machine"]) (d := d_need_machine) X Gn c (List.mem_of_getElem? (i := 5) rfl) (List.mem_of_getElem? (i := 5) rfl) rfl rfl rfl rfl n_need_machine rfl rfl k_need_machine fun _ _ _ _ _ _ us hl => match us, hl with | [_], _ => rfl
theorem n_is_word_of : FnScope ["letters", "value", "sign"] ["letters", "value"] d_is_word_of.scope := ⟨by kernel_rfl, by kernel_rfl, by kernel_rfl, by decide +kernel, by kernel_rfl, by decide +kernel, by decide +kernel⟩
theorem k_is_word_of : okSs gt ["letters", "value", "sign"] f_is_word_of.body d_is_word_of.scope.names d_is_word_of.body = true := by kernel_rfl
theorem h_is_word_of (X : K.In h) (Gn : h.Ns mainGlobals mg) (c : He.SaysD fa fn K) : Have K mg gt "is_word_of" f_is_word_of :=
  have_of (N := ["letters", "value", "sign"]) (ps := ["letters", "value"]) (d := d_is_word_of) X Gn c (List.mem_of_getElem? (i := 6) rfl) (List.mem_of_getElem? (i := 6) rfl) rfl rfl rfl rfl n_is_word_of rfl rfl k_is_word_of fun _ _ _ _ _ _ us hl => match us, hl with | [_, _], _ => rfl
theorem n_need_word : FnScope ["machine", "word"] ["machine", "word"] d_need_word.scope := ⟨by kernel_rfl, by kernel_rfl, by kernel_rfl, by decide +kernel, by kernel_rfl, by decide +kernel, by decide +kernel⟩
theorem k_need_word : okSs gt ["machine", "word"] f_need_word.body d_need_word.scope.names d_need_word.body = true := by kernel_rfl
theorem h_need_word (X : K.In h) (Gn : h.Ns mainGlobals mg) (c : He.SaysD fa fn K) : Have K mg gt "need_word" f_need_word :=
  have_of (N := ["machine", "word"]) (ps := ["machine", "word"]) (d := d_need_word) X Gn c (List.mem_of_getElem? (i := 7) rfl) (List.mem_of_getElem? (i := 7) rfl) rfl rfl rfl rfl n_need_word rfl rfl k_need_word fun _ _ _ _ _ _ us hl => match us, hl with | [_, _], _ => rfl
theorem n_lead : FnScope ["machine", "standing", "word", "sign"] ["machine", "standing", "word"] d_lead.scope := ⟨by kernel_rfl, by kernel_rfl, by kernel_rfl, by decide +kernel, by kernel_rfl, by decide +kernel, by decide +kernel⟩
theorem k_lead : okSs gt ["machine", "standing", "word", "sign"] f_lead.body d_lead.scope.names d_lead.body = true := by kernel_rfl
theorem h_lead (X : K.In h) (Gn : h.Ns mainGlobals mg) (c : He.SaysD fa fn K) : Have K mg gt "lead" f_lead :=
  have_of (N := ["machine", "standing", "word", "sign"]) (ps := ["machine", "standing", "word"]) (d := d_lead) X Gn c (List.mem_of_getElem? (i := 8) rfl) (List.mem_of_getElem? (i := 8) rfl) rfl rfl rfl rfl n_lead rfl rfl k_lead fun _ _ _ _ _ _ us hl => match us, hl with | [_, _, _], _ => rfl
theorem n_does_take : FnScope ["machine", "word"] ["machine", "word"] d_does_take.scope := ⟨by kernel_rfl, by kernel_rfl, by kernel_rfl, by decide +kernel, by kernel_rfl, by decide +kernel, by decide +kernel⟩
theorem k_does_take : okSs gt ["machine", "word"] f_does_take.body d_does_take.scope.names d_does_take.body = true := by kernel_rfl
theorem h_does_take (X : K.In h) (Gn : h.Ns mainGlobals mg) (c : He.SaysD fa fn K) : Have K mg gt "does_take" f_does_take :=
  have_of (N := ["machine", "word"]) (ps := ["machine", "word"]) (d := d_does_take) X Gn c (List.mem_of_getElem? (i := 9) rfl) (List.mem_of_getElem? (i := 9) rfl) rfl rfl rfl rfl n_does_take rfl rfl k_does_take fun _ _ _ _ _ _ us hl => match us, hl with | [_, _], _ => rfl
theorem n_takes : FnScope ["machine", "word"] ["machine", "word"] d_takes.scope := ⟨by kernel_rfl, by kernel_rfl, by kernel_rfl, by decide +kernel, by kernel_rfl, by decide +kernel, by decide +kernel⟩
theorem k_takes : okSs gt ["machine", "word"] f_takes.body d_takes.scope.names d_takes.body = true := by kernel_rfl
theorem h_takes (X : K.In h) (Gn : h.Ns mainGlobals mg) (c : He.SaysD fa fn K) : Have K mg gt "takes" f_takes :=
  have_of (N := ["machine", "word"]) (ps := ["machine", "word"]) (d := d_takes) X Gn c (List.mem_of_getElem? (i := 10) rfl) (List.mem_of_getElem? (i := 10) rfl) rfl rfl rfl rfl n_takes rfl rfl k_takes fun _ _ _ _ _ _ us hl => match us, hl with | [_, _], _ => rfl
theorem n_led : FnScope ["machine", "some", "number", "standing"] ["machine", "some", "number"] d_led.scope := ⟨by kernel_rfl, by kernel_rfl, by kernel_rfl, by decide +kernel, by kernel_rfl, by decide +kernel, by decide +kernel⟩
theorem k_led : okSs gt ["machine", "some", "number", "standing"] f_led.body d_led.scope.names d_led.body = true := by kernel_rfl
theorem h_led (X : K.In h) (Gn : h.Ns mainGlobals mg) (c : He.SaysD fa fn K) : Have K mg gt "led" f_led :=
  have_of (N := ["machine", "some", "number", "standing"]) (ps := ["machine", "some", "number"]) (d := d_led) X Gn c (List.mem_of_getElem? (i := 11) rfl) (List.mem_of_getElem? (i := 11) rfl) rfl rfl rfl rfl n_led rfl rfl k_led fun _ _ _ _ _ _ us hl => match us, hl with | [_, _, _], _ => rfl
theorem n_are_ends : FnScope ["machine", "some", "standing"] ["machine", "some"] d_are_ends.scope := ⟨by kernel_rfl, by kernel_rfl, by kernel_rfl, by decide +kernel, by kernel_rfl, by decide +kernel, by decide +kernel⟩
theorem k_are_ends : okSs gt ["machine", "some", "standing"] f_are_ends.body d_are_ends.scope.names d_are_ends.body = true := by kernel_rfl
theorem h_are_ends (X : K.In h) (Gn : h.Ns mainGlobals mg) (c : He.SaysD fa fn K) : Have K mg gt "are_ends" f_are_ends :=
  have_of (N := ["machine", "some", "standing"]) (ps := ["machine", "some"]) (d := d_are_ends) X Gn c (List.mem_of_getElem? (i := 12) rfl) (List.mem_of_getElem? (i := 12) rfl) rfl rfl rfl rfl n_are_ends rfl rfl k_are_ends fun _ _ _ _ _ _ us hl => match us, hl with | [_, _], _ => rfl
theorem n_need_small : FnScope ["machine"] ["machine"] d_need_small.scope := ⟨by kernel_rfl, by kernel_rfl, by kernel_rfl, by decide +kernel, by kernel_rfl, by decide +kernel, by decide +kernel⟩
theorem k_need_small : okSs gt ["machine"] f_need_small.body d_need_small.scope.names d_need_small.body = true := by kernel_rfl
theorem h_need_small (X : K.In h) (Gn : h.Ns mainGlobals mg) (c : He.SaysD fa fn K) : Have K mg gt "need_small" f_need_small :=
  have_of (N := ["machine"]) (ps := ["machine"]) (d := d_need_small) X Gn c (List.mem_of_getElem? (i := 13) rfl) (List.mem_of_getElem? (i := 13) rfl) rfl rfl rfl rfl n_need_small rfl rfl k_need_small fun _ _ _ _ _ _ us hl => match us, hl with | [_], _ => rfl
theorem n_is_cut_of : FnScope ["machine", "value"] ["machine", "value"] d_is_cut_of.scope := ⟨by kernel_rfl, by kernel_rfl, by kernel_rfl, by decide +kernel, by kernel_rfl, by decide +kernel, by decide +kernel⟩
theorem k_is_cut_of : okSs gt ["machine", "value"] f_is_cut_of.body d_is_cut_of.scope.names d_is_cut_of.body = true := by kernel_rfl
theorem h_is_cut_of (X : K.In h) (Gn : h.Ns mainGlobals mg) (c : He.SaysD fa fn K) : Have K mg gt "is_cut_of" f_is_cut_of :=
  have_of (N := ["machine", "value"]) (ps := ["machine", "value"]) (d := d_is_cut_of) X Gn c (List.mem_of_getElem? (i := 14) rfl) (List.mem_of_getElem? (i := 14) rfl) rfl rfl rfl rfl n_is_cut_of rfl rfl k_is_cut_of fun _ _ _ _ _ _ us hl => match us, hl with | [_, _], _ => rfl
theorem n_need_cut_of : FnScope ["machine", "cut"] ["machine", "cut"] d_need_cut_of.scope := ⟨by kernel_rfl, by kernel_rfl, by kernel_rfl, by decide +kernel, by kernel_rfl, by decide +kernel, by decide +kernel⟩
theorem k_need_cut_of : okSs gt ["machine", "cut"] f_need_cut_of.body d_need_cut_of.scope.names d_need_cut_of.body = true := by kernel_rfl
theorem h_need_cut_of (X : K.In h) (Gn : h.Ns mainGlobals mg) (c : He.SaysD fa fn K) : Have K mg gt "need_cut_of" f_need_cut_of :=
  have_of (N := ["machine", "cut"]) (ps := ["machine", "cut"]) (d := d_need_cut_of) X Gn c (List.mem_of_getElem? (i := 15) rfl) (List.mem_of_getElem? (i := 15) rfl) rfl rfl rfl rfl n_need_cut_of rfl rfl k_need_cut_of fun _ _ _ _ _ _ us hl => match us, hl with | [_, _], _ => rfl
theorem n_need_cut : FnScope ["machine", "cut"] ["machine", "cut"] d_need_cut.scope := ⟨by kernel_rfl, by kernel_rfl, by kernel_rfl, by decide +kernel, by kernel_rfl, by decide +kernel, by decide +kernel⟩
theorem k_need_cut : okSs gt ["machine", "cut"] f_need_cut.body d_need_cut.scope.names d_need_cut.body = true := by kernel_rfl
theorem h_need_cut (X : K.In h) (Gn : h.Ns mainGlobals mg) (c : He.SaysD fa fn K) : Have K mg gt "need_cut" f_need_cut :=
  have_of (N := ["machine", "cut"]) (ps := ["machine", "cut"]) (d := d_need_cut) X Gn c (List.mem_of_getElem? (i := 16) rfl) (List.mem_of_getElem? (i := 16) rfl) rfl rfl rfl rfl n_need_cut rfl rfl k_need_cut fun _ _ _ _ _ _ us hl => match us, hl with | [_, _], _ => rfl
theorem n_find_cuttings : FnScope ["machine", "cut", "word", "found", "place", "standing"] ["machine", "cut", "word"] d_find_cuttings.scope := ⟨by kernel_rfl, by kernel_rfl, by kernel_rfl, by decide +kernel, by kernel_rfl, by decide +kernel, by decide +kernel⟩
theorem k_find_cuttings : okSs gt ["machine", "cut", "word", "found", "place", "standing"] f_find_cuttings.body d_find_cuttings.scope.names d_find_cuttings.body = true := by kernel_rfl
theorem h_find_cuttings (X : K.In h) (Gn : h.Ns mainGlobals mg) (c : He.SaysD fa fn K) : Have K mg gt "find_cuttings" f_find_cuttings :=
  have_of (N := ["machine", "cut", "word", "found", "place", "standing"]) (ps := ["machine", "cut", "word"]) (d := d_find_cuttings) X Gn c (List.mem_of_getElem? (i := 17) rfl) (List.mem_of_getElem? (i := 17) rfl) rfl rfl rfl rfl n_find_cuttings rfl rfl k_find_cuttings fun _ _ _ _ _ _ us hl => match us, hl with | [_, _, _], _ => rfl
theorem n_leasts : FnScope ["some", "one", "other"] ["some"] d_leasts.scope := ⟨by kernel_rfl, by kernel_rfl, by kernel_rfl, by decide +kernel, by kernel_rfl, by decide +kernel, by decide +kernel⟩
theorem k_leasts : okSs gt ["some", "one", "other"] f_leasts.body d_leasts.scope.names d_leasts.body = true := by kernel_rfl
theorem h_leasts (X : K.In h) (Gn : h.Ns mainGlobals mg) (c : He.SaysD fa fn K) : Have K mg gt "leasts" f_leasts :=
  have_of (N := ["some", "one", "other"]) (ps := ["some"]) (d := d_leasts) X Gn c (List.mem_of_getElem? (i := 18) rfl) (List.mem_of_getElem? (i := 18) rfl) rfl rfl rfl rfl n_leasts rfl rfl k_leasts fun _ _ _ _ _ _ us hl => match us, hl with | [_], _ => rfl
theorem n_is_within : FnScope ["one", "other", "standing"] ["one", "other"] d_is_within.scope := ⟨by kernel_rfl, by kernel_rfl, by kernel_rfl, by decide +kernel, by kernel_rfl, by decide +kernel, by decide +kernel⟩
theorem k_is_within : okSs gt ["one", "other", "standing"] f_is_within.body d_is_within.scope.names d_is_within.body = true := by kernel_rfl
theorem h_is_within (X : K.In h) (Gn : h.Ns mainGlobals mg) (c : He.SaysD fa fn K) : Have K mg gt "is_within" f_is_within :=
  have_of (N := ["one", "other", "standing"]) (ps := ["one", "other"]) (d := d_is_within) X Gn c (List.mem_of_getElem? (i := 19) rfl) (List.mem_of_getElem? (i := 19) rfl) rfl rfl rfl rfl n_is_within rfl rfl k_is_within fun _ _ _ _ _ _ us hl => match us, hl with | [_, _], _ => rfl
theorem n_find_failing : FnScope ["machine", "cut", "begin", "met", "queue", "at", "word", "standing", "some", "one", "number", "to", "after", "found"] ["machine", "cut"] d_find_failing.scope := ⟨by kernel_rfl, by kernel_rfl, by kernel_rfl, by decide +kernel, by kernel_rfl, by decide +kernel, by decide +kernel⟩
theorem k_find_failing : okSs gt ["machine", "cut", "begin", "met", "queue", "at", "word", "standing", "some", "one", "number", "to", "after", "found"] f_find_failing.body d_find_failing.scope.names d_find_failing.body = true := by kernel_rfl
theorem h_find_failing (X : K.In h) (Gn : h.Ns mainGlobals mg) (c : He.SaysD fa fn K) : Have K mg gt "find_failing" f_find_failing :=
  have_of (N := ["machine", "cut", "begin", "met", "queue", "at", "word", "standing", "some", "one", "number", "to", "after", "found"]) (ps := ["machine", "cut"]) (d := d_find_failing) X Gn c (List.mem_of_getElem? (i := 20) rfl) (List.mem_of_getElem? (i := 20) rfl) rfl rfl rfl rfl n_find_failing rfl rfl k_find_failing fun _ _ _ _ _ _ us hl => match us, hl with | [_, _], _ => rfl
theorem n_cuttings : FnScope ["machine", "cut", "word"] ["machine", "cut", "word"] d_cuttings.scope := ⟨by kernel_rfl, by kernel_rfl, by kernel_rfl, by decide +kernel, by kernel_rfl, by decide +kernel, by decide +kernel⟩
theorem k_cuttings : okSs gt ["machine", "cut", "word"] f_cuttings.body d_cuttings.scope.names d_cuttings.body = true := by kernel_rfl
theorem h_cuttings (X : K.In h) (Gn : h.Ns mainGlobals mg) (c : He.SaysD fa fn K) : Have K mg gt "cuttings" f_cuttings :=
  have_of (N := ["machine", "cut", "word"]) (ps := ["machine", "cut", "word"]) (d := d_cuttings) X Gn c (List.mem_of_getElem? (i := 21) rfl) (List.mem_of_getElem? (i := 21) rfl) rfl rfl rfl rfl n_cuttings rfl rfl k_cuttings fun _ _ _ _ _ _ us hl => match us, hl with | [_, _, _], _ => rfl
theorem n_failing_word : FnScope ["machine", "cut"] ["machine", "cut"] d_failing_word.scope := ⟨by kernel_rfl, by kernel_rfl, by kernel_rfl, by decide +kernel, by kernel_rfl, by decide +kernel, by decide +kernel⟩
theorem k_failing_word : okSs gt ["machine", "cut"] f_failing_word.body d_failing_word.scope.names d_failing_word.body = true := by kernel_rfl
theorem h_failing_word (X : K.In h) (Gn : h.Ns mainGlobals mg) (c : He.SaysD fa fn K) : Have K mg gt "failing_word" f_failing_word :=
  have_of (N := ["machine", "cut"]) (ps := ["machine", "cut"]) (d := d_failing_word) X Gn c (List.mem_of_getElem? (i := 22) rfl) (List.mem_of_getElem? (i := 22) rfl) rfl rfl rfl rfl n_failing_word rfl rfl k_failing_word fun _ _ _ _ _ _ us hl => match us, hl with | [_, _], _ => rfl
theorem n_law_spread : FnScope ["cell", "at", "primes", "mixed", "one", "rest", "two", "three"] ["cell", "at"] d_law_spread.scope := ⟨by kernel_rfl, by kernel_rfl, by kernel_rfl, by decide +kernel, by kernel_rfl, by decide +kernel, by decide +kernel⟩
theorem k_law_spread : okSs gt ["cell", "at", "primes", "mixed", "one", "rest", "two", "three"] f_law_spread.body d_law_spread.scope.names d_law_spread.body = true := by kernel_rfl
theorem h_law_spread (X : K.In h) (Gn : h.Ns mainGlobals mg) (c : He.SaysD fa fn K) : Have K mg gt "_law_spread" f_law_spread :=
  have_of (N := ["cell", "at", "primes", "mixed", "one", "rest", "two", "three"]) (ps := ["cell", "at"]) (d := d_law_spread) X Gn c (List.mem_of_getElem? (i := 23) rfl) (List.mem_of_getElem? (i := 23) rfl) rfl rfl rfl rfl n_law_spread rfl rfl k_law_spread fun _ _ _ _ _ _ us hl => match us, hl with | [_, _], _ => rfl
theorem n_law_open : FnScope ["script", "cells", "k", "cell"] ["script"] d_law_open.scope := ⟨by kernel_rfl, by kernel_rfl, by kernel_rfl, by decide +kernel, by kernel_rfl, by decide +kernel, by decide +kernel⟩
theorem k_law_open : okSs gt ["script", "cells", "k", "cell"] f_law_open.body d_law_open.scope.names d_law_open.body = true := by kernel_rfl
theorem h_law_open (X : K.In h) (Gn : h.Ns mainGlobals mg) (c : He.SaysD fa fn K) : Have K mg gt "_law_open" f_law_open :=
  have_of (N := ["script", "cells", "k", "cell"]) (ps := ["script"]) (d := d_law_open) X Gn c (List.mem_of_getElem? (i := 24) rfl) (List.mem_of_getElem? (i := 24) rfl) rfl rfl rfl rfl n_law_open rfl rfl k_law_open fun _ _ _ _ _ _ us hl => match us, hl with | [_], _ => rfl
theorem n_law_take : FnScope ["pen", "many", "at", "cell", "found"] ["pen", "many"] d_law_take.scope := ⟨by kernel_rfl, by kernel_rfl, by kernel_rfl, by decide +kernel, by kernel_rfl, by decide +kernel, by decide +kernel⟩
theorem k_law_take : okSs gt ["pen", "many", "at", "cell", "found"] f_law_take.body d_law_take.scope.names d_law_take.body = true := by kernel_rfl
theorem h_law_take (X : K.In h) (Gn : h.Ns mainGlobals mg) (c : He.SaysD fa fn K) : Have K mg gt "_law_take" f_law_take :=
  have_of (N := ["pen", "many", "at", "cell", "found"]) (ps := ["pen", "many"]) (d := d_law_take) X Gn c (List.mem_of_getElem? (i := 25) rfl) (List.mem_of_getElem? (i := 25) rfl) rfl rfl rfl rfl n_law_take rfl rfl k_law_take fun _ _ _ _ _ _ us hl => match us, hl with | [_, _], _ => rfl
theorem n_law_anew : FnScope ["pen"] ["pen"] d_law_anew.scope := ⟨by kernel_rfl, by kernel_rfl, by kernel_rfl, by decide +kernel, by kernel_rfl, by decide +kernel, by decide +kernel⟩
theorem k_law_anew : okSs gt ["pen"] f_law_anew.body d_law_anew.scope.names d_law_anew.body = true := by kernel_rfl
theorem h_law_anew (X : K.In h) (Gn : h.Ns mainGlobals mg) (c : He.SaysD fa fn K) : Have K mg gt "_law_anew" f_law_anew :=
  have_of (N := ["pen"]) (ps := ["pen"]) (d := d_law_anew) X Gn c (List.mem_of_getElem? (i := 26) rfl) (List.mem_of_getElem? (i := 26) rfl) rfl rfl rfl rfl n_law_anew rfl rfl k_law_anew fun _ _ _ _ _ _ us hl => match us, hl with | [_], _ => rfl
theorem n_law_one : FnScope ["pen", "some"] ["pen", "some"] d_law_one.scope := ⟨by kernel_rfl, by kernel_rfl, by kernel_rfl, by decide +kernel, by kernel_rfl, by decide +kernel, by decide +kernel⟩
theorem k_law_one : okSs gt ["pen", "some"] f_law_one.body d_law_one.scope.names d_law_one.body = true := by kernel_rfl
theorem h_law_one (X : K.In h) (Gn : h.Ns mainGlobals mg) (c : He.SaysD fa fn K) : Have K mg gt "_law_one" f_law_one :=
  have_of (N := ["pen", "some"]) (ps := ["pen", "some"]) (d := d_law_one) X Gn c (List.mem_of_getElem? (i := 27) rfl) (List.mem_of_getElem? (i := 27) rfl) rfl rfl rfl rfl n_law_one rfl rfl k_law_one fun _ _ _ _ _ _ us hl => match us, hl with | [_, _], _ => rfl
theorem n_law_lead : FnScope ["machine", "standing", "word", "sign"] ["machine", "standing", "word"] d_law_lead.scope := ⟨by kernel_rfl, by kernel_rfl, by kernel_rfl, by decide +kernel, by kernel_rfl, by decide +kernel, by decide +kernel⟩
theorem k_law_lead : okSs gt ["machine", "standing", "word", "sign"] f_law_lead.body d_law_lead.scope.names d_law_lead.body = true := by kernel_rfl
theorem h_law_lead (X : K.In h) (Gn : h.Ns mainGlobals mg) (c : He.SaysD fa fn K) : Have K mg gt "_law_lead" f_law_lead :=
  have_of (N := ["machine", "standing", "word", "sign"]) (ps := ["machine", "standing", "word"]) (d := d_law_lead) X Gn c (List.mem_of_getElem? (i := 28) rfl) (List.mem_of_getElem? (i := 28) rfl) rfl rfl rfl rfl n_law_lead rfl rfl k_law_lead fun _ _ _ _ _ _ us hl => match us, hl with | [_, _, _], _ => rfl
theorem n_law_does_take : FnScope ["machine", "word"] ["machine", "word"] d_law_does_take.scope := ⟨by kernel_rfl, by kernel_rfl, by kernel_rfl, by decide +kernel, by kernel_rfl, by decide +kernel, by decide +kernel⟩
theorem k_law_does_take : okSs gt ["machine", "word"] f_law_does_take.body d_law_does_take.scope.names d_law_does_take.body = true := by kernel_rfl
theorem h_law_does_take (X : K.In h) (Gn : h.Ns mainGlobals mg) (c : He.SaysD fa fn K) : Have K mg gt "_law_does_take" f_law_does_take :=
  have_of (N := ["machine", "word"]) (ps := ["machine", "word"]) (d := d_law_does_take) X Gn c (List.mem_of_getElem? (i := 29) rfl) (List.mem_of_getElem? (i := 29) rfl) rfl rfl rfl rfl n_law_does_take rfl rfl k_law_does_take fun _ _ _ _ _ _ us hl => match us, hl with | [_, _], _ => rfl
theorem n_law_words : FnScope ["letters", "most", "found", "last", "length", "longer", "word", "sign"] ["letters", "most"] d_law_words.scope := ⟨by kernel_rfl, by kernel_rfl, by kernel_rfl, by decide +kernel, by kernel_rfl, by decide +kernel, by decide +kernel⟩
theorem k_law_words : okSs gt ["letters", "most", "found", "last", "length", "longer", "word", "sign"] f_law_words.body d_law_words.scope.names d_law_words.body = true := by kernel_rfl
theorem h_law_words (X : K.In h) (Gn : h.Ns mainGlobals mg) (c : He.SaysD fa fn K) : Have K mg gt "_law_words" f_law_words :=
  have_of (N := ["letters", "most", "found", "last", "length", "longer", "word", "sign"]) (ps := ["letters", "most"]) (d := d_law_words) X Gn c (List.mem_of_getElem? (i := 30) rfl) (List.mem_of_getElem? (i := 30) rfl) rfl rfl rfl rfl n_law_words rfl rfl k_law_words fun _ _ _ _ _ _ us hl => match us, hl with | [_, _], _ => rfl
theorem n_law_drawn_machine : FnScope ["pen", "letters", "many", "sort", "moves", "standing", "row", "number", "to", "odds", "ends"] ["pen", "letters", "many"] d_law_drawn_machine.scope := ⟨by kernel_rfl, by kernel_rfl, by kernel_rfl, by decide +kernel, by kernel_rfl, by decide +kernel, by decide +kernel⟩
theorem k_law_drawn_machine : okSs gt ["pen", "letters", "many", "sort", "moves", "standing", "row", "number", "to", "odds", "ends"] f_law_drawn_machine.body d_law_drawn_machine.scope.names d_law_drawn_machine.body = true := by kernel_rfl
theorem h_law_drawn_machine (X : K.In h) (Gn : h.Ns mainGlobals mg) (c : He.SaysD fa fn K) : Have K mg gt "_law_drawn_machine" f_law_drawn_machine :=
  have_of (N := ["pen", "letters", "many", "sort", "moves", "standing", "row", "number", "to", "odds", "ends"]) (ps := ["pen", "letters", "many"]) (d := d_law_drawn_machine) X Gn c (List.mem_of_getElem? (i := 31) rfl) (List.mem_of_getElem? (i := 31) rfl) rfl rfl rfl rfl n_law_drawn_machine rfl rfl k_law_drawn_machine fun _ _ _ _ _ _ us hl => match us, hl with | [_, _, _], _ => rfl
theorem n_law_some_machine : FnScope ["pen", "most", "letters", "some", "good", "own"] ["pen", "most"] d_law_some_machine.scope := ⟨by kernel_rfl, by kernel_rfl, by kernel_rfl, by decide +kernel, by kernel_rfl, by decide +kernel, by decide +kernel⟩
theorem k_law_some_machine : okSs gt ["pen", "most", "letters", "some", "good", "own"] f_law_some_machine.body d_law_some_machine.scope.names d_law_some_machine.body = true := by kernel_rfl
theorem h_law_some_machine (X : K.In h) (Gn : h.Ns mainGlobals mg) (c : He.SaysD fa fn K) : Have K mg gt "_law_some_machine" f_law_some_machine :=
  have_of (N := ["pen", "most", "letters", "some", "good", "own"]) (ps := ["pen", "most"]) (d := d_law_some_machine) X Gn c (List.mem_of_getElem? (i := 32) rfl) (List.mem_of_getElem? (i := 32) rfl) rfl rfl rfl rfl n_law_some_machine rfl rfl k_law_some_machine fun _ _ _ _ _ _ us hl => match us, hl with | [_, _], _ => rfl
theorem n_law_all_cuts : FnScope ["machine", "found", "standing", "own"] ["machine"] d_law_all_cuts.scope := ⟨by kernel_rfl, by kernel_rfl, by kernel_rfl, by decide +kernel, by kernel_rfl, by decide +kernel, by decide +kernel⟩
theorem k_law_all_cuts : okSs gt ["machine", "found", "standing", "own"] f_law_all_cuts.body d_law_all_cuts.scope.names d_law_all_cuts.body = true := by kernel_rfl
theorem h_law_all_cuts (X : K.In h) (Gn : h.Ns mainGlobals mg) (c : He.SaysD fa fn K) : Have K mg gt "_law_all_cuts" f_law_all_cuts :=
  have_of (N := ["machine", "found", "standing", "own"]) (ps := ["machine"]) (d := d_law_all_cuts) X Gn c (List.mem_of_getElem? (i := 33) rfl) (List.mem_of_getElem? (i := 33) rfl) rfl rfl rfl rfl n_law_all_cuts rfl rfl k_law_all_cuts fun _ _ _ _ _ _ us hl => match us, hl with | [_], _ => rfl
theorem n_law_image : FnScope ["machine", "some", "number", "standing"] ["machine", "some", "number"] d_law_image.scope := ⟨by kernel_rfl, by kernel_rfl, by kernel_rfl, by decide +kernel, by kernel_rfl, by decide +kernel, by decide +kernel⟩
theorem k_law_image : okSs gt ["machine", "some", "number", "standing"] f_law_image.body d_law_image.scope.names d_law_image.body = true := by kernel_rfl
theorem h_law_image (X : K.In h) (Gn : h.Ns mainGlobals mg) (c : He.SaysD fa fn K) : Have K mg gt "_law_image" f_law_image :=
  have_of (N := ["machine", "some", "number", "standing"]) (ps := ["machine", "some", "number"]) (d := d_law_image) X Gn c (List.mem_of_getElem? (i := 34) rfl) (List.mem_of_getElem? (i := 34) rfl) rfl rfl rfl rfl n_law_image rfl rfl k_law_image fun _ _ _ _ _ _ us hl => match us, hl with | [_, _, _], _ => rfl
theorem n_law_are_ends : FnScope ["machine", "some", "standing"] ["machine", "some"] d_law_are_ends.scope := ⟨by kernel_rfl, by kernel_rfl, by kernel_rfl, by decide +kernel, by kernel_rfl, by decide +kernel, by decide +kernel⟩
theorem k_law_are_ends : okSs gt ["machine", "some", "standing"] f_law_are_ends.body d_law_are_ends.scope.names d_law_are_ends.body = true := by kernel_rfl
theorem h_law_are_ends (X : K.In h) (Gn : h.Ns mainGlobals mg) (c : He.SaysD fa fn K) : Have K mg gt "_law_are_ends" f_law_are_ends :=
  have_of (N := ["machine", "some", "standing"]) (ps := ["machine", "some"]) (d := d_law_are_ends) X Gn c (List.mem_of_getElem? (i := 35) rfl) (List.mem_of_getElem? (i := 35) rfl) rfl rfl rfl rfl n_law_are_ends rfl rfl k_law_are_ends fun _ _ _ _ _ _ us hl => match us, hl with | [_, _], _ => rfl
theorem n_law_cuttings : FnScope ["machine", "cut", "word", "found", "place", "ends", "standing"] ["machine", "cut", "word"] d_law_cuttings.scope := ⟨by kernel_rfl, by kernel_rfl, by kernel_rfl, by decide +kernel, by kernel_rfl, by decide +kernel, by decide +kernel⟩
theorem k_law_cuttings : okSs gt ["machine", "cut", "word", "found", "place", "ends", "standing"] f_law_cuttings.body d_law_cuttings.scope.names d_law_cuttings.body = true := by kernel_rfl
theorem h_law_cuttings (X : K.In h) (Gn : h.Ns mainGlobals mg) (c : He.SaysD fa fn K) : Have K mg gt "_law_cuttings" f_law_cuttings :=
  have_of (N := ["machine", "cut", "word", "found", "place", "ends", "standing"]) (ps := ["machine", "cut", "word"]) (d := d_law_cuttings) X Gn c (List.mem_of_getElem? (i := 36) rfl) (List.mem_of_getElem? (i := 36) rfl) rfl rfl rfl rfl n_law_cuttings rfl rfl k_law_cuttings fun _ _ _ _ _ _ us hl => match us, hl with | [_, _, _], _ => rfl
theorem n_law_failing : FnScope ["machine", "cut", "begin", "met", "queue", "at", "standing", "some", "own", "number", "to", "after", "found"] ["machine", "cut"] d_law_failing.scope := ⟨by kernel_rfl, by kernel_rfl, by kernel_rfl, by decide +kernel, by kernel_rfl, by decide +kernel, by decide +kernel⟩
theorem k_law_failing : okSs gt ["machine", "cut", "begin", "met", "queue", "at", "standing", "some", "own", "number", "to", "after", "found"] f_law_failing.body d_law_failing.scope.names d_law_failing.body = true := by kernel_rfl
theorem h_law_failing (X : K.In h) (Gn : h.Ns mainGlobals mg) (c : He.SaysD fa fn K) : Have K mg gt "_law_failing" f_law_failing :=
  have_of (N := ["machine", "cut", "begin", "met", "queue", "at", "standing", "some", "own", "number", "to", "after", "found"]) (ps := ["machine", "cut"]) (d := d_law_failing) X Gn c (List.mem_of_getElem? (i := 37) rfl) (List.mem_of_getElem? (i := 37) rfl) rfl rfl rfl rfl n_law_failing rfl rfl k_law_failing fun _ _ _ _ _ _ us hl => match us, hl with | [_, _], _ => rfl
theorem n_law_least : FnScope ["some", "found", "one", "within", "other", "own"] ["some"] d_law_least.scope := ⟨by kernel_rfl, by kernel_rfl, by kernel_rfl, by decide +kernel, by kernel_rfl, by decide +kernel, by decide +kernel⟩
theorem k_law_least : okSs gt ["some", "found", "one", "within", "other", "own"] f_law_least.body d_law_least.scope.names d_law_least.body = true := by kernel_rfl
theorem h_law_least (X : K.In h) (Gn : h.Ns mainGlobals mg) (c : He.SaysD fa fn K) : Have K mg gt "_law_least" f_law_least :=
  have_of (N := ["some", "found", "one", "within", "other", "own"]) (ps := ["some"]) (d := d_law_least) X Gn c (List.mem_of_getElem? (i := 38) rfl) (List.mem_of_getElem? (i := 38) rfl) rfl rfl rfl rfl n_law_least rfl rfl k_law_least fun _ _ _ _ _ _ us hl => match us, hl with | [_], _ => rfl
theorem n_law : FnScope ["script", "pen", "machine", "kept", "cuts", "cut", "step", "told", "due", "words", "word", "failing"] ["script"] d_law.scope := ⟨by kernel_rfl, by kernel_rfl, by kernel_rfl, by decide +kernel, by kernel_rfl, by decide +kernel, by decide +kernel⟩
theorem k_law : okSs gt ["script", "pen", "machine", "kept", "cuts", "cut", "step", "told", "due", "words", "word", "failing"] f_law.body d_law.scope.names d_law.body = true := by kernel_rfl
theorem h_law (X : K.In h) (Gn : h.Ns mainGlobals mg) (c : He.SaysD fa fn K) : Have K mg gt "law" f_law :=
  have_of (N := ["script", "pen", "machine", "kept", "cuts", "cut", "step", "told", "due", "words", "word", "failing"]) (ps := ["script"]) (d := d_law) X Gn c (List.mem_of_getElem? (i := 39) rfl) (List.mem_of_getElem? (i := 39) rfl) rfl rfl rfl rfl n_law rfl rfl k_law fun _ _ _ _ _ _ us hl => match us, hl with | [_], _ => rfl
theorem link (X : K.In h) (Gn : h.Ns mainGlobals mg) (c : He.SaysD fa fn K) : Link K mg gt prog where
  have_ := (have_cons (h_is_below X Gn c) (have_cons (h_is_rising X Gn c) (have_cons (h_is_letters X Gn c) (have_cons (h_is_row X Gn c) (have_cons (h_is_machine X Gn c) (have_cons (h_need_machine X Gn c) (have_cons (h_is_word_of X Gn c) (have_cons (h_need_word X Gn c) (have_cons (h_lead X Gn c) (have_cons (h_does_take X Gn c) (have_cons (h_takes X Gn c) (have_cons (h_led X Gn c) (have_cons (h_are_ends X Gn c) (have_cons (h_need_small X Gn c) (have_cons (h_is_cut_of X Gn c) (have_cons (h_need_cut_of X Gn c) (have_cons (h_need_cut X Gn c) (have_cons (h_find_cuttings X Gn c) (have_cons (h_leasts X Gn c) (have_cons (h_is_within X Gn c) (have_cons (h_find_failing X Gn c) (have_cons (h_cuttings X Gn c) (have_cons (h_failing_word X Gn c) (have_cons (h_law_spread X Gn c) (have_cons (h_law_open X Gn c) (have_cons (h_law_take X Gn c) (have_cons (h_law_anew X Gn c) (have_cons (h_law_one X Gn c) (have_cons (h_law_lead X Gn c) (have_cons (h_law_does_take X Gn c) (have_cons (h_law_words X Gn c) (have_cons (h_law_drawn_machine X Gn c) (have_cons (h_law_some_machine X Gn c) (have_cons (h_law_all_cuts X Gn c) (have_cons (h_law_image X Gn c) (have_cons (h_law_are_ends X Gn c) (have_cons (h_law_cuttings X Gn c) (have_cons (h_law_failing X Gn c) (have_cons (h_law_least X Gn c) (have_cons (h_law X Gn c) have_nil))))))))))))))))))))))))))))))))))))))))
  fns := fns_of prog
  con := (con_cons (con_str X Gn (c.fact 40 rfl)) (con_cons (con_int X Gn (c.fact 41 rfl)) (con_cons (con_int X Gn (c.fact 42 rfl)) con_nil)))
  fre := fun x hx => He.free_ok X Gn (c.facts (List.mem_append_right fa0 (List.mem_map_of_mem (f := He.Fa.free) hx)))
end
abbrev R : PySem.W.OpenRow := PySem.W.OpenLaw.row PySem.Challenge.rw_seamlots_k08_failing_words
abbrev hk : PySem.W.Hook := He.hookX 4 fa fn [] [] noList
def ob (s : PySem.W.SharedT) : He.AlX := He.obsX 4 fa fn [] [] noList (HandSHeadRun.getT s)
theorem ob_eq (s : PySem.W.SharedT) : ob s = hk.obs s.abs := He.obsX_eq (HandSHeadRun.getT_eq s)
def loose : List Str := (["SeamError", "NoMachine", "NoWord", "NoCut", "TooMany", "LETTERS", "MOST_STANDINGS", "is_below", "is_rising", "is_letters", "is_row", "is_machine", "need_machine", "is_word_of", "need_word", "lead", "does_take", "takes", "MOST_CUT", "led"] : List Str) ++ (["are_ends", "need_small", "is_cut_of", "need_cut_of", "need_cut", "find_cuttings", "leasts", "is_within", "find_failing", "cuttings", "failing_word", "_law_spread", "_law_open", "_law_take", "_law_anew", "_law_one", "_law_lead", "_law_does_take", "_law_words", "_law_drawn_machine"] : List Str) ++ (["_law_some_machine", "_law_all_cuts", "_law_image", "_law_are_ends", "_law_cuttings", "_law_failing", "_law_least"] : List Str)
theorem run (w : World) : HandSHeadRun.RunEq R (PySem.W.view R.prog [51]) hk ob 20000 loose w := by
  intro os
  kernel_rfl
theorem law_is : prog.lookup "law" = some f_law := by rfl
theorem holds_of {k : Nat} (hr : Room k callerA) (math : ∀ ns : List Int, ns.length ≤ 63 → callN prog k "law" [.ref 0] [.fz (ns.map D.int)] (fun v _ => v = .bl true) R0) : PySem.Challenge.rw_seamlots_k08_failing_words.Holds := by
  w_on; o_law
  refine HandSHeadRun.head_any (r := R) (q := PySem.W.view R.prog [51]) (H := hk) (ob := ob) (M := 20000) (loose := loose) (d := HandSHeadRun.topDef R.prog 51) (kwd := []) ob_eq (by kernel_rfl) (fun s => by kernel_rfl) run
    (by kernel_rfl) (by kernel_rfl) (by kernel_rfl) (by rfl) (by first | assumption | decide +kernel) (by decide +kernel) ⟨rfl, rfl, rfl, rfl, rfl, by decide +kernel⟩ ?hw ?hc
  case hw => w_witness2
  case hc => exact walk_G (l := PySem.Challenge.rw_seamlots_k08_failing_words) (n := 63) (k := k) (P := prog) (G := gt) rfl (by decide) (by kernel_rfl) hr (by kernel_rfl) (fun K h mg X Gn c => link X Gn c) law_is rfl math
end Lw

namespace Lw
open PySem SL
theorem prog_L : K8 prog := by constructor <;> (try constructor) <;> (try constructor) <;> (try constructor) <;> (try constructor) <;> (try constructor) <;> (try constructor) <;> rfl
theorem mathL (ns : List Int) (h : ns.length ≤ 63) : callN prog 7 "law" [.ref 0] [.fz (ns.map D.int)] (fun v _ => v = .bl true) R0' := lz_law (n := 0) prog_L rfl h
theorem law_all : PySem.Challenge.rw_seamlots_k08_failing_words.Holds := holds_of (k := 7) ⟨rfl, by decide, by decide⟩ mathL
end Lw
theorem PySem.Challenge.cw_seamlots_k08_failing_words_holds : PySem.Challenge.rw_seamlots_k08_failing_words.Holds :=
  Lw.law_all
