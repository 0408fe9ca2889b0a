import PyProof.Rows.All
import Wide.All
import OpenK.AllK
import Wide.FinOn
import HandS.ForMost
import HandS.ForExc
import KE.SortData
import HandS.Deep
import HandS.Style
import HandS.TupAny
import PyProof.P3In
import HandS.Flow
import HandS.More
import HandS.TupLen
import PyProof.ReprRoads
import HandS.Strs
import PyProof.Rows.StrSplitCount
import PyProof.StrLawsTight
import PyProof.StrLawsChain
import HandS.Conv
import PyProof.Rows.Chain
import HandS.Zip
import HandS.Small
import HandS.TryMany
import HandS.Defaults
import HandS.ExcInit
import HandS.WordsExc
import HandS.HeadHook2
import HandS.Ends
import HandS.HeadEnd
import HandS.HeadHook1
import HandS.Head0
import HandS.Head1
import HandS.Head2
import HandS.Codes
import PySem.Challenge.RW_farfacts_k50_order_of_facts_does_not_mat
set_option Elab.async false
set_option linter.all false
set_option maxRecDepth 100000
/-! The plain semantics: data, stores, a small language, its weakest preconditions. -/
namespace Fv
open PySem (Addr Str)

/-! ### data -/
inductive D where
  | non | bl (b : Bool) | int (i : Int) | str (s : List Nat) | tup (ds : List D) | ref (a : Addr) | rl (ds : List D) | rtx (s : List Nat) | ktu (ds : List D)
mutual
def D.beq : D → D → Bool
  | .non, .non => true
  | .bl a, .bl b => a == b
  | .int a, .int b => a == b
  | .str a, .str b => a == b
  | .tup a, .tup b => D.beqL a b
  | .ref a, .ref b => a == b
  | .rl a, .rl b => D.beqL a b
  | .rtx a, .rtx b => a == b
  | .ktu a, .ktu b => D.beqL a b
  | _, _ => false
def D.beqL : List D → List D → Bool
  | [], [] => true
  | a :: r, b :: q => D.beq a b && D.beqL r q
  | _, _ => false
end
mutual
theorem D.beq_iff : ∀ a b : D, D.beq a b = true ↔ a = b
  | .non, b => by cases b <;> simp [D.beq]
  | .bl x, b => by cases b <;> simp [D.beq]
  | .int x, b => by cases b <;> simp [D.beq]
  | .str x, b => by cases b <;> simp [D.beq]
  | .ref x, b => by cases b <;> simp [D.beq]
  | .rtx x, b => by cases b <;> simp [D.beq]
  | .tup x, b => by
    cases b with
    | tup y => simpa [D.beq] using D.beqL_iff x y
    | _ => simp [D.beq]
  | .rl x, b => by
    cases b with
    | rl y => simpa [D.beq] using D.beqL_iff x y
    | _ => simp [D.beq]
  | .ktu x, b => by
    cases b with
    | ktu y => simpa [D.beq] using D.beqL_iff x y
    | _ => simp [D.beq]
theorem D.beqL_iff : ∀ a b : List D, D.beqL a b = true ↔ a = b
  | [], b => by cases b <;> simp [D.beqL]
  | x :: r, b => by
    cases b with
    | nil => simp [D.beqL]
    | cons y q =>
      simp only [D.beqL, Bool.and_eq_true, List.cons.injEq]
      rw [D.beq_iff x y, D.beqL_iff r q]
end
instance : DecidableEq D := fun a b => if h : D.beq a b = true then isTrue ((D.beq_iff a b).mp h) else isFalse fun e => h ((D.beq_iff a b).mpr e)
instance : Inhabited D := ⟨.non⟩

mutual
def pureD : D → Bool
  | .ref _ => false
  | .rl _ => false
  | .rtx _ => false
  | .tup ds => pureL ds
  | .ktu ds => pureL ds
  | _ => true
def pureL : List D → Bool
  | [] => true
  | d :: r => pureD d && pureL r
end
mutual
def dep : D → Nat
  | .tup ds => depL ds + 1
  | .ktu ds => depL ds + 1
  | _ => 0
def depL : List D → Nat
  | [] => 0
  | d :: r => max (dep d) (depL r)
end
mutual
def toPD : D → PySem.PyData
  | .non => .none
  | .bl b => .bool b
  | .int i => .int i
  | .str s => .str ⟨s.toArray⟩
  | .tup ds => .tuple (toPDL ds)
  | .ref _ => .none
  | .rl _ => .none
  | .rtx _ => .none
  | .ktu ds => .tuple (toPDL ds)
def toPDL : List D → List PySem.PyData
  | [] => []
  | d :: r => toPD d :: toPDL r
end
/-- plain data of small depth: what == and repr take -/
def okD (d : D) : Bool := pureD d && decide (dep d ≤ 40)
def okL (ds : List D) : Bool := pureL ds && decide (depL ds ≤ 40)
/-- Python's == on plain data -/
def eqD (a b : D) : Bool := PySem.PyData.eqv (toPD a) (toPD b)
def eqL (a b : List D) : Bool := PySem.PyData.eqvAll (toPDL a) (toPDL b)
def okS (s : List Nat) : Bool := s.all fun c => decide (c < 1114112)
def isFlat : D → Bool
  | .int _ => true
  | .str _ => true
  | _ => false
def isSc : D → Bool
  | .non => true
  | .bl _ => true
  | .int _ => true
  | .str _ => true
  | _ => false
def isStrD : D → Bool
  | .str _ => true
  | _ => false
def isTupK : D → Bool
  | .tup ds => ds.all isFlat
  | _ => false
/-- what may be a key of a dict: of tuples (t), of ints and texts -/
def fitsK (t : Bool) (k : D) : Bool := if t then isTupK k else isFlat k

/-! ### stores -/
inductive Cell where
  | lst (ds : List D)
  | dct (t : Bool) (kvs : List (D × D))
  | ins (C : Nat) (fs : List (Nat × D))
abbrev Store := Addr → Option Cell
def su (S : Store) (a : Addr) (c : Cell) : Store := fun b => if b = a then some c else S b
theorem su_same {S : Store} {a : Addr} {c : Cell} : su S a c a = some c := by simp [su]
theorem su_ne {S : Store} {a b : Addr} {c : Cell} (h : b ≠ a) : su S a c b = S b := by simp [su, h]
/-- the cells of a list (of either kind) -/
def lstAt (S : Store) (a : Addr) : Option (List D) := match S a with
  | some (.lst ds) => some ds
  | _ => none
def chars (s : List Nat) : List D := s.map fun c => .str [c]
/-- the items of a list or a tuple -/
def seqOf (S : Store) : D → Option (List D)
  | .tup ds => some ds
  | .ktu ds => some ds
  | .ref a => lstAt S a
  | _ => none
def dget (kvs : List (D × D)) (k : D) : Option D := (kvs.find? fun p => decide (p.1 = k)).map (·.2)
def dput (kvs : List (D × D)) (k v : D) : List (D × D) :=
  if (kvs.any fun p => decide (p.1 = k)) = true then kvs.map (fun p => if p.1 = k then (p.1, v) else p) else kvs ++ [(k, v)]
def ddel (kvs : List (D × D)) (k : D) : List (D × D) := kvs.filter fun p => decide (p.1 ≠ k)
def fget (fs : List (Nat × D)) (f : Nat) : Option D := fs.lookup f
def fput (f : Nat) (v : D) : List (Nat × D) → List (Nat × D)
  | [] => [(f, v)]
  | (g, x) :: r => if g = f then (g, v) :: r else (g, x) :: fput f v r
/-- an exception -/
structure Xn where
  cls : Nat
  fs : List (Nat × D)
abbrev Ev := List (Option D)

/-! ### the language -/
inductive Bop | add | sub | mul | fdiv | mod | band
  deriving DecidableEq
inductive Cop | eq | ne | lt | le | gt | ge | is | isn | in_ | nin
  deriving DecidableEq
inductive Tg where
  | var (i : Nat)
  | tup (l : List Nat)
mutual
inductive Ex where
  | var (i : Nat)
  | cst (d : D)
  | tup (es : Exs)
  | lst (es : Exs)
  | bin (o : Bop) (a b : Ex)
  | neg (a : Ex)
  | cmp (o : Cop) (a b : Ex)
  | chn (o p : Cop) (a b c : Ex)
  | ch3 (o p r : Cop) (a b c d : Ex)
  | nt (a : Ex)
  | an (a b : Ex)
  | or_ (a b : Ex)
  | ite (c a b : Ex)
  | idx (a i : Ex)
  | sli (a lo hi : Ex)
  | fld (a : Ex) (f : Nat)
  | cal (f : Nat) (es : Exs)
  | met (a : Ex) (m : Nat) (es : Exs)
  | mak (C : Nat) (es : Exs)
  | blt (b : Nat) (es : Exs)
  | bmt (b : Nat) (a : Ex) (es : Exs)
  | dic (t : Bool)
  | lcm (elt : Ex) (tg : Tg) (it : Itr) (cond : Ex) (own : List Nat)
  | lc2 (elt : Ex) (tg : Tg) (it : Itr) (tg1 : Tg) (it1 : Itr) (own : List Nat)
inductive Exs where
  | nil | cons (e : Ex) (es : Exs)
inductive Itr where
  | sq (e : Ex)
  | rg1 (e : Ex)
  | rg2 (a b : Ex)
  | zip (a b : Ex)
  | enm (a : Ex)
end
mutual
inductive Sm where
  | pass
  | expr (e : Ex)
  | asg (g : Tg) (e : Ex)
  | sset (o i e : Ex)
  | fset (o : Ex) (f : Nat) (e : Ex)
  | ret (e : Ex)
  | ite (c : Ex) (a b : Sms)
  | whl (c : Ex) (b : Sms)
  | for_ (g : Tg) (it : Itr) (b : Sms)
  | rse (C : Nat) (es : Exs)
  | try_ (b : Sms) (hs : Hds)
inductive Sms where
  | nil | cons (s : Sm) (r : Sms)
inductive Hds where
  | nil | cons (C : Nat) (b : Sms) (r : Hds)
end

/-! ### weakest preconditions -/
def isN : Ex → Bool
  | .cst .non => true
  | _ => false
/-- a slice's part -/
def prt (e : Ex) (d : D) : Bool := match d with
  | .int _ => !isN e
  | .non => isN e
  | _ => false
abbrev QD := D → Store → Prop
abbrev QX := Xn → Store → Prop
/-- what a program's text supplies -/
structure Pm where
  call : Nat → List D → Store → QD → QX → Prop
  mth : Nat → Nat → Option Nat
  ini : Nat → Option Nat
  sub : Nat → Nat → Bool
  fok : Nat → Nat → Bool
  xfs : Nat → List Nat
def LIM : Nat := 1048576
def sml (i : Int) : Prop := -(2 ^ 64) < i ∧ i < 2 ^ 64
instance {i : Int} : Decidable (sml i) := inferInstanceAs (Decidable (_ ∧ _))
/-- new object -/
def wpNew (c : Cell) (S : Store) (Q : QD) : Prop := ∀ p, S p = none → Q (.ref p) (su S p c)
def wpBin (o : Bop) (x y : D) (S : Store) (Q : QD) : Prop := match o, x, y with
  | .add, .int i, .int j => Q (.int (i + j)) S
  | .sub, .int i, .int j => Q (.int (i - j)) S
  | .mul, .int i, .int j => (sml i ∨ sml j) ∧ Q (.int (i * j)) S
  | .fdiv, .int i, .int j => (0 < j ∧ j < 1073741824) ∧ Q (.int (i / j)) S
  | .mod, .int i, .int j => 0 < j ∧ Q (.int (i % j)) S
  | .add, .str a, .str b => a.length + b.length ≤ LIM ∧ Q (.str (a ++ b)) S
  | .add, .tup a, .tup b => (a ≠ [] ∧ a.length + b.length ≤ LIM) ∧ Q (.tup (a ++ b)) S
  | .add, .ref a, .ref b => match S a, S b with
    | some (.lst xs), some (.lst ys) => xs.length + ys.length ≤ LIM ∧ wpNew (.lst (xs ++ ys)) S Q
    | _, _ => False
  | .mul, .ref a, .int n => match S a with
    | some (.lst xs) => (n < 2 ^ 63 ∧ -(2 ^ 63) ≤ n ∧ xs.length * n.toNat ≤ LIM) ∧ wpNew (.lst (List.replicate n.toNat xs).flatten) S Q
    | _ => False
  | _, _, _ => False
/-- two values compared by == -/
def wpEq (x y : D) (S : Store) (Q : Bool → Prop) : Prop := match x, y with
  | .rtx a, .rtx b => Q (decide (a = b))
  | .ref a, .ref b => match lstAt S a, lstAt S b with
    | some xs, some ys => (okL xs = true ∧ okL ys = true) ∧ Q (eqL xs ys)
    | _, _ => False
  | .ref a, y => match lstAt S a with
    | some xs => (okL xs = true ∧ okD y = true) ∧ Q false
    | none => False
  | x, .ref b => match lstAt S b with
    | some ys => (okD x = true ∧ okL ys = true) ∧ Q false
    | none => False
  | x, y => (okD x = true ∧ okD y = true) ∧ Q (eqD x y)
/-- x in y -/
def wpIn (x y : D) (S : Store) (Q : Bool → Prop) : Prop := match y with
  | .str t => match x with
    | .str [c] => Q (decide (c ∈ t))
    | _ => False
  | .tup ds => (okD x = true ∧ okL ds = true) ∧ Q (ds.any fun z => eqD z x)
  | .ktu ds => (okD x = true ∧ okL ds = true) ∧ Q (ds.any fun z => eqD z x)
  | .ref b => match S b with
    | some (.lst ys) => (okD x = true ∧ okL ys = true) ∧ Q (ys.any fun z => eqD z x)
    | some (.dct t kvs) => fitsK t x = true ∧ Q (dget kvs x).isSome
    | _ => False
  | _ => False
def wpCmp (o : Cop) (x y : D) (S : Store) (Q : Bool → Prop) : Prop := match o with
  | .eq => wpEq x y S Q
  | .ne => wpEq x y S fun b => Q (!b)
  | .lt => match x, y with
    | .int i, .int j => Q (decide (i < j))
    | .str a, .str b => Q (decide (a < b))
    | .bl a, .bl b => Q (!a && b)
    | _, _ => False
  | .le => match x, y with
    | .int i, .int j => Q (decide (i ≤ j))
    | .str a, .str b => Q (decide (a ≤ b))
    | _, _ => False
  | .gt => match x, y with
    | .int i, .int j => Q (decide (j < i))
    | .str a, .str b => Q (decide (b < a))
    | _, _ => False
  | .ge => match x, y with
    | .int i, .int j => Q (decide (j ≤ i))
    | .str a, .str b => Q (decide (b ≤ a))
    | _, _ => False
  | .is => match y with
    | .non => Q (decide (x = .non))
    | .bl _ => isSc x = true ∧ Q (decide (x = y))
    | _ => False
  | .isn => match y with
    | .non => Q (!decide (x = .non))
    | .bl _ => isSc x = true ∧ Q (!decide (x = y))
    | _ => False
  | .in_ => wpIn x y S Q
  | .nin => wpIn x y S fun b => Q (!b)
/-- a value's truth -/
def wpTru (x : D) (S : Store) (Q : Bool → Prop) : Prop := match x with
  | .bl b => Q b
  | .int i => Q (decide (i ≠ 0))
  | .non => Q false
  | .str s => s.length ≤ LIM ∧ Q (decide (s ≠ []))
  | .tup ds => Q (decide (ds ≠ []))
  | .rl _ => False
  | .rtx _ => False
  | .ktu ds => Q (decide (ds ≠ []))
  | .ref a => match S a with
    | some (.lst ds) => Q (decide (ds ≠ []))
    | _ => False
def wpIdx (x i : D) (S : Store) (Q : QD) : Prop := match x, i with
  | .tup ds, .int i => match L2.atI ds i with
    | some d => Q d S
    | none => False
  | .ktu ds, .int i => match L2.atI ds i with
    | some d => Q d S
    | none => False
  | .rl ds, .int i => match L2.atI ds i with
    | some d => Q d S
    | none => False
  | .str s, .int i => match L2.atI s i with
    | some c => s.length ≤ LIM ∧ Q (.str [c]) S
    | none => False
  | .ref a, k => match S a with
    | some (.lst ds) => (match k with
      | .int i => (match L2.atI ds i with
        | some d => Q d S
        | none => False)
      | _ => False)
    | some (.dct t kvs) => fitsK t k = true ∧ (match dget kvs k with
      | some d => Q d S
      | none => False)
    | _ => False
  | _, _ => False
def cutL {α : Type} (xs : List α) (lo hi : Option Int) : List α := (xs.drop (HT.sIx xs.length 0 lo)).take (HT.sIx xs.length xs.length hi - HT.sIx xs.length 0 lo)
def partOf : D → Option (Option Int)
  | .non => some none
  | .int i => some (some i)
  | _ => none
def wpSli (x lo hi : D) (S : Store) (Q : QD) : Prop := match partOf lo, partOf hi with
  | some l, some h => (match x with
    | .tup ds => Q (.tup (cutL ds l h)) S
    | .str s => s.length ≤ LIM ∧ Q (.str (cutL s l h)) S
    | .ref a => (match S a with
      | some (.lst ds) => wpNew (.lst (cutL ds l h)) S Q
      | _ => False)
    | _ => False)
  | _, _ => False
def wpFld (x : D) (f : Nat) (S : Store) (Q : QD) : Prop := match x with
  | .ref a => (match S a with
    | some (.ins _ fs) => (match fget fs f with
      | some d => Q d S
      | none => False)
    | _ => False)
  | _ => False
def toTxt (i : Int) : List Nat := (toString i).toList.map Char.toNat
def boolsOf : List D → Option (List Bool)
  | [] => some []
  | .bl b :: r => (boolsOf r).map (b :: ·)
  | _ => none
def repD (d : D) : List Nat := (PySem.PyData.shown (toPD d)).cps.toList
/-- Python's order of plain data, as <= -/
def leD (a b : D) : Bool := PySem.W.dataLe false toPD a b
def sortD (ds : List D) : List D := ds.mergeSort leD
def neTup : D → Bool
  | .tup (_ :: _) => true
  | .ktu (_ :: _) => true
  | _ => false
def notTN : D → Bool
  | .tup _ => false
  | .ktu _ => false
  | .non => false
  | _ => true
/-- what sorted takes: data that can be compared -/
def srtOk (ds : List D) : Bool := okL ds && (ds.all fun x => ds.all fun y => PySem.W.alike (toPD x) (toPD y)) && (ds.all neTup || ds.all notTN)
/-- built-in functions: 0 len, 1 int, 2 repr, 3 min, 4 max, 5 list, 6 tuple, 7 all, 8 ord, 9 sorted -/
def wpBlt (b : Nat) (vs : List D) (S : Store) (Q : QD) : Prop := match b, vs with
  | 0, [x] => (match x with
    | .str s => s.length ≤ LIM ∧ Q (.int s.length) S
    | .tup ds => Q (.int ds.length) S
    | .rl ds => Q (.int ds.length) S
    | .ktu ds => Q (.int ds.length) S
    | .ref a => (match S a with
      | some (.lst ds) => Q (.int ds.length) S
      | some (.dct _ kvs) => Q (.int kvs.length) S
      | _ => False)
    | _ => False)
  | 1, [x] => (match x with
    | .int i => Q (.int i) S
    | .bl b => Q (.int (if b then 1 else 0)) S
    | _ => False)
  | 2, [x] => (match x with
    | .tup ds => (okD x = true ∧ PySem.PyData.showable (toPD x) = true ∧ (repD x).length ≤ LIM) ∧ Q (.rtx (repD x)) S
    | .ref a => (match S a with
      | some (.lst ds) => (okL ds = true ∧ PySem.PyData.showable (.list (toPDL ds)) = true ∧ (PySem.PyData.shown (.list (toPDL ds))).length ≤ LIM) ∧ Q (.rtx (PySem.PyData.shown (.list (toPDL ds))).cps.toList) S
      | _ => False)
    | _ => False)
  | 3, [.int i, .int j] => Q (.int (if j < i then j else i)) S
  | 4, [.int i, .int j] => Q (.int (if i < j then j else i)) S
  | 5, [x] => (match x with
    | .tup ds => wpNew (.lst ds) S Q
    | .ref a => (match S a with
      | some (.lst ds) => wpNew (.lst ds) S Q
      | _ => False)
    | _ => False)
  | 6, [x] => (match x with
    | .tup ds => Q (.tup ds) S
    | .ref a => (match S a with
      | some (.lst ds) => Q (.tup ds) S
      | _ => False)
    | _ => False)
  | 7, [.ref a] => (match S a with
    | some (.lst ds) => (match boolsOf ds with
      | some bs => Q (.bl (bs.all id)) S
      | none => False)
    | _ => False)
  | 8, [.str [c]] => Q (.int c) S
  | 9, [.ref a] => (match S a with
    | some (.lst ds) => (srtOk ds = true ∧ ds.length ≤ LIM) ∧ wpNew (.lst (sortD ds)) S Q
    | some (.dct true kvs) => srtOk (kvs.map (·.1)) = true ∧ wpNew (.lst (sortD (kvs.map (·.1)))) S Q
    | some (.dct false kvs) => srtOk (kvs.map (·.1)) = true ∧ wpNew (.lst (sortD (kvs.map (·.1)))) S Q
    | _ => False)
  | _, _ => False

def splitC (c : Nat) : List Nat → List (List Nat)
  | [] => [[]]
  | x :: r => if x = c then [] :: splitC c r else match splitC c r with
    | p :: ps => (x :: p) :: ps
    | [] => [[x]]
/-- built-in methods: 0 append, 1 insert, 2 pop, 3 get, 4 split, 5 index, 6 setdefault -/
def wpBmt (b : Nat) (x : D) (vs : List D) (S : Store) (Q : QD) : Prop := match b, x, vs with
  | 0, .ref a, [y] => (match S a with
    | some (.lst ds) => ds.length < LIM ∧ Q .non (su S a (.lst (ds ++ [y])))
    | _ => False)
  | 1, .ref a, [.int i, y] => (match S a with
    | some (.lst ds) => (0 ≤ i ∧ i ≤ ds.length ∧ ds.length < LIM) ∧ Q .non (su S a (.lst (ds.take i.toNat ++ y :: ds.drop i.toNat)))
    | _ => False)
  | 2, .ref a, [] => (match S a with
    | some (.lst ds) => (match ds.getLast? with
      | some d => Q d (su S a (.lst ds.dropLast))
      | none => False)
    | _ => False)
  | 2, .ref a, [.int i] => (match S a with
    | some (.lst ds) => 0 ≤ i ∧ (match ds[i.toNat]? with
      | some d => Q d (su S a (.lst (ds.eraseIdx i.toNat)))
      | none => False)
    | _ => False)
  | 3, .ref a, [k] => (match S a with
    | some (.dct t kvs) => fitsK t k = true ∧ Q ((dget kvs k).getD .non) S
    | _ => False)
  | 3, .ref a, [k, y] => (match S a with
    | some (.dct t kvs) => fitsK t k = true ∧ Q ((dget kvs k).getD y) S
    | _ => False)
  | 5, .ktu ds, [.str s] => (match ds.findIdx? (fun d => decide (d = .str s)) with
    | some j => ds.all isStrD = true ∧ Q (.int j) S
    | none => False)
  | 4, .str s, [.str [c]] => (s.length + 2 ≤ LIM ∧ c < 256) ∧ wpNew (.lst ((splitC c s).map .str)) S Q
  | 5, .ref a, [.str s] => (match S a with
    | some (.lst ds) => (match ds.findIdx? (fun d => decide (d = .str s)) with
      | some j => ds.all isFlat = true ∧ Q (.int j) S
      | none => False)
    | _ => False)
  | _, _, _ => False
/-- which kind of object: 0 a text, 1 a tuple, 2 a list, 3 a dict -/
def kindAt (S : Store) : D → Nat
  | .str _ => 0
  | .ktu _ => 1
  | .ref a => match S a with
    | some (.lst _) => 2
    | some (.dct _ _) => 3
    | _ => 9
  | _ => 9
def mOk (b k : Nat) : Bool := [(0, 2), (1, 2), (2, 2), (3, 3), (4, 0), (5, 2), (5, 1)].contains (b, k)
def setAll : List Nat → List D → Ev → Ev
  | i :: l, d :: ds, σ => setAll l ds (σ.set i (some d))
  | _, _, σ => σ
def asgT (g : Tg) (d : D) (σ : Ev) (N : Ev → Prop) : Prop := match g with
  | .var i => N (σ.set i (some d))
  | .tup l => match d with
    | .tup ds => ds.length = l.length ∧ N (setAll l ds σ)
    | .ktu ds => ds.length = l.length ∧ N (setAll l ds σ)
    | _ => False
def wipeE (σ : Ev) : List Nat → Ev
  | [] => σ
  | v :: vs => (wipeE σ vs).set v none
def tgL : Tg → List Nat
  | .var i => [i]
  | .tup l => l
/-- an item goes into the list at p -/
def pushW (p : Addr) (d : D) (S : Store) (N : Store → Prop) : Prop := match S p with
  | some (.lst acc) => acc.length < LIM ∧ N (su S p (.lst (acc ++ [d])))
  | _ => False
/-- a loop over rows that stand still -/
def forW (st : Store → Prop) (step : D → Ev → Store → (Ev → Store → Prop) → (Ev → Store → Prop) → Prop) : List D → Ev → Store → (Ev → Store → Prop) → Prop
  | [], σ, S, N => st S ∧ N σ S
  | d :: r, σ, S, N => st S ∧ step d σ S (fun σ' S' => forW st step r σ' S' N) N
def lcW (st : Store → Prop) (step : D → Store → (Store → Prop) → Prop) : List D → Store → (Store → Prop) → Prop
  | [], S, N => st S ∧ N S
  | d :: r, S, N => st S ∧ step d S (fun S' => lcW st step r S' N)
def whlW (test : Ev → Store → (Bool → Store → Prop) → Prop) (body : Ev → Store → (Ev → Store → Prop) → (Ev → Store → Prop) → Prop) : Nat → Ev → Store → (Ev → Store → Prop) → Prop
  | 0, _, _, _ => False
  | n + 1, σ, S, N => test σ S fun b S1 => if b = true then body σ S1 (fun σ' S' => whlW test body n σ' S' N) N else N σ S1
abbrev RI := List D → (Store → Prop) → Store → Prop
def rngL (i j : Int) : List D := (List.range (j - i).toNat).map fun (k : Nat) => .int (i + (k : Int))
def r62 (i : Int) : Prop := -(2 ^ 62) ≤ i ∧ i < 2 ^ 62
def zipL : List D → List D → List D
  | a :: r, b :: q => .tup [a, b] :: zipL r q
  | _, _ => []
def enmL (n : Nat) : List D → List D
  | a :: r => .tup [.int n, a] :: enmL (n + 1) r
  | [] => []
/-- a list's or a tuple's items, and that they stand -/
def srcOf (S : Store) (x : D) (R : List D → (Store → Prop) → Prop) : Prop := match x with
  | .tup ds => R ds fun _ => True
  | .ktu ds => R ds fun _ => True
  | .ref a => (match S a with
    | some (.lst ds) => R ds fun S' => S' a = some (.lst ds)
    | _ => False)
  | _ => False
def isRf : D → Bool
  | .ref _ => true
  | _ => false
def noX : QX := fun _ _ => False
/-- an error's arguments: as many as its __init__ takes -/
def xarg (l : List Nat) (n : Nat) : Bool := (l.isEmpty || n == l.length) && decide (n ≤ 900)
/-- what is wanted behind a statement -/
structure Ks where
  nx : Ev → Store → Prop
  rt : QD
  bk : Ev → Store → Prop
  ct : Ev → Store → Prop
  ex : Xn → Ev → Store → Prop
section
variable (P : Pm)
mutual
def wpE : Ex → Ev → Store → QD → QX → Prop
  | .var i, σ, S, Q, _ => (match σ[i]? with
    | some (some d) => Q d S
    | _ => False)
  | .cst d, _, S, Q, _ => Q d S
  | .tup es, σ, S, Q, E => wpEs es σ S (fun vs S1 => vs.length ≤ LIM ∧ Q (.tup vs) S1) E
  | .lst es, σ, S, Q, E => wpEs es σ S (fun vs S1 => vs.length ≤ LIM ∧ wpNew (.lst vs) S1 Q) E
  | .bin o a b, σ, S, Q, E => wpE a σ S (fun x S1 => wpE b σ S1 (fun y S2 => wpBin o x y S2 Q) E) E
  | .neg a, σ, S, Q, E => wpE a σ S (fun x S1 => match x with
    | .int i => Q (.int (-i)) S1
    | _ => False) E
  | .cmp o a b, σ, S, Q, E => wpE a σ S (fun x S1 => wpE b σ S1 (fun y S2 => wpCmp o x y S2 fun k => Q (.bl k) S2) E) E
  | .chn o p a b c, σ, S, Q, E => wpE a σ S (fun x S1 => wpE b σ S1 (fun y S2 => wpCmp o x y S2 fun k => if k = true then wpE c σ S2 (fun z S3 => wpCmp p y z S3 fun j => Q (.bl j) S3) E else Q (.bl false) S2) E) E
  | .ch3 _ _ _ _ _ _ _, _, _, _, _ => False
  | .nt a, σ, S, Q, E => wpE a σ S (fun x S1 => match x with
    | .bl b => Q (.bl (!b)) S1
    | _ => False) E
  | .an a b, σ, S, Q, E => wpE a σ S (fun x S1 => match x with
    | .bl k => if k = true then wpE b σ S1 Q E else Q (.bl false) S1
    | _ => False) E
  | .or_ a b, σ, S, Q, E => wpE a σ S (fun x S1 => match x with
    | .bl k => if k = true then Q (.bl true) S1 else wpE b σ S1 Q E
    | _ => False) E
  | .ite c a b, σ, S, Q, E => wpT c σ S (fun k S1 => if k = true then wpE a σ S1 Q E else wpE b σ S1 Q E) E
  | .idx a i, σ, S, Q, E => wpE a σ S (fun x S1 => wpE i σ S1 (fun k S2 => wpIdx x k S2 Q) E) E
  | .sli a lo hi, σ, S, Q, E => wpE a σ S (fun x S1 => wpE lo σ S1 (fun l S2 => prt lo l = true ∧ wpE hi σ S2 (fun h S3 => prt hi h = true ∧ wpSli x l h S3 Q) E) E) E
  | .fld a f, σ, S, Q, E => wpE a σ S (fun x S1 => wpFld x f S1 Q) E
  | .cal f es, σ, S, Q, E => wpEs es σ S (fun vs S1 => P.call f vs S1 Q E) E
  | .met a m es, σ, S, Q, E => wpE a σ S (fun x S1 => match x with
    | .ref p => (match S1 p with
      | some (.ins C _) => (match P.mth C m with
        | some f => wpEs es σ S1 (fun vs S2 => P.call f (x :: vs) S2 Q E) E
        | none => False)
      | _ => False)
    | _ => False) E
  | .mak C es, σ, S, Q, E => (match P.ini C with
    | some f => wpEs es σ S (fun vs S1 => ∀ p, S1 p = none → P.call f (.ref p :: vs) (su S1 p (.ins C [])) (fun v S2 => v = .non ∧ Q (.ref p) S2) E) E
    | none => False)
  | .blt b es, σ, S, Q, E => wpEs es σ S (fun vs S1 => wpBlt b vs S1 Q) E
  | .bmt b a es, σ, S, Q, E => wpE a σ S (fun x S1 => mOk b (kindAt S1 x) = true ∧ wpEs es σ S1 (fun vs S2 => kindAt S2 x = kindAt S1 x ∧ wpBmt b x vs S2 Q) E) E
  | .dic t, _, S, Q, _ => wpNew (.dct t []) S Q
  | .lcm elt tg it cond own, σ, S, Q, E => wpI it σ S (fun ds st S1 => ∀ p, S1 p = none → lcW st (fun d S N => asgT tg d (wipeE σ own) fun σ1 =>
      wpT cond σ1 S (fun b S2 => if b = true then wpE elt σ1 S2 (fun y S3 => pushW p y S3 N) noX else N S2) noX) ds (su S1 p (.lst [])) (fun S' => Q (.ref p) S')) E
  | .lc2 elt tg it tg1 it1 own, σ, S, Q, E => wpI it σ S (fun ds st S1 => ∀ p, S1 p = none → lcW st (fun d S N => asgT tg d (wipeE σ own) fun σ1 =>
      wpI it1 σ1 S (fun ds1 st1 S2 => lcW st1 (fun d1 S N1 => asgT tg1 d1 (wipeE σ1 (tgL tg1)) fun σ2 => wpE elt σ2 S (fun y S3 => pushW p y S3 N1) noX) ds1 S2 N) noX) ds (su S1 p (.lst [])) (fun S' => Q (.ref p) S')) E
def wpEs : Exs → Ev → Store → (List D → Store → Prop) → QX → Prop
  | .nil, _, S, Q, _ => Q [] S
  | .cons e es, σ, S, Q, E => wpE e σ S (fun x S1 => wpEs es σ S1 (fun vs S2 => Q (x :: vs) S2) E) E
/-- an expression as a test -/
def wpT : Ex → Ev → Store → (Bool → Store → Prop) → QX → Prop
  | .nt a, σ, S, Q, E => wpT a σ S (fun b S1 => Q (!b) S1) E
  | .an a b, σ, S, Q, E => wpT a σ S (fun k S1 => if k = true then wpT b σ S1 Q E else Q false S1) E
  | .or_ a b, σ, S, Q, E => wpT a σ S (fun k S1 => if k = true then Q true S1 else wpT b σ S1 Q E) E
  | .cmp o a b, σ, S, Q, E => wpE a σ S (fun x S1 => wpE b σ S1 (fun y S2 => wpCmp o x y S2 fun k => Q k S2) E) E
  | .chn o p a b c, σ, S, Q, E => wpE a σ S (fun x S1 => wpE b σ S1 (fun y S2 => wpCmp o x y S2 fun k => if k = true then wpE c σ S2 (fun z S3 => wpCmp p y z S3 fun j => Q j S3) E else Q false S2) E) E
  | .ch3 o p r a b c d, σ, S, Q, E => wpE a σ S (fun x S1 => wpE b σ S1 (fun y S2 => wpCmp o x y S2 fun k => if k = true then wpE c σ S2 (fun z S3 => wpCmp p y z S3 fun j => if j = true then wpE d σ S3 (fun u S4 => wpCmp r z u S4 fun i => Q i S4) E else Q false S3) E else Q false S2) E) E
  | .ite _ _ _, _, _, _, _ => False
  | .var i, σ, S, Q, _ => (match σ[i]? with
    | some (some d) => wpTru d S fun b => Q b S
    | _ => False)
  | .cst d, _, S, Q, _ => wpTru d S fun b => Q b S
  | .fld a f, σ, S, Q, E => wpE a σ S (fun x S1 => wpFld x f S1 fun d S2 => wpTru d S2 fun b => Q b S2) E
  | .idx a i, σ, S, Q, E => wpE a σ S (fun x S1 => wpE i σ S1 (fun k S2 => wpIdx x k S2 fun d S3 => wpTru d S3 fun b => Q b S3) E) E
  | .cal f es, σ, S, Q, E => wpEs es σ S (fun vs S1 => P.call f vs S1 (fun d S2 => wpTru d S2 fun b => Q b S2) E) E
  | .met a m es, σ, S, Q, E => wpE a σ S (fun x S1 => match x with
    | .ref p => (match S1 p with
      | some (.ins C _) => (match P.mth C m with
        | some f => wpEs es σ S1 (fun vs S2 => P.call f (x :: vs) S2 (fun d S3 => wpTru d S3 fun b => Q b S3) E) E
        | none => False)
      | _ => False)
    | _ => False) E
  | .blt b es, σ, S, Q, E => wpEs es σ S (fun vs S1 => wpBlt b vs S1 fun d S2 => wpTru d S2 fun b => Q b S2) E
  | _, _, _, _, _ => False
def wpI : Itr → Ev → Store → RI → QX → Prop
  | .sq e, σ, S, R, E => wpE e σ S (fun x S1 => match x with
    | .str s => R (chars s) (fun _ => True) S1
    | x => srcOf S1 x fun ds st => R ds st S1) E
  | .rg1 e, σ, S, R, E => wpE e σ S (fun x S1 => match x with
    | .int n => r62 n ∧ R (rngL 0 n) (fun _ => True) S1
    | _ => False) E
  | .rg2 a b, σ, S, R, E => wpE a σ S (fun x S1 => wpE b σ S1 (fun y S2 => match x, y with
    | .int i, .int j => (r62 i ∧ r62 j) ∧ R (rngL i j) (fun _ => True) S2
    | _, _ => False) E) E
  | .zip a b, σ, S, R, E => wpE a σ S (fun x S1 => wpE b σ S1 (fun y S2 => isRf x = isRf y ∧ srcOf S2 x fun ds st => srcOf S2 y fun es st' => R (zipL ds es) (fun S' => st S' ∧ st' S') S2) E) E
  | .enm a, σ, S, R, E => wpE a σ S (fun x S1 => isRf x = true ∧ srcOf S1 x fun ds st => R (enmL 0 ds) st S1) E
end
mutual
def wpS : Sm → Ev → Store → Ks → Prop
  | .pass, σ, S, K => K.nx σ S
  | .expr e, σ, S, K => wpE P e σ S (fun _ S1 => K.nx σ S1) (fun x S1 => K.ex x σ S1)
  | .asg g e, σ, S, K => wpE P e σ S (fun d S1 => asgT g d σ fun σ1 => K.nx σ1 S1) (fun x S1 => K.ex x σ S1)
  | .sset o i e, σ, S, K => wpE P e σ S (fun d S1 => wpE P o σ S1 (fun x S2 => wpE P i σ S2 (fun k S3 => match x with
    | .ref a => (match S3 a with
      | some (.lst ds) => (match k with
        | .int j => (match L2.ixN ds.length j with
          | some n => K.nx σ (su S3 a (.lst (ds.set n d)))
          | none => False)
        | _ => False)
      | some (.dct t kvs) => (fitsK t k = true ∧ kvs.length < LIM) ∧ K.nx σ (su S3 a (.dct t (dput kvs k d)))
      | _ => False)
    | _ => False) (fun x S1 => K.ex x σ S1)) (fun x S1 => K.ex x σ S1)) (fun x S1 => K.ex x σ S1)
  | .fset o f e, σ, S, K => wpE P e σ S (fun d S1 => wpE P o σ S1 (fun x S2 => match x with
    | .ref a => (match S2 a with
      | some (.ins C fs) => (fs.length < 900 ∧ P.fok C f = true) ∧ K.nx σ (su S2 a (.ins C (fput f d fs)))
      | _ => False)
    | _ => False) (fun x S1 => K.ex x σ S1)) (fun x S1 => K.ex x σ S1)
  | .ret e, σ, S, K => wpE P e σ S K.rt (fun x S1 => K.ex x σ S1)
  | .ite c a b, σ, S, K => wpT P c σ S (fun k S1 => if k = true then wpSs a σ S1 K else wpSs b σ S1 K) (fun x S1 => K.ex x σ S1)
  | .whl c b, σ, S, K => ∃ n, whlW (fun σ S Q => wpT P c σ S Q (fun x S1 => K.ex x σ S1)) (fun σ S N B => wpSs b σ S { K with nx := N, ct := N, bk := B }) n σ S K.nx
  | .for_ g it b, σ, S, K => wpI P it σ S (fun ds st S1 => forW st (fun d σ S N B => asgT g d σ fun σ1 => wpSs b σ1 S { K with nx := N, ct := N, bk := B }) ds σ S1 K.nx) (fun x S1 => K.ex x σ S1)
  | .rse C es, σ, S, K => wpEs P es σ S (fun vs S1 => xarg (P.xfs C) vs.length = true ∧ K.ex ⟨C, (P.xfs C).zip vs⟩ σ S1) (fun x S1 => K.ex x σ S1)
  | .try_ b hs, σ, S, K => wpSs b σ S { K with ex := fun x σ1 S1 => wpH hs x σ1 S1 K }
def wpSs : Sms → Ev → Store → Ks → Prop
  | .nil, σ, S, K => K.nx σ S
  | .cons s r, σ, S, K => wpS s σ S { K with nx := fun σ1 S1 => wpSs r σ1 S1 K }
def wpH : Hds → Xn → Ev → Store → Ks → Prop
  | .nil, x, σ, S, K => K.ex x σ S
  | .cons C b r, x, σ, S, K => if P.sub x.cls C = true then wpSs b σ S { K with ex := fun _ _ _ => False } else wpH r x σ S K
end
end
end Fv

set_option Elab.async false
set_option linter.all false
set_option maxRecDepth 100000
set_option maxHeartbeats 4000000
/-! Plain data over the abstract heap. -/
namespace Fv
open PySem PySem.Spec PyProof.Rows L2

/-- the program's names -/
structure Gx where
  K : PySem.W.Frag
  cls : Nat → Addr
  fnm : Nat → Str
  isX : Nat → Bool
  inj : ∀ i j, fnm i = fnm j → i = j

/-- a list that nobody changes -/
def RoL (K : PySem.W.Frag) (H : Hp) (a : Addr) (xs : List V) : Prop :=
  (∃ o, H a = some (.frz o (.lst xs))) ∨ ∃ (o : Obj) (its : Array Value) (n : Nat), K.lookup a = some o ∧ o.cls = .type "list" ∧ o.dict = none ∧ o.data = .seq its n ∧ its.size ≤ sizeLine ∧ Vals xs its.toList
theorem RoL.seq {K : PySem.W.Frag} {H : Hp} {a : Addr} {xs : List V} (h : RoL K H a xs) : SqL K H a xs := by
  rcases h with ⟨o, h⟩ | h
  · exact .inl (.inr ⟨o, h⟩)
  · exact .inr h

/-- a tuple of the module -/
structure KT (K : PySem.W.Frag) (a : Addr) (vs : List V) : Prop where
  sq : ∀ H', SqT K H' a vs
  od : ∃ o, K.lookup a = some o ∧ o.cls = .type "tuple" ∧ o.dict = none
mutual
def RepD (K : PySem.W.Frag) (H : Hp) : D → V → Prop
  | .non, v => v = .non
  | .bl b, v => v = .bl b
  | .int i, v => v = .int i
  | .str cs, v => v = .str ⟨cs.toArray⟩ ∧ okS cs = true
  | .tup ds, v => ∃ a vs, v = .ref a ∧ H a = some (.tup vs) ∧ RepL K H ds vs
  | .ref a, v => v = .ref a
  | .rl ds, v => ∃ a vs, v = .ref a ∧ RoL K H a vs ∧ RepL K H ds vs
  | .rtx cs, v => v = .str ⟨cs.toArray⟩
  | .ktu ds, v => ∃ a vs, v = .ref a ∧ KT K a vs ∧ RepL K H ds vs
def RepL (K : PySem.W.Frag) (H : Hp) : List D → List V → Prop
  | [], vs => vs = []
  | d :: ds, vs => ∃ v r, vs = v :: r ∧ RepD K H d v ∧ RepL K H ds r
end

/-- what stays: tuples, what is locked, errors' fields -/
structure Stab (H H' : Hp) : Prop where
  tup : ∀ b xs, H b = some (.tup xs) → H' b = some (.tup xs)
  frz : ∀ b o u, H b = some (.frz o u) → H' b = some (.frz o u)
  xd : ∀ b fs, H b = some (.xd fs) → H' b = some (.xd fs)
theorem Stab.refl (H : Hp) : Stab H H := ⟨fun _ _ h => h, fun _ _ _ h => h, fun _ _ h => h⟩
theorem Stab.trans {H H1 H2 : Hp} (a : Stab H H1) (b : Stab H1 H2) : Stab H H2 :=
  ⟨fun c xs h => b.tup c xs (a.tup c xs h), fun c o u h => b.frz c o u (a.frz c o u h), fun c fs h => b.xd c fs (a.xd c fs h)⟩
/-- changeable here: no tuple, no lock, no error -/
def Chg : HO → Prop
  | .tup _ => False
  | .frz _ _ => False
  | .xd _ => False
  | _ => True
theorem Stab.put {H : Hp} {a : Addr} {u o : HO} (h : H a = some u) (c : Chg u) : Stab H (L2.upd H a o) := by
  refine ⟨fun b xs e => ?_, fun b ob w e => ?_, fun b fs e => ?_⟩ <;>
  · by_cases z : b = a
    · subst z
      rw [h] at e
      cases e
      exact c.elim
    · rw [upd_ne z]; exact e
theorem Stab.new {H : Hp} {a : Addr} {o : HO} (h : H a = none) : Stab H (upd H a o) :=
  ⟨fun b xs e => by rw [upd_ne (ne_of_none e h)]; exact e, fun b ob w e => by rw [upd_ne (ne_of_none e h)]; exact e, fun b fs e => by rw [upd_ne (ne_of_none e h)]; exact e⟩
theorem sqT_stab {K : PySem.W.Frag} {H H' : Hp} {a : Addr} {xs : List V} (s : Stab H H') (h : SqT K H a xs) : SqT K H' a xs := by
  rcases h with (h | ⟨o, h⟩) | h
  · exact .inl (.inl (s.tup _ _ h))
  · exact .inl (.inr ⟨o, s.frz _ _ _ h⟩)
  · exact .inr h
theorem RoL.stab {K : PySem.W.Frag} {H H' : Hp} {a : Addr} {xs : List V} (s : Stab H H') (h : RoL K H a xs) : RoL K H' a xs := by
  rcases h with ⟨o, h⟩ | h
  · exact .inl ⟨o, s.frz _ _ _ h⟩
  · exact .inr h
section
variable {K : PySem.W.Frag} {H H' : Hp}
mutual
theorem RepD.stab (s : Stab H H') : ∀ (d : D) (v : V), RepD K H d v → RepD K H' d v
  | .non, _, h => by simpa only [RepD] using h
  | .bl _, _, h => by simpa only [RepD] using h
  | .int _, _, h => by simpa only [RepD] using h
  | .str _, _, h => by simpa only [RepD] using h
  | .ref _, _, h => by simpa only [RepD] using h
  | .rtx _, _, h => by simpa only [RepD] using h
  | .tup ds, _, h => by
    simp only [RepD] at h ⊢
    obtain ⟨a, vs, e, t, r⟩ := h
    exact ⟨a, vs, e, s.tup _ _ t, RepL.stab s ds vs r⟩
  | .ktu ds, _, h => by
    simp only [RepD] at h ⊢
    obtain ⟨a, vs, e, t, r⟩ := h
    exact ⟨a, vs, e, t, RepL.stab s ds vs r⟩
  | .rl ds, _, h => by
    simp only [RepD] at h ⊢
    obtain ⟨a, vs, e, t, r⟩ := h
    exact ⟨a, vs, e, t.stab s, RepL.stab s ds vs r⟩
theorem RepL.stab (s : Stab H H') : ∀ (ds : List D) (vs : List V), RepL K H ds vs → RepL K H' ds vs
  | [], _, h => by simpa only [RepL] using h
  | d :: ds, _, h => by
    simp only [RepL] at h ⊢
    obtain ⟨v, r, e, h1, h2⟩ := h
    exact ⟨v, r, e, RepD.stab s d v h1, RepL.stab s ds r h2⟩
end
theorem RepL.nil : RepL K H [] [] := by simp only [RepL]
theorem RepL.cons {d : D} {ds : List D} {v : V} {vs : List V} (h : RepD K H d v) (r : RepL K H ds vs) : RepL K H (d :: ds) (v :: vs) := by
  simp only [RepL]; exact ⟨v, vs, rfl, h, r⟩
theorem RepL.cons_inv {d : D} {ds : List D} {vs : List V} (h : RepL K H (d :: ds) vs) : ∃ v r, vs = v :: r ∧ RepD K H d v ∧ RepL K H ds r := by
  simpa only [RepL] using h
theorem RepL.nil_inv {vs : List V} (h : RepL K H [] vs) : vs = [] := by simpa only [RepL] using h
theorem RepL.len : ∀ {ds : List D} {vs : List V}, RepL K H ds vs → ds.length = vs.length
  | [], vs, h => by rw [h.nil_inv] <;> rfl
  | d :: ds, vs, h => by
    obtain ⟨v, r, rfl, _, h2⟩ := h.cons_inv
    simp [RepL.len h2]
theorem RepL.app : ∀ {ds es : List D} {vs us : List V}, RepL K H ds vs → RepL K H es us → RepL K H (ds ++ es) (vs ++ us)
  | [], _, vs, _, h, q => by rw [h.nil_inv]; exact q
  | d :: ds, es, vs, us, h, q => by
    obtain ⟨v, r, rfl, h1, h2⟩ := h.cons_inv
    exact RepL.cons h1 (RepL.app h2 q)
theorem RepL.get : ∀ {ds : List D} {vs : List V} {i : Nat} {d : D}, RepL K H ds vs → ds[i]? = some d → ∃ v, vs[i]? = some v ∧ RepD K H d v
  | [], _, _, _, _, e => by simp at e
  | d :: ds, vs, 0, x, h, e => by
    obtain ⟨v, r, rfl, h1, _⟩ := h.cons_inv
    simp at e; subst e
    exact ⟨v, rfl, h1⟩
  | d :: ds, vs, i + 1, x, h, e => by
    obtain ⟨v, r, rfl, _, h2⟩ := h.cons_inv
    obtain ⟨u, h3, h4⟩ := RepL.get (i := i) h2 (by simpa using e)
    exact ⟨u, by simpa using h3, h4⟩
theorem RepL.getV : ∀ {ds : List D} {vs : List V} {i : Nat} {v : V}, RepL K H ds vs → vs[i]? = some v → ∃ d, ds[i]? = some d ∧ RepD K H d v
  | [], vs, _, _, h, e => by rw [h.nil_inv] at e; simp at e
  | d :: ds, vs, 0, x, h, e => by
    obtain ⟨v, r, rfl, h1, _⟩ := h.cons_inv
    simp at e; subst e
    exact ⟨d, rfl, h1⟩
  | d :: ds, vs, i + 1, x, h, e => by
    obtain ⟨v, r, rfl, _, h2⟩ := h.cons_inv
    obtain ⟨u, h3, h4⟩ := RepL.getV (i := i) h2 (by simpa using e)
    exact ⟨u, by simpa using h3, h4⟩
theorem RepL.of : ∀ {ds : List D} {vs : List V}, ds.length = vs.length → (∀ (i : Nat) (d : D) (v : V), ds[i]? = some d → vs[i]? = some v → RepD K H d v) → RepL K H ds vs
  | [], [], _, _ => .nil
  | d :: ds, v :: vs, e, h => .cons (h 0 d v rfl rfl) (RepL.of (by simpa using e) fun i x y h1 h2 => h (i + 1) x y (by simpa using h1) (by simpa using h2))
theorem RepL.map {f : D → D} {g : V → V} : ∀ {ds : List D} {vs : List V}, RepL K H ds vs → (∀ d v, RepD K H d v → RepD K H (f d) (g v)) → RepL K H (ds.map f) (vs.map g)
  | [], vs, h, _ => by rw [h.nil_inv]; exact .nil
  | d :: ds, vs, h, q => by
    obtain ⟨v, r, rfl, h1, h2⟩ := h.cons_inv
    exact .cons (q _ _ h1) (RepL.map h2 q)
theorem RepL.drop {ds : List D} {vs : List V} (h : RepL K H ds vs) (n : Nat) : RepL K H (ds.drop n) (vs.drop n) :=
  RepL.of (by simp [h.len]) fun i d v h1 h2 => by
    rw [List.getElem?_drop] at h1 h2
    obtain ⟨u, h3, h4⟩ := h.get h1
    rw [h2] at h3; cases h3; exact h4
theorem RepL.take {ds : List D} {vs : List V} (h : RepL K H ds vs) (n : Nat) : RepL K H (ds.take n) (vs.take n) :=
  RepL.of (by simp [h.len]) fun i d v h1 h2 => by
    rw [List.getElem?_take] at h1 h2
    split at h1
    · rename_i hi
      rw [if_pos hi] at h2
      obtain ⟨u, h3, h4⟩ := h.get h1
      rw [h2] at h3; cases h3; exact h4
    · cases h1
theorem RepL.set {ds : List D} {vs : List V} {d : D} {v : V} (h : RepL K H ds vs) (r : RepD K H d v) (n : Nat) : RepL K H (ds.set n d) (vs.set n v) :=
  RepL.of (by simp [h.len]) fun i x u h1 h2 => by
    by_cases e : n = i
    · subst e
      have hl := h.len
      have hi : n < ds.length := by
        have := (List.getElem?_eq_some_iff.mp h1).1
        simpa using this
      rw [List.getElem?_set_self hi] at h1
      rw [List.getElem?_set_self (by omega)] at h2
      cases h1; cases h2; exact r
    · rw [List.getElem?_set_ne e] at h1 h2
      obtain ⟨u', h3, h4⟩ := h.get h1
      rw [h2] at h3; cases h3; exact h4
theorem RepL.eraseIdx : ∀ {ds : List D} {vs : List V} (n : Nat), RepL K H ds vs → RepL K H (ds.eraseIdx n) (vs.eraseIdx n)
  | [], vs, n, h => by rw [h.nil_inv]; simpa using RepL.nil
  | d :: ds, vs, 0, h => by
    obtain ⟨v, r, rfl, _, h2⟩ := h.cons_inv
    simpa using h2
  | d :: ds, vs, n + 1, h => by
    obtain ⟨v, r, rfl, h1, h2⟩ := h.cons_inv
    simpa using RepL.cons h1 (RepL.eraseIdx n h2)
theorem RepL.rep {ds : List D} {vs : List V} (h : RepL K H ds vs) : ∀ k : Nat, RepL K H (List.replicate k ds).flatten (List.replicate k vs).flatten
  | 0 => .nil
  | k + 1 => by
    rw [List.replicate_succ, List.replicate_succ, List.flatten_cons, List.flatten_cons]
    exact h.app (h.rep k)
theorem RepL.cut {ds : List D} {vs : List V} (h : RepL K H ds vs) (l u : Option Int) : RepL K H (cutL ds l u) (cutV vs l u) := by
  unfold cutL cutV
  rw [h.len]
  exact (h.drop _).take _
end

/-! ### stores over the heap -/
/-- fields by names -/
def RepF (G : Gx) (H : Hp) : List (Nat × D) → List (Str × V) → Prop
  | [], vs => vs = []
  | (i, d) :: r, vs => ∃ v q, vs = (G.fnm i, v) :: q ∧ RepD G.K H d v ∧ RepF G H r q
def keyD : D → Key
  | .int i => .inl i
  | .str s => .inr ⟨s.toArray⟩
  | _ => .inl 0
def keysD : D → List Key
  | .tup ds => ds.map keyD
  | _ => []
def okF : D → Bool
  | .int _ => true
  | .str s => okS s
  | _ => false
def okT : D → Bool
  | .tup ds => ds.all okF
  | _ => false
def RepKK (G : Gx) (H : Hp) : List (D × D) → List (Key × V) → Prop
  | [], vs => vs = []
  | (k, d) :: r, vs => ∃ v q, vs = (keyD k, v) :: q ∧ isFlat k = true ∧ RepD G.K H k (kV (keyD k)) ∧ RepD G.K H d v ∧ RepKK G H r q
def RepKT (G : Gx) (H : Hp) : List (D × D) → List (List Key × V) → Prop
  | [], vs => vs = []
  | (k, d) :: r, vs => ∃ v q, vs = (keysD k, v) :: q ∧ isTupK k = true ∧ okT k = true ∧ RepD G.K H d v ∧ RepKT G H r q
def CellOk (G : Gx) (H : Hp) (a : Addr) : Cell → Prop
  | .lst ds => ∃ vs, H a = some (.lst vs) ∧ RepL G.K H ds vs
  | .dct true kvs => ∃ ws, H a = some (.dT ws) ∧ RepKT G H kvs ws
  | .dct false kvs => ∃ ws, H a = some (.dK ws) ∧ RepKK G H kvs ws
  | .ins C fs => ∃ dx ws, H a = some (.ins (G.cls C) dx ws) ∧ RepF G H fs ws ∧ Cls G.K (G.cls C) ∧ ∀ p ∈ fs, NoAttr G.K (G.cls C) (G.fnm p.1)
def RelS (G : Gx) (S : Store) (H : Hp) : Prop := ∀ a c, S a = some c → CellOk G H a c
def RepE (G : Gx) (H : Hp) (σ : Ev) (τ : L2.St) : Prop := σ.length = τ.length ∧ ∀ (i : Nat) (d : D), σ[i]? = some (some d) → ∃ v, τ[i]? = some (some v) ∧ RepD G.K H d v
def XnR (G : Gx) (H : Hp) (x : Xn) (c : Value) (dd : Option Addr) : Prop := c = .ref (G.cls x.cls) ∧ G.isX x.cls = true ∧ ∀ f d, fget x.fs f = some d → ∃ a ws v, dd = some a ∧ H a = some (.xd ws) ∧ ws.lookup (G.fnm f) = some v ∧ RepD G.K H d v
section
variable {G : Gx} {H H' : Hp} {S : Store}
theorem RepF.stab (s : Stab H H') : ∀ {fs : List (Nat × D)} {ws : List (Str × V)}, RepF G H fs ws → RepF G H' fs ws
  | [], _, h => h
  | (i, d) :: r, _, h => by
    obtain ⟨v, q, e, h1, h2⟩ := h
    exact ⟨v, q, e, h1.stab s, RepF.stab s h2⟩
theorem RepKK.stab (s : Stab H H') : ∀ {fs : List (D × D)} {ws : List (Key × V)}, RepKK G H fs ws → RepKK G H' fs ws
  | [], _, h => h
  | (i, d) :: r, _, h => by
    obtain ⟨v, q, e, h0, h3, h1, h2⟩ := h
    exact ⟨v, q, e, h0, h3.stab s, h1.stab s, RepKK.stab s h2⟩
theorem RepKT.stab (s : Stab H H') : ∀ {fs : List (D × D)} {ws : List (List Key × V)}, RepKT G H fs ws → RepKT G H' fs ws
  | [], _, h => h
  | (i, d) :: r, _, h => by
    obtain ⟨v, q, e, h0, h3, h1, h2⟩ := h
    exact ⟨v, q, e, h0, h3, h1.stab s, RepKT.stab s h2⟩
theorem CellOk.stab (s : Stab H H') {a : Addr} {c : Cell} (e : H' a = H a) (h : CellOk G H a c) : CellOk G H' a c := by
  cases c with
  | lst ds => obtain ⟨vs, h1, h2⟩ := h; exact ⟨vs, by rw [e]; exact h1, h2.stab s⟩
  | dct t kvs =>
    cases t with
    | true => obtain ⟨ws, h1, h2⟩ := h; exact ⟨ws, by rw [e]; exact h1, h2.stab s⟩
    | false => obtain ⟨ws, h1, h2⟩ := h; exact ⟨ws, by rw [e]; exact h1, h2.stab s⟩
  | ins C fs => obtain ⟨dx, ws, h1, h2, h3⟩ := h; exact ⟨dx, ws, by rw [e]; exact h1, h2.stab s, h3⟩
theorem CellOk.there {a : Addr} {c : Cell} (h : CellOk G H a c) : ∃ u, H a = some u ∧ Chg u := by
  cases c with
  | lst ds => obtain ⟨vs, h1, _⟩ := h; exact ⟨_, h1, trivial⟩
  | dct t kvs =>
    cases t with
    | true => obtain ⟨ws, h1, _⟩ := h; exact ⟨_, h1, trivial⟩
    | false => obtain ⟨ws, h1, _⟩ := h; exact ⟨_, h1, trivial⟩
  | ins C fs => obtain ⟨dx, ws, h1, _⟩ := h; exact ⟨_, h1, trivial⟩
theorem RelS.free (h : RelS G S H) {a : Addr} (n : H a = none) : S a = none := by
  cases e : S a with
  | none => rfl
  | some c =>
    obtain ⟨u, h1, _⟩ := (h a c e).there
    rw [n] at h1; cases h1
/-- something new that the store does not know -/
theorem RelS.new (h : RelS G S H) {p : Addr} {o : HO} (n : H p = none) : RelS G S (upd H p o) := fun a c e => by
  have hne : a ≠ p := by
    rintro rfl
    rw [h.free n] at e; cases e
  exact (h a c e).stab (Stab.new n) (upd_ne hne)
/-- a new cell -/
theorem RelS.newC (h : RelS G S H) {p : Addr} {o : HO} {c : Cell} (n : H p = none) (ok : CellOk G (upd H p o) p c) : RelS G (su S p c) (upd H p o) := fun a c' e => by
  by_cases z : a = p
  · subst z
    rw [su_same] at e; cases e
    exact ok
  · rw [su_ne z] at e
    exact (h a c' e).stab (Stab.new n) (upd_ne z)
/-- a cell that changes -/
theorem RelS.put (h : RelS G S H) {p : Addr} {o u : HO} {c : Cell} (e0 : H p = some u) (ch : Chg u) (ok : CellOk G (upd H p o) p c) : RelS G (su S p c) (upd H p o) := fun a c' e => by
  by_cases z : a = p
  · subst z
    rw [su_same] at e; cases e
    exact ok
  · rw [su_ne z] at e
    exact (h a c' e).stab (Stab.put e0 ch) (upd_ne z)
theorem RepE.stab {σ : Ev} {τ : L2.St} (s : Stab H H') (h : RepE G H σ τ) : RepE G H' σ τ :=
  ⟨h.1, fun i d e => let ⟨v, h1, h2⟩ := h.2 i d e; ⟨v, h1, h2.stab s⟩⟩
theorem RepE.set {σ : Ev} {τ : L2.St} {d : D} {v : V} (h : RepE G H σ τ) (r : RepD G.K H d v) (i : Nat) : RepE G H (σ.set i (some d)) (τ.set i (some v)) := by
  refine ⟨by simp [h.1], fun j x e => ?_⟩
  by_cases z : i = j
  · subst z
    have hi : i < σ.length := by
      have := (List.getElem?_eq_some_iff.mp e).1
      simpa using this
    rw [List.getElem?_set_self hi] at e
    cases e
    exact ⟨v, by rw [List.getElem?_set_self (by have := h.1; omega)], r⟩
  · rw [List.getElem?_set_ne z] at e
    rw [List.getElem?_set_ne z]
    exact h.2 j x e
theorem RepE.wiped {σ : Ev} {τ : L2.St} (h : RepE G H σ τ) : ∀ l : List Nat, RepE G H (wipeE σ l) (L2.wipe τ l)
  | [] => h
  | v :: vs => by
    have ih := RepE.wiped h vs
    refine ⟨by simp [wipeE, L2.wipe, ih.1], fun j x e => ?_⟩
    have e' : ((wipeE σ vs).set v none)[j]? = some (some x) := e
    by_cases z : v = j
    · subst z
      have hi : v < (wipeE σ vs).length := by
        have := (List.getElem?_eq_some_iff.mp e').1
        simpa using this
      rw [List.getElem?_set_self hi] at e'
      cases e'
    · rw [List.getElem?_set_ne z] at e'
      show ∃ u, ((L2.wipe τ vs).set v none)[j]? = _ ∧ _
      rw [List.getElem?_set_ne z]
      exact ih.2 j x e'
theorem RepF.get : ∀ {fs : List (Nat × D)} {ws : List (Str × V)} {f : Nat} {d : D}, RepF G H fs ws → fget fs f = some d → ∃ v, ws.lookup (G.fnm f) = some v ∧ RepD G.K H d v
  | [], _, _, _, _, e => by simp [fget] at e
  | (i, x) :: r, _, f, d, h, e => by
    obtain ⟨v, q, rfl, h1, h2⟩ := h
    by_cases z : f = i
    · subst z
      have e2 : x = d := by simpa [fget] using e
      subst e2
      exact ⟨v, by simp, h1⟩
    · have e2 : fget r f = some d := by
        have hb : (f == i) = false := by simpa using z
        simpa [fget, List.lookup_cons, hb] using e
      obtain ⟨u, h3, h4⟩ := RepF.get h2 e2
      refine ⟨u, ?_, h4⟩
      have hb : (G.fnm f == G.fnm i) = false := by
        simp only [beq_eq_false_iff_ne]
        exact fun q => z (G.inj _ _ q)
      rw [List.lookup_cons, hb]
      exact h3
theorem RepF.len : ∀ {fs : List (Nat × D)} {ws : List (Str × V)}, RepF G H fs ws → fs.length = ws.length
  | [], ws, h => by
    have e : ws = [] := h
    rw [e] <;> rfl
  | (i, x) :: r, _, h => by
    obtain ⟨v, q, rfl, h1, h2⟩ := h
    simp [RepF.len h2]
theorem RepF.put : ∀ {fs : List (Nat × D)} {ws : List (Str × V)} {f : Nat} {d : D} {v : V}, RepF G H fs ws → RepD G.K H d v → RepF G H (fput f d fs) (putF (G.fnm f) v ws)
  | [], ws, f, d, v, h, r => by
    have e : ws = [] := h
    subst e
    exact ⟨v, [], rfl, r, rfl⟩
  | (i, x) :: r, _, f, d, v, h, rd => by
    obtain ⟨u, q, rfl, h1, h2⟩ := h
    by_cases z : i = f
    · subst z
      simp only [fput, putF, if_true]
      exact ⟨v, q, rfl, rd, h2⟩
    · have z' : ¬ G.fnm i = G.fnm f := fun q => z (G.inj _ _ q)
      simp only [fput, putF, if_neg z, if_neg z']
      exact ⟨u, _, rfl, h1, RepF.put h2 rd⟩
end

/-! ### plain data -/
section
variable {K : PySem.W.Frag} {H : Hp}
mutual
theorem repDp : ∀ (d : D) (v : V), pureD d = true → RepD K H d v → Dp K H v (toPD d)
  | .non, _, _, h => by simp only [RepD] at h; subst h; simp only [toPD]; exact .non
  | .bl b, _, _, h => by simp only [RepD] at h; subst h; simp only [toPD]; exact .bl b
  | .int i, _, _, h => by simp only [RepD] at h; subst h; simp only [toPD]; exact .int i
  | .str s, _, _, h => by simp only [RepD] at h; rw [h.1]; simp only [toPD]; exact .str _
  | .ref _, _, p, _ => by simp [pureD] at p
  | .rl _, _, p, _ => by simp [pureD] at p
  | .rtx _, _, p, _ => by simp [pureD] at p
  | .tup ds, _, p, h => by
    simp only [RepD] at h
    obtain ⟨a, vs, rfl, t, r⟩ := h
    simp only [toPD]
    exact .tup (SqT.of t) (repDpL ds vs (by simpa only [pureD] using p) r)
  | .ktu ds, _, p, h => by
    simp only [RepD] at h
    obtain ⟨a, vs, rfl, t, r⟩ := h
    simp only [toPD]
    exact .tup (t.sq H) (repDpL ds vs (by simpa only [pureD] using p) r)
theorem repDpL : ∀ (ds : List D) (vs : List V), pureL ds = true → RepL K H ds vs → DpAll K H vs (toPDL ds)
  | [], _, _, h => by simp only [RepL] at h; subst h; simp only [toPDL]; exact .nil
  | d :: ds, _, p, h => by
    obtain ⟨v, r, rfl, h1, h2⟩ := h.cons_inv
    simp only [pureL, Bool.and_eq_true] at p
    simp only [toPDL]
    exact .cons (repDp d v p.1 h1) (repDpL ds r p.2 h2)
end
theorem strOk_of {s : List Nat} (h : okS s = true) : PyData.strOk ⟨s.toArray⟩ = true := by
  unfold PyData.strOk
  unfold okS at h
  simpa using h
mutual
theorem canLay_of : ∀ (d : D) (v : V), pureD d = true → RepD K H d v → (toPD d).canLay0 = true
  | .non, _, _, _ => by simp [toPD, PyData.canLay0]
  | .bl b, _, _, _ => by simp [toPD, PyData.canLay0]
  | .int i, _, _, _ => by simp [toPD, PyData.canLay0]
  | .str s, _, _, h => by
    simp only [RepD] at h
    simp only [toPD, PyData.canLay0]
    exact strOk_of h.2
  | .ref _, _, p, _ => by simp [pureD] at p
  | .rl _, _, p, _ => by simp [pureD] at p
  | .rtx _, _, p, _ => by simp [pureD] at p
  | .tup ds, _, p, h => by
    simp only [RepD] at h
    obtain ⟨a, vs, rfl, t, r⟩ := h
    simp only [toPD, PyData.canLay0]
    exact canLay_ofL ds vs (by simpa only [pureD] using p) r
  | .ktu ds, _, p, h => by
    simp only [RepD] at h
    obtain ⟨a, vs, rfl, t, r⟩ := h
    simp only [toPD, PyData.canLay0]
    exact canLay_ofL ds vs (by simpa only [pureD] using p) r
theorem canLay_ofL : ∀ (ds : List D) (vs : List V), pureL ds = true → RepL K H ds vs → PyData.canLayAll0 (toPDL ds) = true
  | [], _, _, _ => by simp [toPDL, PyData.canLayAll0]
  | d :: ds, _, p, h => by
    obtain ⟨v, r, rfl, h1, h2⟩ := h.cons_inv
    simp only [pureL, Bool.and_eq_true] at p
    simp only [toPDL, PyData.canLayAll0, Bool.and_eq_true]
    exact ⟨canLay_of d v p.1 h1, canLay_ofL ds r p.2 h2⟩
end
mutual
theorem depth_of : ∀ d : D, (toPD d).depth ≤ dep d
  | .non => by simp [toPD, PyData.depth]
  | .bl b => by simp [toPD, PyData.depth]
  | .int i => by simp [toPD, PyData.depth]
  | .str s => by simp [toPD, PyData.depth]
  | .ref _ => by simp [toPD, PyData.depth]
  | .rl _ => by simp [toPD, PyData.depth]
  | .rtx _ => by simp [toPD, PyData.depth]
  | .tup ds => by
    have := depth_ofL ds
    simp only [toPD, PyData.depth, dep]
    omega
  | .ktu ds => by
    have := depth_ofL ds
    simp only [toPD, PyData.depth, dep]
    omega
theorem depth_ofL : ∀ ds : List D, PyData.depthAll (toPDL ds) ≤ depL ds
  | [] => by simp [toPDL, PyData.depthAll]
  | d :: ds => by
    have h1 := depth_of d
    have h2 := depth_ofL ds
    simp only [toPDL, PyData.depthAll, depL]
    omega
end
theorem shaped_ok {d : D} {v : V} (h : okD d = true) (r : RepD K H d v) : SeqAt.shaped (toPD d) = true := by
  unfold okD at h
  simp only [Bool.and_eq_true, decide_eq_true_eq] at h
  have := depth_of d
  show ((toPD d).canLay0 && decide ((toPD d).depth ≤ 64)) = true
  rw [Bool.and_eq_true]
  exact ⟨canLay_of d v h.1 r, decide_eq_true (by omega)⟩
theorem shaped_okL {ds : List D} {vs : List V} (h : okL ds = true) (r : RepL K H ds vs) : SeqAt.shaped (.list (toPDL ds)) = true := by
  unfold okL at h
  simp only [Bool.and_eq_true, decide_eq_true_eq] at h
  have := depth_ofL ds
  show ((PyData.list (toPDL ds)).canLay0 && decide ((PyData.list (toPDL ds)).depth ≤ 64)) = true
  rw [Bool.and_eq_true]
  refine ⟨?_, decide_eq_true ?_⟩
  · simp only [PyData.canLay0]; exact canLay_ofL ds vs h.1 r
  · simp only [PyData.depth]; omega
theorem okD_dp {d : D} {v : V} (h : okD d = true) (r : RepD K H d v) : Dp K H v (toPD d) := by
  unfold okD at h
  simp only [Bool.and_eq_true] at h
  exact repDp d v h.1 r
theorem okL_dp {ds : List D} {vs : List V} {a : Addr} (h : okL ds = true) (s : SqL K H a vs) (r : RepL K H ds vs) : Dp K H (.ref a) (.list (toPDL ds)) := by
  unfold okL at h
  simp only [Bool.and_eq_true] at h
  exact .lst s (repDpL ds vs h.1 r)
end
end Fv

set_option Elab.async false
set_option linter.all false
set_option maxRecDepth 100000
set_option maxHeartbeats 4000000
/-! Operators by values. -/
namespace Fv
open PySem PySem.Spec PyProof.Rows L2
def QOk (G : Gx) (H : Hp) (Q : QD) (VQ : VK) : Prop := ∀ d S v H1, Stab H H1 → RelS G S H1 → RepD G.K H1 d v → Q d S → VQ v H1
def XOk (G : Gx) (H : Hp) (E : QX) (W : XK) : Prop := ∀ x S c dd H1, Stab H H1 → RelS G S H1 → XnR G H1 x c dd → E x S → W c dd H1
theorem QOk.stab {G : Gx} {H H1 : Hp} {Q : QD} {VQ : VK} (q : QOk G H Q VQ) (s : Stab H H1) : QOk G H1 Q VQ := fun d S v H2 s2 => q d S v H2 (s.trans s2)
theorem XOk.stab {G : Gx} {H H1 : Hp} {E : QX} {W : XK} (q : XOk G H E W) (s : Stab H H1) : XOk G H1 E W := fun x S c dd H2 s2 => q x S c dd H2 (s.trans s2)
theorem QOk.here {G : Gx} {H : Hp} {Q : QD} {VQ : VK} {d : D} {S : Store} {v : V} (q : QOk G H Q VQ) (rs : RelS G S H) (r : RepD G.K H d v) (h : Q d S) : VQ v H := q d S v H (Stab.refl H) rs r h
/-- a new list -/
theorem QOk.lst {G : Gx} {H : Hp} {Q : QD} {VQ : VK} {ds : List D} {vs : List V} {S : Store} {p : Addr} (q : QOk G H Q VQ) (rs : RelS G S H) (r : RepL G.K H ds vs) (h : wpNew (.lst ds) S Q) (n : H p = none) : VQ (.ref p) (upd H p (.lst vs)) :=
  q (.ref p) (su S p (.lst ds)) (.ref p) _ (Stab.new n) (rs.newC n ⟨vs, upd_same, r.stab (Stab.new n)⟩) (by simp only [RepD]) (h p (rs.free n))
/-- a new tuple -/
theorem QOk.tup {G : Gx} {H : Hp} {Q : QD} {VQ : VK} {ds : List D} {vs : List V} {S : Store} {p : Addr} (q : QOk G H Q VQ) (rs : RelS G S H) (r : RepL G.K H ds vs) (h : Q (.tup ds) S) (n : H p = none) : VQ (.ref p) (upd H p (.tup vs)) :=
  q (.tup ds) S (.ref p) _ (Stab.new n) (rs.new n) (by simp only [RepD]; exact ⟨p, vs, rfl, upd_same, r.stab (Stab.new n)⟩) h
theorem LIM_le {n : Nat} (h : n ≤ LIM) : n ≤ sizeLine := Nat.le_trans h (by rw [sizeLine_eq]; decide)
theorem LIM_lt {n : Nat} (h : n < LIM) : n < sizeLine := Nat.lt_of_lt_of_le h (by rw [sizeLine_eq]; decide)
section
variable {K : PySem.W.Frag} {H : Hp} {v : V}
theorem rep_int {i : Int} (h : RepD K H (.int i) v) : v = .int i := by simpa only [RepD] using h
theorem rep_bl {i : Bool} (h : RepD K H (.bl i) v) : v = .bl i := by simpa only [RepD] using h
theorem rep_non (h : RepD K H .non v) : v = .non := by simpa only [RepD] using h
theorem rep_str {s : List Nat} (h : RepD K H (.str s) v) : v = .str ⟨s.toArray⟩ ∧ okS s = true := by simpa only [RepD] using h
theorem rep_ref {a : Addr} (h : RepD K H (.ref a) v) : v = .ref a := by simpa only [RepD] using h
theorem rep_tup {ds : List D} (h : RepD K H (.tup ds) v) : ∃ a vs, v = .ref a ∧ H a = some (.tup vs) ∧ RepL K H ds vs := by simpa only [RepD] using h
theorem rep_ktu {ds : List D} (h : RepD K H (.ktu ds) v) : ∃ a vs, v = .ref a ∧ (∀ H', SqT K H' a vs) ∧ RepL K H ds vs := by
  simp only [RepD] at h
  obtain ⟨a, vs, e, t, r⟩ := h
  exact ⟨a, vs, e, t.sq, r⟩
theorem rep_ktu2 {ds : List D} (h : RepD K H (.ktu ds) v) : ∃ a vs, v = .ref a ∧ KT K a vs ∧ RepL K H ds vs := by simpa only [RepD] using h
theorem rep_rl {ds : List D} (h : RepD K H (.rl ds) v) : ∃ a vs, v = .ref a ∧ RoL K H a vs ∧ RepL K H ds vs := by simpa only [RepD] using h
theorem rep_rtx {s : List Nat} (h : RepD K H (.rtx s) v) : v = .str ⟨s.toArray⟩ := by simpa only [RepD] using h
theorem mk_int {i : Int} : RepD K H (.int i) (.int i) := by simp only [RepD]
theorem mk_bl {i : Bool} : RepD K H (.bl i) (.bl i) := by simp only [RepD]
theorem mk_non : RepD K H .non .non := by simp only [RepD]
theorem mk_str {s : List Nat} (h : okS s = true) : RepD K H (.str s) (.str ⟨s.toArray⟩) := by simp only [RepD]; exact ⟨trivial, h⟩
theorem mk_ref {a : Addr} : RepD K H (.ref a) (.ref a) := by simp only [RepD]
theorem mk_tup {ds : List D} {a : Addr} {vs : List V} (s : H a = some (.tup vs)) (r : RepL K H ds vs) : RepD K H (.tup ds) (.ref a) := by simp only [RepD]; exact ⟨a, vs, rfl, s, r⟩
theorem okS_app {a b : List Nat} (h : okS a = true) (q : okS b = true) : okS (a ++ b) = true := by
  unfold okS at *; rw [List.all_append, h, q]; rfl
end
theorem lst_get {G : Gx} {S : Store} {H : Hp} {a : Addr} {ds : List D} (rs : RelS G S H) (e : S a = some (.lst ds)) : ∃ vs, H a = some (.lst vs) ∧ RepL G.K H ds vs := rs a _ e

/-! ### + - * // % -/
def BinV (G : Gx) (o : Bop) : R2 := fun x y H VQ => ∃ d e S Q, RepD G.K H d x ∧ RepD G.K H e y ∧ RelS G S H ∧ wpBin o d e S Q ∧ QOk G H Q VQ
def bopOf : Bop → Operator
  | .add => .Add
  | .sub => .Sub
  | .mul => .Mult
  | .fdiv => .FloorDiv
  | .mod => .Mod
  | .band => .BitAnd
theorem CMul_of {i j : Int} (h : sml i ∨ sml j) : CMul i j := h
section
variable {X : Cx} {G : Gx}
theorem bin_ok (o : Bop) (hK : X.K = G.K) : OpR X (binaryOp (bopOf o)) (BinV G o) := by
  intro pins s τ H x y v u VQ I rx ry ⟨d, e, S, Q, rd, re, rs, w, q⟩
  cases o with
  | add =>
    cases d with
    | int i =>
      cases e with
      | int j =>
        cases rep_int rd; cases rep_int re
        exact op_add pins s τ H _ _ v u VQ I rx ry ⟨i, j, rfl, rfl, q.here rs mk_int w⟩
      | _ => exact w.elim
    | str a =>
      cases e with
      | str b =>
        obtain ⟨rfl, h1⟩ := rep_str rd
        obtain ⟨rfl, h2⟩ := rep_str re
        refine op_add_str pins s τ H _ _ v u VQ I rx ry ⟨_, _, rfl, rfl, LIM_le (by simpa [Str.length] using w.1), ?_⟩
        have e1 : (⟨a.toArray⟩ ++ ⟨b.toArray⟩ : Str) = ⟨(a ++ b).toArray⟩ := by
          show (⟨a.toArray ++ b.toArray⟩ : Str) = _
          simp
        rw [e1]
        exact q.here rs (mk_str (okS_app h1 h2)) w.2
      | _ => exact w.elim
    | tup a =>
      cases e with
      | tup b =>
        obtain ⟨p, vs, rfl, t1, r1⟩ := rep_tup rd
        obtain ⟨p', us, rfl, t2, r2⟩ := rep_tup re
        have hne : vs ≠ [] := by
          rintro rfl
          have := r1.len
          have z := w.1.1
          cases a <;> simp_all
        refine op_catT pins s τ H _ _ v u VQ I rx ry ⟨p, p', vs, us, rfl, rfl, SqT.of t1, SqT.of t2, hne, LIM_le (by rw [← r1.len, ← r2.len]; exact w.1.2), fun z => ?_, fun _ p0 n => q.tup rs (r1.app r2) w.2 n⟩
        subst z
        have : b = [] := by have := r2.len; cases b <;> simp_all
        subst this
        exact q.here rs (mk_tup t1 (by simpa using r1)) w.2
      | _ => exact w.elim
    | ref a =>
      cases e with
      | ref b =>
        cases rep_ref rd; cases rep_ref re
        cases e1 : S a with
        | none => simp only [wpBin, e1] at w
        | some c1 =>
          cases c1 with
          | lst xs =>
            cases e2 : S b with
            | none => simp only [wpBin, e1, e2] at w
            | some c2 =>
              cases c2 with
              | lst ys =>
                simp only [wpBin, e1, e2] at w
                obtain ⟨vs, h1, r1⟩ := lst_get rs e1
                obtain ⟨us, h2, r2⟩ := lst_get rs e2
                exact op_cat pins s τ H _ _ v u VQ I rx ry ⟨a, b, vs, us, rfl, rfl, h1, h2, LIM_le (by rw [← r1.len, ← r2.len]; exact w.1), fun p n => q.lst rs (r1.app r2) w.2 n⟩
              | _ => simp only [wpBin, e1, e2] at w
          | _ => simp only [wpBin, e1] at w
      | _ => exact w.elim
    | _ => exact w.elim
  | sub =>
    cases d with
    | int i =>
      cases e with
      | int j =>
        cases rep_int rd; cases rep_int re
        exact op_sub pins s τ H _ _ v u VQ I rx ry ⟨i, j, rfl, rfl, q.here rs mk_int w⟩
      | _ => exact w.elim
    | _ => exact w.elim
  | mul =>
    cases d with
    | int i =>
      cases e with
      | int j =>
        cases rep_int rd; cases rep_int re
        exact op_mul pins s τ H _ _ v u VQ I rx ry ⟨i, j, rfl, rfl, CMul_of w.1, q.here rs mk_int w.2⟩
      | _ => exact w.elim
    | ref a =>
      cases e with
      | int n =>
        cases rep_ref rd; cases rep_int re
        cases e1 : S a with
        | none => simp only [wpBin, e1] at w
        | some c1 =>
          cases c1 with
          | lst xs =>
            simp only [wpBin, e1] at w
            obtain ⟨vs, h1, r1⟩ := lst_get rs e1
            exact op_rep pins s τ H _ _ v u VQ I rx ry ⟨a, n, vs, rfl, rfl, h1, w.1.2.1, w.1.1, LIM_le (by rw [← r1.len]; exact w.1.2.2), fun p hn => q.lst rs (r1.rep _) w.2 hn⟩
          | _ => simp only [wpBin, e1] at w
      | _ => exact w.elim
    | _ => exact w.elim
  | fdiv =>
    cases d with
    | int i =>
      cases e with
      | int j =>
        cases rep_int rd; cases rep_int re
        exact op_fdiv pins s τ H _ _ v u VQ I rx ry ⟨i, j, rfl, rfl, w.1, q.here rs mk_int w.2⟩
      | _ => exact w.elim
    | _ => exact w.elim
  | mod =>
    cases d with
    | int i =>
      cases e with
      | int j =>
        cases rep_int rd; cases rep_int re
        exact op_mod pins s τ H _ _ v u VQ I rx ry ⟨i, j, rfl, rfl, w.1, q.here rs mk_int w.2⟩
      | _ => exact w.elim
    | _ => exact w.elim
  | band => exact w.elim
end

/-! ### comparisons -/
def BQ (Q : Bool → Prop) (VQ : VK) (H : Hp) : Prop := ∀ b, Q b → VQ (.bl b) H
def EqV (G : Gx) (f : Bool → Bool) : R2 := fun x y H VQ => ∃ d e S Q, RepD G.K H d x ∧ RepD G.K H e y ∧ RelS G S H ∧ wpEq d e S Q ∧ ∀ b, Q b → VQ (.bl (f b)) H
theorem lstAt_some {S : Store} {a : Addr} {xs : List D} (h : lstAt S a = some xs) : S a = some (.lst xs) := by
  unfold lstAt at h
  split at h
  · cases h; assumption
  · cases h
section
variable {X : Cx} {G : Gx}
/-- two values as plain data, or two printed texts -/
theorem eq_split {d e : D} {S : Store} {Q : Bool → Prop} {x y : V} {H : Hp} (rd : RepD G.K H d x) (re : RepD G.K H e y) (rs : RelS G S H) (w : wpEq d e S Q) :
    (∃ p q, Dp G.K H x p ∧ Dp G.K H y q ∧ SeqAt.shaped p = true ∧ SeqAt.shaped q = true ∧ Q (PyData.eqv p q)) ∨ (∃ a b : Str, x = .str a ∧ y = .str b ∧ Q (decide (a = b))) := by
  have pp : okD d = true ∧ okD e = true → Q (eqD d e) → ∃ p q, Dp G.K H x p ∧ Dp G.K H y q ∧ SeqAt.shaped p = true ∧ SeqAt.shaped q = true ∧ Q (PyData.eqv p q) :=
    fun h q => ⟨_, _, okD_dp h.1 rd, okD_dp h.2 re, shaped_ok h.1 rd, shaped_ok h.2 re, q⟩
  have lp : ∀ b, e = .ref b → (∀ a, d ≠ .ref a) → wpEq d (.ref b) S Q → ∃ p q, Dp G.K H x p ∧ Dp G.K H y q ∧ SeqAt.shaped p = true ∧ SeqAt.shaped q = true ∧ Q (PyData.eqv p q) := by
    intro b hb hd w
    subst hb
    have w' : (match lstAt S b with | some ys => (okD d = true ∧ okL ys = true) ∧ Q false | none => False) := by
      cases d <;> first | exact w | exact absurd rfl (hd _)
    cases e2 : lstAt S b with
    | none => rw [e2] at w'; exact w'.elim
    | some ys =>
      rw [e2] at w'
      obtain ⟨us, h2, r2⟩ := lst_get rs (lstAt_some e2)
      cases rep_ref re
      refine ⟨_, _, okD_dp w'.1.1 rd, okL_dp w'.1.2 (SqL.of h2) r2, shaped_ok w'.1.1 rd, shaped_okL w'.1.2 r2, ?_⟩
      have : PyData.eqv (toPD d) (.list (toPDL ys)) = false := by
        cases d <;> simp [toPD, PyData.eqv]
      rw [this]; exact w'.2
  cases d with
  | ref a =>
    cases e with
    | ref b =>
      cases rep_ref rd; cases rep_ref re
      simp only [wpEq] at w
      cases e1 : lstAt S a with
      | none => rw [e1] at w; exact w.elim
      | some xs =>
        cases e2 : lstAt S b with
        | none => rw [e1, e2] at w; exact w.elim
        | some ys =>
          rw [e1, e2] at w
          obtain ⟨vs, h1, r1⟩ := lst_get rs (lstAt_some e1)
          obtain ⟨us, h2, r2⟩ := lst_get rs (lstAt_some e2)
          refine .inl ⟨_, _, okL_dp w.1.1 (SqL.of h1) r1, okL_dp w.1.2 (SqL.of h2) r2, shaped_okL w.1.1 r1, shaped_okL w.1.2 r2, ?_⟩
          simp only [PyData.eqv]; exact w.2
    | _ =>
      cases rep_ref rd
      simp only [wpEq] at w
      cases e1 : lstAt S a with
      | none => rw [e1] at w; exact w.elim
      | some xs =>
        rw [e1] at w
        obtain ⟨vs, h1, r1⟩ := lst_get rs (lstAt_some e1)
        refine .inl ⟨_, _, okL_dp w.1.1 (SqL.of h1) r1, okD_dp w.1.2 re, shaped_okL w.1.1 r1, shaped_ok w.1.2 re, ?_⟩
        first
          | (simp only [toPD, PyData.eqv]; exact w.2)
  | rtx a =>
    cases e with
    | rtx b =>
      have h1 := rep_rtx rd
      have h2 := rep_rtx re
      refine .inr ⟨_, _, h1, h2, ?_⟩
      have : decide ((⟨a.toArray⟩ : Str) = ⟨b.toArray⟩) = decide (a = b) := by simp
      rw [this]; exact w
    | ref b => exact .inl (lp b rfl (fun _ z => by cases z) w)
    | _ => exact .inl (pp w.1 w.2)
  | _ =>
    cases e with
    | ref b => exact .inl (lp b rfl (fun _ z => by cases z) w)
    | _ => exact .inl (pp w.1 w.2)
theorem eq_ok (hK : X.K = G.K) (hu : X.A.units + 64 < cLine) : OpR X (compareOp .Eq) (EqV G id) := by
  intro pins s τ H x y v u VQ I rx ry ⟨d, e, S, Q, rd, re, rs, w, q⟩
  rcases eq_split rd re rs w with ⟨p, p', h1, h2, h3, h4, h5⟩ | ⟨a, b, rfl, rfl, h5⟩
  · exact op_eqD hu pins s τ H x y v u VQ I rx ry ⟨p, p', by rw [hK]; exact h1, by rw [hK]; exact h2, h3, h4, q _ h5⟩
  · refine op_eq pins s τ H _ _ v u VQ I rx ry ⟨rfl, ?_⟩
    have : decide (V.str a = V.str b) = decide (a = b) := by simp
    rw [this]; exact q _ h5
theorem ne_ok (hK : X.K = G.K) (hu : X.A.units + 64 < cLine) : OpR X (compareOp .NotEq) (EqV G (fun b => !b)) := by
  intro pins s τ H x y v u VQ I rx ry ⟨d, e, S, Q, rd, re, rs, w, q⟩
  rcases eq_split rd re rs w with ⟨p, p', h1, h2, h3, h4, h5⟩ | ⟨a, b, rfl, rfl, h5⟩
  · exact op_neD hu pins s τ H x y v u VQ I rx ry ⟨p, p', by rw [hK]; exact h1, by rw [hK]; exact h2, h3, h4, q _ h5⟩
  · refine op_ne pins s τ H _ _ v u VQ I rx ry ⟨rfl, ?_⟩
    have : decide (V.str a = V.str b) = decide (a = b) := by simp
    rw [this]; exact q _ h5
end
end Fv

set_option Elab.async false
set_option linter.all false
set_option maxRecDepth 100000
set_option maxHeartbeats 4000000
/-! Comparisons, truth, subscripts, slices, built-ins by values. -/
namespace Fv
open PySem PySem.Spec PyProof.Rows L2
theorem op_inDT {X : Cx} (hu : X.A.units + 65 < cLine) : OpR X (compareOp .In) (fun x y H Q => ∃ d ds, Dp X.K H x d ∧ Dp X.K H y (.tuple ds) ∧ SeqAt.shaped d = true ∧ SeqAt.shaped (.list ds) = true ∧ Q (.bl (ds.any fun z => PyData.eqv z d)) H) := by
  intro pins s τ H x y v u Q I rx ry h
  obtain ⟨d, ds, hd, he, sd, se, q⟩ := h
  obtain ⟨as, r1⟩ := Dp.reads I d x v hd rx
  obtain ⟨bs, r2⟩ := Dp.reads I (.tuple ds) y u he ry
  have hl : PyData.canLayAll0 ds = true := SeqAt.canLay_of_shaped se
  have hm : min (PyData.depthAll ds) d.depth ≤ d.depth := Nat.min_le_right _ _
  have hd' := SeqAt.depth_of_shaped sd
  exact SeqAt.in_tuple_reads r2 r1 hl (SeqAt.canLay_of_shaped sd) (by omega) ⟨.bl _, H, I, rfl, q⟩
theorem op_notInDT {X : Cx} (hu : X.A.units + 65 < cLine) : OpR X (compareOp .NotIn) (fun x y H Q => ∃ d ds, Dp X.K H x d ∧ Dp X.K H y (.tuple ds) ∧ SeqAt.shaped d = true ∧ SeqAt.shaped (.list ds) = true ∧ Q (.bl (!ds.any fun z => PyData.eqv z d)) H) := by
  intro pins s τ H x y v u Q I rx ry h
  obtain ⟨d, ds, hd, he, sd, se, q⟩ := h
  obtain ⟨as, r1⟩ := Dp.reads I d x v hd rx
  obtain ⟨bs, r2⟩ := Dp.reads I (.tuple ds) y u he ry
  have hl : PyData.canLayAll0 ds = true := SeqAt.canLay_of_shaped se
  have hm : min (PyData.depthAll ds) d.depth ≤ d.depth := Nat.min_le_right _ _
  have hd' := SeqAt.depth_of_shaped sd
  exact SeqAt.notIn_tuple_reads r2 r1 hl (SeqAt.canLay_of_shaped sd) (by omega) ⟨.bl _, H, I, rfl, q⟩
theorem any_eqD (x : D) : ∀ ds : List D, (ds.any fun z => eqD z x) = ((toPDL ds).any fun z => PyData.eqv z (toPD x))
  | [] => rfl
  | d :: r => by
    have ih := any_eqD x r
    simp only [List.any_cons, toPDL, ih]
    rfl

/-! ### keys -/
section
variable {G : Gx} {H : Hp} {S : Store}
theorem keyD_inj {a b : D} (ha : isFlat a = true) (hb : isFlat b = true) (e : keyD a = keyD b) : a = b := by
  cases a <;> cases b <;> simp_all [isFlat, keyD]
theorem keys_inj : ∀ {xs ys : List D}, xs.all isFlat = true → ys.all isFlat = true → xs.map keyD = ys.map keyD → xs = ys
  | [], [], _, _, _ => rfl
  | [], _ :: _, _, _, e => by simp at e
  | _ :: _, [], _, _, e => by simp at e
  | x :: xs, y :: ys, h1, h2, e => by
    simp only [List.all_cons, Bool.and_eq_true] at h1 h2
    simp only [List.map_cons, List.cons.injEq] at e
    rw [keyD_inj h1.1 h2.1 e.1, keys_inj h1.2 h2.2 e.2]
theorem keysD_inj {a b : D} (ha : isTupK a = true) (hb : isTupK b = true) (e : keysD a = keysD b) : a = b := by
  cases a <;> cases b <;> simp_all [isTupK, keysD]
  exact keys_inj (by simpa using ha) (by simpa using hb) e
theorem rep_key {k : D} {v : V} {K : PySem.W.Frag} (f : isFlat k = true) (h : RepD K H k v) : v = kV (keyD k) := by
  cases k with
  | int i => exact rep_int h
  | str s => exact (rep_str h).1
  | _ => cases f
theorem rep_flat {k : D} {v : V} {K : PySem.W.Frag} {H1 : Hp} (f : isFlat k = true) (h : RepD K H k v) : RepD K H1 k v := by
  cases k with
  | int i => simpa only [RepD] using h
  | str s => simpa only [RepD] using h
  | _ => cases f
theorem rep_keys {K : PySem.W.Frag} : ∀ {ds : List D} {vs : List V}, ds.all isFlat = true → RepL K H ds vs → vs = (ds.map keyD).map kV ∧ ds.all okF = true
  | [], vs, _, h => ⟨h.nil_inv, rfl⟩
  | d :: ds, vs, f, h => by
    obtain ⟨v, r, rfl, h1, h2⟩ := h.cons_inv
    simp only [List.all_cons, Bool.and_eq_true] at f
    obtain ⟨e, o⟩ := rep_keys f.2 h2
    refine ⟨by rw [rep_key f.1 h1, e]; rfl, ?_⟩
    rw [List.all_cons, o, Bool.and_true]
    cases d with
    | int i => rfl
    | str s => exact (rep_str h1).2
    | _ => cases f.1
theorem get_KK : ∀ {kvs : List (D × D)} {ws : List (Key × V)} {k : D}, isFlat k = true → RepKK G H kvs ws → (∀ d, dget kvs k = some d → ∃ v, valV ws (keyD k) = some v ∧ RepD G.K H d v) ∧ (dget kvs k = none → valV ws (keyD k) = none)
  | [], ws, k, f, h => by
    have e : ws = [] := h
    subst e
    exact ⟨fun d e => by simp [dget] at e, fun _ => rfl⟩
  | (j, x) :: r, _, k, f, h => by
    obtain ⟨v, q, rfl, h0, h3, h1, h2⟩ := h
    obtain ⟨a, b⟩ := get_KK f h2
    by_cases z : j = k
    · subst z
      refine ⟨fun d e => ⟨v, valV_pos rfl, ?_⟩, fun e => by simp [dget] at e⟩
      have : x = d := by simpa [dget] using e
      subst this; exact h1
    · have zz : ¬ keyD j = keyD k := fun e => z (keyD_inj h0 f e)
      have e1 : dget ((j, x) :: r) k = dget r k := by simp [dget, List.find?_cons, z]
      have e2 : valV ((keyD j, v) :: q) (keyD k) = valV q (keyD k) := valV_neg zz
      rw [e1, e2]; exact ⟨a, b⟩
theorem get_KT : ∀ {kvs : List (D × D)} {ws : List (List Key × V)} {k : D}, isTupK k = true → RepKT G H kvs ws → (∀ d, dget kvs k = some d → ∃ v, valV ws (keysD k) = some v ∧ RepD G.K H d v) ∧ (dget kvs k = none → valV ws (keysD k) = none)
  | [], ws, k, f, h => by
    have e : ws = [] := h
    subst e
    exact ⟨fun d e => by simp [dget] at e, fun _ => rfl⟩
  | (j, x) :: r, _, k, f, h => by
    obtain ⟨v, q, rfl, h0, h3, h1, h2⟩ := h
    obtain ⟨a, b⟩ := get_KT f h2
    by_cases z : j = k
    · subst z
      refine ⟨fun d e => ⟨v, valV_pos rfl, ?_⟩, fun e => by simp [dget] at e⟩
      have : x = d := by simpa [dget] using e
      subst this; exact h1
    · have zz : ¬ keysD j = keysD k := fun e => z (keysD_inj h0 f e)
      have e1 : dget ((j, x) :: r) k = dget r k := by simp [dget, List.find?_cons, z]
      have e2 : valV ((keysD j, v) :: q) (keysD k) = valV q (keysD k) := valV_neg zz
      rw [e1, e2]; exact ⟨a, b⟩
theorem dget_rep {a : Addr} {t : Bool} {kvs : List (D × D)} {k : D} {y : V} (rs : RelS G S H) (e : S a = some (.dct t kvs)) (f : fitsK t k = true) (r : RepD G.K H k y) :
    ∃ o, DGet H a y o ∧ (∀ d, dget kvs k = some d → ∃ v, o = some v ∧ RepD G.K H d v) ∧ (dget kvs k = none → o = none) := by
  have c := rs a _ e
  cases t with
  | false =>
    obtain ⟨ws, h1, h2⟩ := c
    have f' : isFlat k = true := f
    obtain ⟨g1, g2⟩ := get_KK f' h2
    rw [rep_key f' r]
    exact ⟨_, DGet.k h1, fun d e => let ⟨v, h, h'⟩ := g1 d e; ⟨v, h, h'⟩, g2⟩
  | true =>
    obtain ⟨ws, h1, h2⟩ := c
    have f' : isTupK k = true := f
    obtain ⟨g1, g2⟩ := get_KT f' h2
    cases k with
    | tup ds =>
      obtain ⟨b, vs, rfl, t1, r1⟩ := rep_tup r
      obtain ⟨e1, _⟩ := rep_keys (by simpa [isTupK] using f') r1
      exact ⟨_, DGet.t h1 (by rw [t1, e1]; rfl), fun d e => let ⟨v, h, h'⟩ := g1 d e; ⟨v, h, h'⟩, g2⟩
    | _ => cases f'
end

/-! ### in, not in -/
def InV (G : Gx) (f : Bool → Bool) : R2 := fun x y H VQ => ∃ d e S Q, RepD G.K H d x ∧ RepD G.K H e y ∧ RelS G S H ∧ wpIn d e S Q ∧ ∀ b, Q b → VQ (.bl (f b)) H
section
variable {X : Cx} {G : Gx}
theorem okD_sh {K : PySem.W.Frag} {H : Hp} {ds : List D} {vs : List V} (h : okL ds = true) (r : RepL K H ds vs) : SeqAt.shaped (.list (toPDL ds)) = true := shaped_okL h r
theorem in_split {d e : D} {S : Store} {Q : Bool → Prop} {x y : V} {H : Hp} (rd : RepD G.K H d x) (re : RepD G.K H e y) (rs : RelS G S H) (w : wpIn d e S Q) :
    (∃ p ds, Dp G.K H x p ∧ (Dp G.K H y (.list ds) ∨ Dp G.K H y (.tuple ds)) ∧ SeqAt.shaped p = true ∧ SeqAt.shaped (.list ds) = true ∧ Q (ds.any fun z => PyData.eqv z p)) ∨
    (∃ (c : Nat) (z : Str), x = .str ⟨#[c]⟩ ∧ y = .str z ∧ Q (decide (c ∈ z.cps.toList))) ∨ ∃ a o, y = .ref a ∧ DGet H a x o ∧ Q o.isSome := by
  cases e with
  | str t =>
    obtain ⟨rfl, _⟩ := rep_str re
    cases d with
    | str s =>
      obtain ⟨rfl, _⟩ := rep_str rd
      match s, w with
      | [c], w => exact .inr (.inl ⟨c, _, rfl, rfl, by simpa [wpIn] using w⟩)
    | _ => exact w.elim
  | tup ds =>
    obtain ⟨a, vs, rfl, t1, r1⟩ := rep_tup re
    refine .inl ⟨toPD d, toPDL ds, okD_dp w.1.1 rd, .inr ?_, shaped_ok w.1.1 rd, shaped_okL w.1.2 r1, by rw [← any_eqD]; exact w.2⟩
    have := w.1.2
    unfold okL at this
    simp only [Bool.and_eq_true] at this
    exact .tup (SqT.of t1) (repDpL ds vs this.1 r1)
  | ktu ds =>
    obtain ⟨a, vs, rfl, t1, r1⟩ := rep_ktu re
    refine .inl ⟨toPD d, toPDL ds, okD_dp w.1.1 rd, .inr ?_, shaped_ok w.1.1 rd, shaped_okL w.1.2 r1, by rw [← any_eqD]; exact w.2⟩
    have := w.1.2
    unfold okL at this
    simp only [Bool.and_eq_true] at this
    exact .tup (t1 H) (repDpL ds vs this.1 r1)
  | ref b =>
    cases rep_ref re
    cases e1 : S b with
    | none => simp only [wpIn, e1] at w
    | some c =>
      cases c with
      | lst ys =>
        simp only [wpIn, e1] at w
        obtain ⟨vs, h1, r1⟩ := lst_get rs e1
        exact .inl ⟨toPD d, toPDL ys, okD_dp w.1.1 rd, .inl (okL_dp w.1.2 (SqL.of h1) r1), shaped_ok w.1.1 rd, shaped_okL w.1.2 r1, by rw [← any_eqD]; exact w.2⟩
      | dct t kvs =>
        simp only [wpIn, e1] at w
        obtain ⟨o, g, g1, g2⟩ := dget_rep rs e1 w.1 rd
        refine .inr (.inr ⟨b, o, rfl, g, ?_⟩)
        have : o.isSome = (dget kvs d).isSome := by
          cases e2 : dget kvs d with
          | none => rw [g2 e2] <;> rfl
          | some z => obtain ⟨v, h, _⟩ := g1 z e2; rw [h]; rfl
        rw [this]; exact w.2
      | ins C fs => simp only [wpIn, e1] at w
  | _ => exact w.elim
theorem in_ok (hK : X.K = G.K) (hu : X.A.units + 65 < cLine) : OpR X (compareOp .In) (InV G id) := by
  intro pins s τ H x y v u VQ I rx ry ⟨d, e, S, Q, rd, re, rs, w, q⟩
  rcases in_split rd re rs w with ⟨p, ds, h1, h2 | h2, h3, h4, h5⟩ | ⟨c, z, rfl, rfl, h5⟩ | ⟨a, o, rfl, g, h5⟩
  · exact op_inD hu pins s τ H x y v u VQ I rx ry ⟨p, ds, by rw [hK]; exact h1, by rw [hK]; exact h2, h3, h4, q _ h5⟩
  · exact op_inDT hu pins s τ H x y v u VQ I rx ry ⟨p, ds, by rw [hK]; exact h1, by rw [hK]; exact h2, h3, h4, q _ h5⟩
  · exact op_in_sign pins s τ H _ _ v u VQ I rx ry ⟨c, z, rfl, rfl, q _ h5⟩
  · cases (show u = Value.ref a from ry)
    exact d_in (by omega) I g rx fun s' I' => ⟨.bl o.isSome, H, I', rfl, q _ h5⟩
theorem notIn_ok (hK : X.K = G.K) (hu : X.A.units + 65 < cLine) : OpR X (compareOp .NotIn) (InV G (fun b => !b)) := by
  intro pins s τ H x y v u VQ I rx ry ⟨d, e, S, Q, rd, re, rs, w, q⟩
  rcases in_split rd re rs w with ⟨p, ds, h1, h2 | h2, h3, h4, h5⟩ | ⟨c, z, rfl, rfl, h5⟩ | ⟨a, o, rfl, g, h5⟩
  · exact op_notInD hu pins s τ H x y v u VQ I rx ry ⟨p, ds, by rw [hK]; exact h1, by rw [hK]; exact h2, h3, h4, q _ h5⟩
  · exact op_notInDT hu pins s τ H x y v u VQ I rx ry ⟨p, ds, by rw [hK]; exact h1, by rw [hK]; exact h2, h3, h4, q _ h5⟩
  · exact op_notIn_sign pins s τ H _ _ v u VQ I rx ry ⟨c, z, rfl, rfl, q _ h5⟩
  · cases (show u = Value.ref a from ry)
    exact d_notIn (by omega) I g rx fun s' I' => ⟨.bl (!o.isSome), H, I', rfl, q _ h5⟩
/-! ### all comparisons -/
def CmpV (G : Gx) (o : Cop) : R2 := fun x y H VQ => ∃ d e S Q, RepD G.K H d x ∧ RepD G.K H e y ∧ RelS G S H ∧ wpCmp o d e S Q ∧ ∀ b, Q b → VQ (.bl b) H
def copOf : Cop → CmpOp
  | .eq => .Eq
  | .ne => .NotEq
  | .lt => .Lt
  | .le => .LtE
  | .gt => .Gt
  | .ge => .GtE
  | .is => .Is
  | .isn => .IsNot
  | .in_ => .In
  | .nin => .NotIn
theorem op_ltB : OpR X (compareOp .Lt) (fun x y H Q => ∃ a b, x = .bl a ∧ y = .bl b ∧ Q (.bl (!a && b)) H) := by
  intro pins s τ H x y v u Q I rx ry ⟨a, b, ea, eb, q⟩
  subst ea; subst eb
  cases (show v = Value.bool a from rx)
  cases (show u = Value.bool b from ry)
  refine PyProof.Rows.lt_bool ⟨.bl (!a && b), H, I, ?_, q⟩
  cases a <;> cases b <;> rfl
theorem is_oth {x : V} {b : Bool} {v : Value} (h : RelV x v) (n : ∀ c, x ≠ .bl c) : v ≠ Value.bool b := by
  intro e
  subst e
  cases x with
  | bl c => exact n c rfl
  | non => cases h
  | int _ => obtain ⟨t, z⟩ := h; cases z
  | str _ => obtain ⟨t, z⟩ := h; cases z
  | byt _ => obtain ⟨t, z⟩ := h; cases z
  | flt _ => obtain ⟨t, z⟩ := h; cases z
  | ref _ => cases h
  | ty _ => cases h
theorem cmp_ok (o : Cop) (hK : X.K = G.K) (hu : X.A.units + 65 < cLine) : OpR X (compareOp (copOf o)) (CmpV G o) := by
  intro pins s τ H x y v u VQ I rx ry ⟨d, e, S, Q, rd, re, rs, w, q⟩
  cases o with
  | eq => exact eq_ok hK (by omega) pins s τ H x y v u VQ I rx ry ⟨d, e, S, Q, rd, re, rs, w, q⟩
  | ne => exact ne_ok hK (by omega) pins s τ H x y v u VQ I rx ry ⟨d, e, S, fun b => Q (!b), rd, re, rs, w, fun b h => q _ h⟩
  | in_ => exact in_ok hK hu pins s τ H x y v u VQ I rx ry ⟨d, e, S, Q, rd, re, rs, w, q⟩
  | nin => exact notIn_ok hK hu pins s τ H x y v u VQ I rx ry ⟨d, e, S, fun b => Q (!b), rd, re, rs, w, fun b h => q _ h⟩
  | lt =>
    cases d with
    | int i =>
      cases e with
      | int j => cases rep_int rd; cases rep_int re; exact op_lt pins s τ H _ _ v u VQ I rx ry ⟨i, j, rfl, rfl, q _ w⟩
      | _ => exact w.elim
    | str a =>
      cases e with
      | str b =>
        obtain ⟨rfl, _⟩ := rep_str rd
        obtain ⟨rfl, _⟩ := rep_str re
        exact op_lt_str pins s τ H _ _ v u VQ I rx ry ⟨_, _, rfl, rfl, q _ w⟩
      | _ => exact w.elim
    | bl a =>
      cases e with
      | bl b => cases rep_bl rd; cases rep_bl re; exact op_ltB pins s τ H _ _ v u VQ I rx ry ⟨a, b, rfl, rfl, q _ w⟩
      | _ => exact w.elim
    | _ => exact w.elim
  | le =>
    cases d with
    | int i =>
      cases e with
      | int j => cases rep_int rd; cases rep_int re; exact op_le pins s τ H _ _ v u VQ I rx ry ⟨i, j, rfl, rfl, q _ w⟩
      | _ => exact w.elim
    | str a =>
      cases e with
      | str b =>
        obtain ⟨rfl, _⟩ := rep_str rd
        obtain ⟨rfl, _⟩ := rep_str re
        refine op_le_str pins s τ H _ _ v u VQ I rx ry ⟨_, _, rfl, rfl, q _ ?_⟩
        have w' : Q (decide (a ≤ b)) := w
        have : (!decide (b < a)) = decide (a ≤ b) := by
          rw [← decide_not]; congr 1
        rw [this]; exact w'
      | _ => exact w.elim
    | _ => exact w.elim
  | gt =>
    cases d with
    | int i =>
      cases e with
      | int j => cases rep_int rd; cases rep_int re; exact op_gt pins s τ H _ _ v u VQ I rx ry ⟨i, j, rfl, rfl, q _ w⟩
      | _ => exact w.elim
    | str a =>
      cases e with
      | str b =>
        obtain ⟨rfl, _⟩ := rep_str rd
        obtain ⟨rfl, _⟩ := rep_str re
        exact op_gt_str pins s τ H _ _ v u VQ I rx ry ⟨_, _, rfl, rfl, q _ w⟩
      | _ => exact w.elim
    | _ => exact w.elim
  | ge =>
    cases d with
    | int i =>
      cases e with
      | int j => cases rep_int rd; cases rep_int re; exact op_ge pins s τ H _ _ v u VQ I rx ry ⟨i, j, rfl, rfl, q _ w⟩
      | _ => exact w.elim
    | str a =>
      cases e with
      | str b =>
        obtain ⟨rfl, _⟩ := rep_str rd
        obtain ⟨rfl, _⟩ := rep_str re
        refine op_ge_str pins s τ H _ _ v u VQ I rx ry ⟨_, _, rfl, rfl, q _ ?_⟩
        have w' : Q (decide (b ≤ a)) := w
        have : (!decide (a < b)) = decide (b ≤ a) := by
          rw [← decide_not]; congr 1
        rw [this]; exact w'
      | _ => exact w.elim
    | _ => exact w.elim
  | is =>
    cases e with
    | non =>
      cases rep_non re
      refine op_isN pins s τ H _ _ v u VQ I rx ry ⟨rfl, ?_⟩
      have w' : Q (decide (d = .non)) := w
      have : decide (x = V.non) = decide (d = .non) := by
        cases d <;> simp only [RepD] at rd
        all_goals first
          | (subst rd; simp)
          | (obtain ⟨rfl, _⟩ := rd; simp)
          | (obtain ⟨_, _, rfl, _⟩ := rd; simp)
      rw [this]; exact q _ w'
    | bl c =>
      cases rep_bl re
      have w' : isSc d = true ∧ Q (decide (d = .bl c)) := w
      have ru := ry
      cases (show u = Value.bool c from ry)
      cases d with
      | bl a =>
        cases rep_bl rd
        refine op_isBl pins s τ H _ _ v _ VQ I rx ru ⟨a, c, rfl, rfl, ?_⟩
        have : decide (a = c) = decide (D.bl a = .bl c) := by simp
        rw [this]; exact q _ w'.2
      | non =>
        cases rep_non rd
        cases (show v = Value.none from rx)
        exact wpAny_is_other rfl (is_oth rx (by simp)) ⟨.bl false, H, I, rfl, by simpa using q _ w'.2⟩
      | int i =>
        cases rep_int rd
        obtain ⟨tk, rfl⟩ := id rx
        exact wpAny_is_other rfl (is_oth rx (by simp)) ⟨.bl false, H, I, rfl, by simpa using q _ w'.2⟩
      | str a =>
        obtain ⟨rfl, _⟩ := rep_str rd
        obtain ⟨tk, rfl⟩ := id rx
        exact wpAny_is_other rfl (is_oth rx (by simp)) ⟨.bl false, H, I, rfl, by simpa using q _ w'.2⟩
      | _ => cases w'.1
    | _ => exact w.elim
  | isn =>
    cases e with
    | non =>
      cases rep_non re
      refine op_notN pins s τ H _ _ v u VQ I rx ry ⟨rfl, ?_⟩
      have w' : Q (!decide (d = .non)) := w
      have : decide (x = V.non) = decide (d = .non) := by
        cases d <;> simp only [RepD] at rd
        all_goals first
          | (subst rd; simp)
          | (obtain ⟨rfl, _⟩ := rd; simp)
          | (obtain ⟨_, _, rfl, _⟩ := rd; simp)
      rw [this]; exact q _ w'
    | bl c =>
      cases rep_bl re
      have w' : isSc d = true ∧ Q (!decide (d = .bl c)) := w
      have ru := ry
      cases (show u = Value.bool c from ry)
      cases d with
      | bl a =>
        cases rep_bl rd
        refine op_notBl pins s τ H _ _ v _ VQ I rx ru ⟨a, c, rfl, rfl, ?_⟩
        have : decide (a = c) = decide (D.bl a = .bl c) := by simp
        rw [this]; exact q _ w'.2
      | non =>
        cases rep_non rd
        cases (show v = Value.none from rx)
        exact wpAny_isNot_other rfl (is_oth rx (by simp)) ⟨.bl true, H, I, rfl, by simpa using q _ w'.2⟩
      | int i =>
        cases rep_int rd
        obtain ⟨tk, rfl⟩ := id rx
        exact wpAny_isNot_other rfl (is_oth rx (by simp)) ⟨.bl true, H, I, rfl, by simpa using q _ w'.2⟩
      | str a =>
        obtain ⟨rfl, _⟩ := rep_str rd
        obtain ⟨tk, rfl⟩ := id rx
        exact wpAny_isNot_other rfl (is_oth rx (by simp)) ⟨.bl true, H, I, rfl, by simpa using q _ w'.2⟩
      | _ => cases w'.1
    | _ => exact w.elim
end
end Fv

set_option Elab.async false
set_option linter.all false
set_option maxRecDepth 100000
set_option maxHeartbeats 4000000
/-! Truth, subscripts, slices, built-ins by values. -/
namespace Fv
open PySem PySem.Spec PyProof.Rows L2
section
variable {X : Cx} {G : Gx}
/-! ### truth -/
theorem tru_rep {K : PySem.W.Frag} (hK : G.K = K) {d : D} {S : Store} {Q : Bool → Prop} {x : V} {H : Hp} (rd : RepD G.K H d x) (rs : RelS G S H) (w : wpTru d S Q) : ∃ k, TruV K x H k ∧ Q k := by
  subst hK
  have bne : ∀ {α : Type} (l : List α), decide (l ≠ []) = !l.isEmpty := fun l => by cases l <;> simp
  have emp : ∀ {ds : List D} {vs : List V}, RepL G.K H ds vs → (!vs.isEmpty) = !ds.isEmpty := fun {ds vs} r => by
    have := r.len
    cases ds <;> cases vs <;> simp_all
  cases d with
  | non => cases rep_non rd; exact ⟨false, rfl, w⟩
  | bl b => cases rep_bl rd; exact ⟨b, rfl, w⟩
  | int i =>
    cases rep_int rd
    refine ⟨decide (i ≠ 0), ?_, w⟩
    show decide (i ≠ 0) = (i != 0)
    by_cases z : i = 0 <;> simp [z]
  | str s =>
    obtain ⟨rfl, _⟩ := rep_str rd
    refine ⟨decide (s ≠ []), ⟨LIM_le (by simpa [Str.length] using w.1), ?_⟩, w.2⟩
    cases s <;> simp [Str.length]
    omega
  | tup ds =>
    obtain ⟨a, vs, rfl, t, r⟩ := rep_tup rd
    exact ⟨decide (ds ≠ []), .inr (.inl ⟨vs, SqT.of t, by rw [bne, emp r]⟩), w⟩
  | ktu ds =>
    obtain ⟨a, vs, rfl, t, r⟩ := rep_ktu rd
    exact ⟨decide (ds ≠ []), .inr (.inl ⟨vs, t H, by rw [bne, emp r]⟩), w⟩
  | ref a =>
    cases rep_ref rd
    cases e : S a with
    | none => simp only [wpTru, e] at w
    | some c =>
      cases c with
      | lst ds =>
        simp only [wpTru, e] at w
        obtain ⟨vs, h1, r1⟩ := lst_get rs e
        exact ⟨decide (ds ≠ []), .inl ⟨vs, SqL.of h1, by rw [bne, emp r1]⟩, w⟩
      | _ => simp only [wpTru, e] at w
  | _ => exact w.elim

/-! ### subscripts -/
def IdxV (G : Gx) : R2 := fun x y H VQ => ∃ d e S Q, RepD G.K H d x ∧ RepD G.K H e y ∧ RelS G S H ∧ wpIdx d e S Q ∧ QOk G H Q VQ
theorem atI_rep {K : PySem.W.Frag} {H : Hp} {ds : List D} {vs : List V} {i : Int} {d : D} (r : RepL K H ds vs) (h : L2.atI ds i = some d) : ∃ v, L2.atI vs i = some v ∧ RepD K H d v := by
  unfold L2.atI at h ⊢
  rw [r.len] at h
  cases e : L2.ixN vs.length i with
  | none => rw [e] at h; cases h
  | some j =>
    rw [e] at h
    exact r.get h
theorem idx_ok (hK : X.K = G.K) (hu : X.A.units + 1 < cLine) : IxR X (IdxV G) := by
  intro value slice pins s τ H x y v u VQ I rx ry ⟨d, e, S, Q, rd, re, rs, w, q⟩ hs
  have seqT : ∀ (p : Addr) (vs : List V) (ds : List D) (i : Int), x = .ref p → y = .int i → SqT X.K H p vs → RepL G.K H ds vs → (match L2.atI ds i with | some d => Q d S | none => False) →
      wpAny (model X.prog X.w) X.A (subscriptTail value slice v u) (EP X pins τ VQ) X.xe s := by
    intro p vs ds i ex ey t r w
    cases e1 : L2.atI ds i with
    | none => rw [e1] at w; exact w.elim
    | some z =>
      rw [e1] at w
      obtain ⟨zv, h1, h2⟩ := atI_rep r e1
      exact ix_tup value slice pins s τ H x y v u VQ I rx ry ⟨p, vs, i, zv, ex, ey, t, h1, q.here rs h2 w⟩ hs
  have seqL : ∀ (p : Addr) (vs : List V) (ds : List D) (i : Int), x = .ref p → y = .int i → SqL X.K H p vs → RepL G.K H ds vs → (match L2.atI ds i with | some d => Q d S | none => False) →
      wpAny (model X.prog X.w) X.A (subscriptTail value slice v u) (EP X pins τ VQ) X.xe s := by
    intro p vs ds i ex ey t r w
    cases e1 : L2.atI ds i with
    | none => rw [e1] at w; exact w.elim
    | some z =>
      rw [e1] at w
      obtain ⟨zv, h1, h2⟩ := atI_rep r e1
      exact ix_list value slice pins s τ H x y v u VQ I rx ry ⟨p, vs, i, zv, ex, ey, t, h1, q.here rs h2 w⟩ hs
  cases d with
  | tup ds =>
    cases e with
    | int i =>
      obtain ⟨p, vs, ex, t, r⟩ := rep_tup rd
      exact seqT p vs ds i ex (rep_int re) (SqT.of t) r w
    | _ => exact w.elim
  | ktu ds =>
    cases e with
    | int i =>
      obtain ⟨p, vs, ex, t, r⟩ := rep_ktu rd
      exact seqT p vs ds i ex (rep_int re) (by rw [hK]; exact t H) r w
    | _ => exact w.elim
  | rl ds =>
    cases e with
    | int i =>
      obtain ⟨p, vs, ex, t, r⟩ := rep_rl rd
      exact seqL p vs ds i ex (rep_int re) (by rw [hK]; exact t.seq) r w
    | _ => exact w.elim
  | str t =>
    cases e with
    | int i =>
      obtain ⟨ex, hv⟩ := rep_str rd
      have ey := rep_int re
      cases e1 : L2.atI t i with
      | none => simp only [wpIdx, e1] at w
      | some c =>
        simp only [wpIdx, e1] at w
        have hc : okS [c] = true := by
          unfold L2.atI at e1
          cases e2 : L2.ixN t.length i with
          | none => rw [e2] at e1; cases e1
          | some j =>
            rw [e2] at e1
            have hm : c ∈ t := List.mem_of_getElem? e1
            unfold okS at hv ⊢
            have := List.all_eq_true.mp hv c hm
            simpa using this
        have qq : VQ (.str ⟨#[c]⟩) H := q.here rs (v := .str ⟨[c].toArray⟩) (mk_str hc) w.2
        exact ix_str value slice pins s τ H x y v u VQ I rx ry ⟨⟨t.toArray⟩, i, c, ex, ey, LIM_le (by simpa [Str.length] using w.1), by simpa using e1, qq⟩ hs
    | _ => exact w.elim
  | ref a =>
    have ex := rep_ref rd
    cases e1 : S a with
    | none => simp only [wpIdx, e1] at w
    | some c =>
      cases c with
      | lst ds =>
        cases e with
        | int i =>
          simp only [wpIdx, e1] at w
          obtain ⟨vs, h1, r1⟩ := lst_get rs e1
          exact seqL a vs ds i ex (rep_int re) (SqL.of h1) r1 w
        | _ => simp only [wpIdx, e1] at w
      | dct t kvs =>
        simp only [wpIdx, e1] at w
        obtain ⟨o, g, g1, g2⟩ := dget_rep rs e1 w.1 re
        cases e2 : dget kvs e with
        | none => rw [e2] at w; exact w.2.elim
        | some z =>
          rw [e2] at w
          obtain ⟨zv, rfl, h2⟩ := g1 z e2
          subst ex
          cases (show v = Value.ref a from rx)
          exact tail_any (dict_typeIs I g) PySem.F.slot_dict_getitem.lookup (d_getItem hu I g ry fun w' s' I' rw' => ⟨zv, H, I', rw', q.here rs h2 w.2⟩) hs
      | ins C fs => simp only [wpIdx, e1] at w
  | _ => exact w.elim

/-! ### slices -/
def SliV (G : Gx) : V → Option Int → Option Int → Hp → VK → Prop := fun x l h H VQ => ∃ d S Q lo hi, RepD G.K H d x ∧ RelS G S H ∧ partOf lo = some l ∧ partOf hi = some h ∧ wpSli d lo hi S Q ∧ QOk G H Q VQ
theorem okS_sub {a b : List Nat} (h : okS b = true) (s : ∀ c ∈ a, c ∈ b) : okS a = true := by
  unfold okS at *
  exact List.all_eq_true.mpr fun c hc => List.all_eq_true.mp h c (s c hc)
theorem cut_mem {α : Type} {xs : List α} {l h : Option Int} {c : α} (m : c ∈ cutL xs l h) : c ∈ xs := List.mem_of_mem_drop (List.mem_of_mem_take m)
theorem cut_len {α : Type} (xs : List α) (l h : Option Int) : (cutL xs l h).length ≤ xs.length := by
  unfold cutL
  rw [List.length_take, List.length_drop]
  omega
theorem sli_ok (hK : X.K = G.K) : SlR X (SliV G) := by
  intro pins s τ H x v vl vu l h sl VQ I rx hsl pl pu ⟨d, S, Q, lo, hi, rd, rs, e1, e2, w, q⟩
  simp only [wpSli, e1, e2] at w
  cases d with
  | tup ds =>
    obtain ⟨p, vs, ex, t, r⟩ := rep_tup rd
    have rc := r.cut l h
    refine sl_tupA pins s τ H x v vl vu l h sl VQ I rx hsl pl pu ⟨p, vs, ex, SqT.of t, fun z => ?_, fun _ p0 n => q.tup rs rc w n⟩
    have e3 : cutV vs l h = vs := by
      unfold cutV
      rw [z.1, z.2]
      simp
    rw [e3] at rc
    exact q.here rs (mk_tup t rc) w
  | str t =>
    obtain ⟨ex, hv⟩ := rep_str rd
    refine sl_str pins s τ H x v vl vu l h sl VQ I rx hsl pl pu ⟨⟨t.toArray⟩, ex, LIM_le (by simpa [Str.length] using w.1), ?_⟩
    have e3 : cutS ⟨t.toArray⟩ l h = ⟨(cutL t l h).toArray⟩ := by
      unfold cutS cutL
      simp [Str.length]
    rw [e3]
    exact q.here rs (mk_str (okS_sub hv fun c hc => cut_mem hc)) w.2
  | ref a =>
    have ex := rep_ref rd
    cases e3 : S a with
    | none => simp only [e3] at w
    | some c =>
      cases c with
      | lst ds =>
        simp only [e3] at w
        obtain ⟨vs, h1, r1⟩ := lst_get rs e3
        exact sl_list pins s τ H x v vl vu l h sl VQ I rx hsl pl pu ⟨a, vs, ex, SqL.of h1, fun p n => q.lst rs (r1.cut l h) w n⟩
      | _ => simp only [e3] at w
  | _ => exact w.elim
end
end Fv

set_option Elab.async false
set_option linter.all false
set_option maxRecDepth 100000
set_option maxHeartbeats 4000000
/-! Built-in functions and methods by values. -/
namespace Fv
open PySem PySem.Spec PyProof.Rows L2
section
variable {X : Cx} {G : Gx}
def BltV (G : Gx) (b : Nat) : List V → Hp → VK → Prop := fun vs H VQ => ∃ ds S Q, RepL G.K H ds vs ∧ RelS G S H ∧ wpBlt b ds S Q ∧ QOk G H Q VQ
theorem one_inv {K : PySem.W.Frag} {H : Hp} {d : D} {vs : List V} (r : RepL K H [d] vs) : ∃ v, vs = [v] ∧ RepD K H d v := by
  obtain ⟨v, q, rfl, h1, h2⟩ := r.cons_inv
  rw [h2.nil_inv]; exact ⟨v, rfl, h1⟩
theorem two_inv {K : PySem.W.Frag} {H : Hp} {d e : D} {vs : List V} (r : RepL K H [d, e] vs) : ∃ v u, vs = [v, u] ∧ RepD K H d v ∧ RepD K H e u := by
  obtain ⟨v, q, rfl, h1, h2⟩ := r.cons_inv
  obtain ⟨u, rfl, h3⟩ := one_inv h2
  exact ⟨v, u, rfl, h1, h3⟩
theorem blt0 (hK : X.K = G.K) : CallR X (.builtin "len") (BltV G 0) := by
  intro pins s τ H xs us VQ I rv ⟨ds, S, Q, r, rs, w, q⟩
  match ds, w with
  | [d], w =>
    obtain ⟨v, rfl, rd⟩ := one_inv r
    cases d with
    | str t =>
      obtain ⟨rfl, _⟩ := rep_str rd
      have e : ((⟨t.toArray⟩ : Str).length : Int) = (t.length : Int) := by simp [Str.length]
      exact call_len_str pins s τ H _ us VQ I rv ⟨_, rfl, LIM_le (by simpa [Str.length] using w.1), by rw [e]; exact q.here rs mk_int w.2⟩
    | tup xs =>
      obtain ⟨p, vs, rfl, t, r2⟩ := rep_tup rd
      exact call_len_seq pins s τ H _ us VQ I rv ⟨p, vs, rfl, .inr (SqT.of t), by rw [← r2.len]; exact q.here rs mk_int w⟩
    | ktu xs =>
      obtain ⟨p, vs, rfl, t, r2⟩ := rep_ktu rd
      exact call_len_seq pins s τ H _ us VQ I rv ⟨p, vs, rfl, .inr (by rw [hK]; exact t H), by rw [← r2.len]; exact q.here rs mk_int w⟩
    | rl xs =>
      obtain ⟨p, vs, rfl, t, r2⟩ := rep_rl rd
      exact call_len_seq pins s τ H _ us VQ I rv ⟨p, vs, rfl, .inl (by rw [hK]; exact t.seq), by rw [← r2.len]; exact q.here rs mk_int w⟩
    | ref a =>
      cases rep_ref rd
      cases e1 : S a with
      | none => simp only [wpBlt, e1] at w
      | some c =>
        cases c with
        | lst xs =>
          simp only [wpBlt, e1] at w
          obtain ⟨vs, h1, r2⟩ := lst_get rs e1
          exact call_len_seq pins s τ H _ us VQ I rv ⟨a, vs, rfl, .inl (SqL.of h1), by rw [← r2.len]; exact q.here rs mk_int w⟩
        | dct t kvs =>
          simp only [wpBlt, e1] at w
          have c := rs a _ e1
          cases t with
          | true =>
            obtain ⟨ws, h1, h2⟩ := c
            have hl : ∀ {kvs : List (D × D)} {ws : List (List Key × V)}, RepKT G H kvs ws → kvs.length = ws.length := by
              intro kvs
              induction kvs with
              | nil => intro ws h; rw [show ws = [] from h] <;> rfl
              | cons p r ih => intro ws h; obtain ⟨v, q, rfl, _, _, _, h2⟩ := h; simp [ih h2]
            exact call_len_dT pins s τ H _ us VQ I rv ⟨a, ws, rfl, h1, by rw [← hl h2]; exact q.here rs mk_int w⟩
          | false =>
            obtain ⟨ws, h1, h2⟩ := c
            have hl : ∀ {kvs : List (D × D)} {ws : List (Key × V)}, RepKK G H kvs ws → kvs.length = ws.length := by
              intro kvs
              induction kvs with
              | nil => intro ws h; rw [show ws = [] from h] <;> rfl
              | cons p r ih => intro ws h; obtain ⟨v, q, rfl, _, _, _, h2⟩ := h; simp [ih h2]
            exact call_lenD pins s τ H _ us VQ I rv ⟨a, ws, rfl, h1, by rw [← hl h2]; exact q.here rs mk_int w⟩
        | ins C fs => simp only [wpBlt, e1] at w
    | _ => exact w.elim
theorem blt1 : CallR X (.type "int") (BltV G 1) := by
  intro pins s τ H xs us VQ I rv ⟨ds, S, Q, r, rs, w, q⟩
  match ds, w with
  | [d], w =>
    obtain ⟨v, rfl, rd⟩ := one_inv r
    cases d with
    | int i => cases rep_int rd; exact call_int1 pins s τ H _ us VQ I rv (.inl ⟨i, rfl, q.here rs mk_int w⟩)
    | bl b => cases rep_bl rd; exact call_int1 pins s τ H _ us VQ I rv (.inr ⟨b, rfl, q.here rs mk_int w⟩)
    | _ => exact w.elim
theorem blt2 (hK : X.K = G.K) (hu : X.A.units + 65 < cLine) (hg : X.A.guards = some []) : CallR X (.builtin "repr") (BltV G 2) := by
  intro pins s τ H xs us VQ I rv ⟨ds, S, Q, r, rs, w, q⟩
  have go : ∀ (a : Addr) (d : PyData), us = [Value.ref a] → Dp G.K H (.ref a) d → SeqAt.shaped d = true → PyData.showable d = true → (PyData.shown d).length ≤ LIM → d.depth ≤ 41 → d.hasDict = false →
      Q (.rtx (PyData.shown d).cps.toList) S → wpAny (model X.prog X.w) X.A (call (.builtin "repr") us) (EP X pins τ VQ) X.xe s := by
    intro a d eu hd sh sw hz hdep nd hq
    subst eu
    obtain ⟨as, rr⟩ := Dp.reads I d (.ref a) (.ref a) (by rw [hK]; exact hd) rfl
    refine repr_of_reads' rr sw (PyData.noDict_hsm nd) hg (by omega) (fun _ _ e => e) (fun h' u tk hk => ?_) (LIM_le hz)
    refine ⟨.str (PyData.shown d), H, I.kept (t' := tk) hk, ⟨u, rfl⟩, ?_⟩
    have := q.here rs (v := .str ⟨(PyData.shown d).cps.toList.toArray⟩) (by simp only [RepD]) hq
    simpa using this
  match ds, w with
  | [d], w =>
    obtain ⟨v, rfl, rd⟩ := one_inv r
    obtain ⟨u, rfl, ru⟩ := Vals.one rv
    cases d with
    | tup xs =>
      obtain ⟨⟨w1, w2, w3⟩, w4⟩ : (okD (.tup xs) = true ∧ PyData.showable (toPD (.tup xs)) = true ∧ (repD (.tup xs)).length ≤ LIM) ∧ Q (.rtx (repD (.tup xs))) S := w
      have dp := okD_dp w1 rd
      have sh := shaped_ok w1 rd
      obtain ⟨p, vs, rfl, t, r2⟩ := rep_tup rd
      cases (show u = Value.ref p from ru)
      have hdep : (toPD (.tup xs)).depth ≤ 41 := by
        unfold okD at w1
        simp only [Bool.and_eq_true, decide_eq_true_eq] at w1
        have := depth_of (.tup xs)
        omega
      exact go p _ rfl dp sh w2 (by simpa [repD, Str.length] using w3) hdep (PyData.hasDict_of_canLay _ (SeqAt.canLay_of_shaped sh)) w4
    | ref a =>
      cases rep_ref rd
      cases (show u = Value.ref a from ru)
      cases e1 : S a with
      | none => simp only [wpBlt, e1] at w
      | some c =>
        cases c with
        | lst xs =>
          simp only [wpBlt, e1] at w
          obtain ⟨⟨w1, w2, w3⟩, w4⟩ := w
          obtain ⟨vs, h1, r2⟩ := lst_get rs e1
          have sh := shaped_okL w1 r2
          have hdep : (PyData.list (toPDL xs)).depth ≤ 41 := by
            unfold okL at w1
            simp only [Bool.and_eq_true, decide_eq_true_eq] at w1
            have := depth_ofL xs
            simp only [PyData.depth]
            omega
          exact go a _ rfl (okL_dp w1 (SqL.of h1) r2) sh w2 w3 hdep (PyData.hasDict_of_canLay _ (SeqAt.canLay_of_shaped sh)) w4
        | _ => simp only [wpBlt, e1] at w
    | _ => exact w.elim
theorem blt3 (hc : X.calm = true) : CallR X (.builtin "min") (BltV G 3) := by
  intro pins s τ H xs us VQ I rv ⟨ds, S, Q, r, rs, w, q⟩
  match ds, w with
  | [.int i, .int j], w =>
    obtain ⟨v, v', rfl, rd, re⟩ := two_inv r
    cases rep_int rd; cases rep_int re
    exact call_min2 hc pins s τ H _ us VQ I rv ⟨i, j, rfl, q.here rs mk_int w⟩
theorem blt4 (hc : X.calm = true) : CallR X (.builtin "max") (BltV G 4) := by
  intro pins s τ H xs us VQ I rv ⟨ds, S, Q, r, rs, w, q⟩
  match ds, w with
  | [.int i, .int j], w =>
    obtain ⟨v, v', rfl, rd, re⟩ := two_inv r
    cases rep_int rd; cases rep_int re
    exact call_max2 hc pins s τ H _ us VQ I rv ⟨i, j, rfl, q.here rs mk_int w⟩
theorem blt5 : CallR X (.type "list") (BltV G 5) := by
  intro pins s τ H xs us VQ I rv ⟨ds, S, Q, r, rs, w, q⟩
  match ds, w with
  | [d], w =>
    obtain ⟨v, rfl, rd⟩ := one_inv r
    cases d with
    | tup xs =>
      obtain ⟨p, vs, rfl, t, r2⟩ := rep_tup rd
      exact call_list_of pins s τ H _ us VQ I rv ⟨p, vs, rfl, .inr (SqT.of t), fun l n => q.lst rs r2 w n⟩
    | ref a =>
      cases rep_ref rd
      cases e1 : S a with
      | none => simp only [wpBlt, e1] at w
      | some c =>
        cases c with
        | lst xs =>
          simp only [wpBlt, e1] at w
          obtain ⟨vs, h1, r2⟩ := lst_get rs e1
          exact call_list_of pins s τ H _ us VQ I rv ⟨a, vs, rfl, .inl (SqL.of h1), fun l n => q.lst rs r2 w n⟩
        | _ => simp only [wpBlt, e1] at w
    | _ => exact w.elim
theorem blt6 : CallR X (.type "tuple") (BltV G 6) := by
  intro pins s τ H xs us VQ I rv ⟨ds, S, Q, r, rs, w, q⟩
  match ds, w with
  | [d], w =>
    obtain ⟨v, rfl, rd⟩ := one_inv r
    cases d with
    | tup xs =>
      obtain ⟨p, vs, rfl, t, r2⟩ := rep_tup rd
      exact call_tuple_of pins s τ H _ us VQ I rv ⟨p, vs, rfl, .inr ⟨SqT.of t, q.here rs rd w⟩⟩
    | ref a =>
      cases rep_ref rd
      cases e1 : S a with
      | none => simp only [wpBlt, e1] at w
      | some c =>
        cases c with
        | lst xs =>
          simp only [wpBlt, e1] at w
          obtain ⟨vs, h1, r2⟩ := lst_get rs e1
          exact call_tuple_of pins s τ H _ us VQ I rv ⟨a, vs, rfl, .inl ⟨SqL.of h1, fun l n => q.tup rs r2 w n⟩⟩
        | _ => simp only [wpBlt, e1] at w
    | _ => exact w.elim
theorem bools_rep {K : PySem.W.Frag} {H : Hp} : ∀ {ds : List D} {vs : List V} {bs : List Bool}, RepL K H ds vs → boolsOf ds = some bs → vs = bs.map V.bl
  | [], vs, bs, r, e => by
    have : bs = [] := by simpa [boolsOf] using e.symm
    subst this
    exact r.nil_inv
  | d :: ds, vs, bs, r, e => by
    obtain ⟨v, q, rfl, h1, h2⟩ := r.cons_inv
    cases d with
    | bl b =>
      cases e2 : boolsOf ds with
      | none => simp [boolsOf, e2] at e
      | some cs =>
        have : bs = b :: cs := by simpa [boolsOf, e2] using e.symm
        subst this
        rw [rep_bl h1, bools_rep h2 e2]; rfl
    | _ => simp [boolsOf] at e
theorem blt7 (hc : X.calm = true) : CallR X (.builtin "all") (BltV G 7) := by
  intro pins s τ H xs us VQ I rv ⟨ds, S, Q, r, rs, w, q⟩
  match ds, w with
  | [.ref a], w =>
    obtain ⟨v, rfl, rd⟩ := one_inv r
    cases rep_ref rd
    cases e1 : S a with
    | none => simp only [wpBlt, e1] at w
    | some c =>
      cases c with
      | lst xs =>
        simp only [wpBlt, e1] at w
        obtain ⟨vs, h1, r2⟩ := lst_get rs e1
        cases e2 : boolsOf xs with
        | none => rw [e2] at w; exact w.elim
        | some bs =>
          rw [e2] at w
          exact cr_all hc pins s τ H _ us VQ I rv ⟨a, bs, rfl, by rw [← bools_rep r2 e2]; exact SqL.of h1, q.here rs mk_bl w⟩
      | _ => simp only [wpBlt, e1] at w
theorem blt8 : CallR X (.builtin "ord") (BltV G 8) := by
  intro pins s τ H xs us VQ I rv ⟨ds, S, Q, r, rs, w, q⟩
  match ds, w with
  | [.str [c]], w =>
    obtain ⟨v, rfl, rd⟩ := one_inv r
    obtain ⟨rfl, _⟩ := rep_str rd
    exact call_ord pins s τ H _ us VQ I rv ⟨_, rfl, rfl, by simpa using q.here rs mk_int w⟩

/-! ### methods -/
def BmtV (G : Gx) (b k : Nat) : V → List V → Hp → VK → Prop := fun x vs H VQ => ∃ d ds S Q, RepD G.K H d x ∧ RepL G.K H ds vs ∧ RelS G S H ∧ kindAt S d = k ∧ wpBmt b d ds S Q ∧ QOk G H Q VQ
theorem kind_lst {S : Store} {d : D} (h : kindAt S d = 2) : ∃ a ds, d = .ref a ∧ S a = some (.lst ds) := by
  cases d with
  | ref a =>
    cases e : S a with
    | none => simp [kindAt, e] at h
    | some c =>
      cases c with
      | lst ds => exact ⟨a, ds, rfl, e⟩
      | _ => simp [kindAt, e] at h
  | _ => simp [kindAt] at h
theorem kind_dct {S : Store} {d : D} (h : kindAt S d = 3) : ∃ a t kvs, d = .ref a ∧ S a = some (.dct t kvs) := by
  cases d with
  | ref a =>
    cases e : S a with
    | none => simp [kindAt, e] at h
    | some c =>
      cases c with
      | dct t kvs => exact ⟨a, t, kvs, rfl, e⟩
      | _ => simp [kindAt, e] at h
  | _ => simp [kindAt] at h
/-- a list written anew -/
theorem QOk.put {H : Hp} {Q : QD} {VQ : VK} {ds es : List D} {vs us : List V} {S : Store} {a : Addr} {d : D} {v : V} (q : QOk G H Q VQ) (rs : RelS G S H) (h1 : H a = some (.lst vs)) (r : RepL G.K H es us) (rd : RepD G.K H d v) (w : Q d (su S a (.lst es))) : VQ v (upd H a (.lst us)) :=
  have st : Stab H (upd H a (.lst us)) := Stab.put h1 trivial
  q d (su S a (.lst es)) v _ st (rs.put h1 trivial ⟨us, upd_same, r.stab st⟩) (rd.stab st) w
theorem bmt0 : MtR X "list.append" (BmtV G 0 2) := by
  intro pins s τ H x xs v us VQ I rx rv ⟨d, ds, S, Q, rd, r, rs, hk, w, q⟩
  obtain ⟨a, ys, rfl, e1⟩ := kind_lst hk
  cases rep_ref rd
  match ds, w with
  | [y], w =>
    obtain ⟨yv, rfl, ry⟩ := one_inv r
    simp only [wpBmt, e1] at w
    obtain ⟨vs, h1, r2⟩ := lst_get rs e1
    exact mt_append pins s τ H _ _ v us VQ I rx rv ⟨a, vs, yv, rfl, rfl, h1, by rw [← r2.len]; exact LIM_lt w.1, q.put (ds := ys) rs h1 (r2.app (.cons ry .nil)) mk_non w.2⟩
theorem bmt1 : MtR X "list.insert" (BmtV G 1 2) := by
  intro pins s τ H x xs v us VQ I rx rv ⟨d, ds, S, Q, rd, r, rs, hk, w, q⟩
  obtain ⟨a, ys, rfl, e1⟩ := kind_lst hk
  cases rep_ref rd
  match ds, w with
  | [.int i, y], w =>
    obtain ⟨iv, yv, rfl, ri, ry⟩ := two_inv r
    cases rep_int ri
    simp only [wpBmt, e1] at w
    obtain ⟨vs, h1, r2⟩ := lst_get rs e1
    have hl := LIM_lt w.1.2.2
    have hs : sizeLine = 16777216 := sizeLine_eq
    refine mt_insert pins s τ H _ _ v us VQ I rx rv ⟨a, vs, i, yv, rfl, rfl, h1, by rw [← r2.len]; exact hl, w.1.1, by omega, ?_⟩
    rw [List.append_assoc]
    exact q.put (ds := ys) rs h1 ((r2.take _).app (.cons ry (r2.drop _))) mk_non w.2
theorem bmt2 : MtR X "list.pop" (BmtV G 2 2) := by
  intro pins s τ H x xs v us VQ I rx rv ⟨d, ds, S, Q, rd, r, rs, hk, w, q⟩
  obtain ⟨a, ys, rfl, e1⟩ := kind_lst hk
  cases rep_ref rd
  match ds, w with
  | [], w =>
    have := r.nil_inv
    subst this
    simp only [wpBmt, e1] at w
    obtain ⟨vs, h1, r2⟩ := lst_get rs e1
    cases e2 : ys.getLast? with
    | none => rw [e2] at w; exact w.elim
    | some z =>
      rw [e2] at w
      have e3 : ys[ys.length - 1]? = some z := by rw [← List.getLast?_eq_getElem?]; exact e2
      obtain ⟨zv, h3, h4⟩ := r2.get e3
      refine mt_pop pins s τ H _ _ v us VQ I rx rv ⟨a, vs, zv, rfl, rfl, h1, by rw [← r2.len]; exact h3, ?_⟩
      have rr : RepL G.K H ys.dropLast vs.dropLast := by
        rw [List.dropLast_eq_take, List.dropLast_eq_take, ← r2.len]; exact r2.take _
      exact q.put (ds := ys) rs h1 rr h4 w
  | [.int i], w =>
    obtain ⟨iv, rfl, ri⟩ := one_inv r
    cases rep_int ri
    simp only [wpBmt, e1] at w
    obtain ⟨vs, h1, r2⟩ := lst_get rs e1
    obtain ⟨w0, w⟩ := w
    cases e2 : ys[i.toNat]? with
    | none => rw [e2] at w; exact w.elim
    | some z =>
      rw [e2] at w
      obtain ⟨zv, h3, h4⟩ := r2.get e2
      have hi : i.toNat < vs.length := (List.getElem?_eq_some_iff.mp h3).1
      obtain ⟨hz, _⟩ := I.hok a _ h1
      have hs : sizeLine = 16777216 := sizeLine_eq
      exact mt_popAt pins s τ H _ _ v us VQ I rx rv ⟨a, vs, i, i.toNat, zv, rfl, rfl, h1, by omega, by omega, seqIndex_of w0 (by omega), h3, q.put (ds := ys) rs h1 (r2.eraseIdx _) h4 w⟩
theorem bmt3 (hu : X.A.units + 1 < cLine) : MtR X "dict.get" (BmtV G 3 3) := by
  intro pins s τ H x xs v us VQ I rx rv ⟨d, ds, S, Q, rd, r, rs, hk, w, q⟩
  obtain ⟨a, t, kvs, rfl, e1⟩ := kind_dct hk
  cases rep_ref rd
  cases (show v = Value.ref a from rx)
  match ds, w with
  | [k], w =>
    obtain ⟨kv, rfl, rk⟩ := one_inv r
    obtain ⟨u, rfl, ru⟩ := Vals.one rv
    simp only [wpBmt, e1] at w
    obtain ⟨o, g, g1, g2⟩ := dget_rep rs e1 w.1 rk
    refine d_get1 hu I g ru fun w' s' I' rw' => ⟨o.getD .non, H, I', rw', ?_⟩
    cases e2 : dget kvs k with
    | none =>
      rw [g2 e2]
      have w2 := w.2
      rw [e2] at w2
      exact q.here rs mk_non w2
    | some z =>
      obtain ⟨zv, e3, hz⟩ := g1 z e2
      rw [e3]
      have w2 := w.2
      rw [e2] at w2
      exact q.here rs hz w2
  | [k, y], w =>
    obtain ⟨kv, yv, rfl, rk, ry⟩ := two_inv r
    obtain ⟨u, u2, rfl, ru, ru2⟩ := Vals.two rv
    simp only [wpBmt, e1] at w
    obtain ⟨o, g, g1, g2⟩ := dget_rep rs e1 w.1 rk
    refine d_get2 hu I g ru ru2 fun w' s' I' rw' => ⟨o.getD yv, H, I', rw', ?_⟩
    cases e2 : dget kvs k with
    | none =>
      rw [g2 e2]
      have w2 := w.2
      rw [e2] at w2
      exact q.here rs ry w2
    | some z =>
      obtain ⟨zv, e3, hz⟩ := g1 z e2
      rw [e3]
      have w2 := w.2
      rw [e2] at w2
      exact q.here rs hz w2

/-! ### split by one sign -/
def joinC (c : Nat) : List (List Nat) → List Nat
  | [] => []
  | [p] => p
  | p :: q :: r => p ++ c :: joinC c (q :: r)
theorem splitC_ne (c : Nat) : ∀ s, splitC c s ≠ []
  | [] => by simp [splitC]
  | x :: r => by
    unfold splitC
    split
    · simp
    · split <;> simp
theorem splitC_pre {c : Nat} : ∀ {p : List Nat} (t : List Nat), c ∉ p → ∃ q r, splitC c t = q :: r ∧ splitC c (p ++ t) = (p ++ q) :: r
  | [], t, _ => by
    cases e : splitC c t with
    | nil => exact absurd e (splitC_ne c t)
    | cons q r => exact ⟨q, r, rfl, by simpa using e⟩
  | x :: p, t, h => by
    have hx : ¬ x = c := fun z => h (by simp [z])
    obtain ⟨q, r, h1, h2⟩ := splitC_pre (p := p) t (fun z => h (List.mem_cons_of_mem _ z))
    refine ⟨q, r, h1, ?_⟩
    show (if x = c then [] :: splitC c (p ++ t) else match splitC c (p ++ t) with | a :: b => (x :: a) :: b | [] => [[x]]) = _
    rw [if_neg hx, h2]
    rfl
theorem splitC_join {c : Nat} : ∀ {ps : List (List Nat)}, ps ≠ [] → (∀ p ∈ ps, c ∉ p) → splitC c (joinC c ps) = ps
  | [p], _, h => by
    obtain ⟨q, r, h1, h2⟩ := splitC_pre (c := c) (p := p) [] (h p (by simp))
    simp only [splitC, List.cons.injEq] at h1
    rw [joinC]
    rw [List.append_nil] at h2
    rw [h2, ← h1.1, ← h1.2]; simp
  | p :: q :: r, _, h => by
    have ih := splitC_join (ps := q :: r) (by simp) fun x hx => h x (by simp [hx])
    obtain ⟨a, b, h1, h2⟩ := splitC_pre (c := c) (p := p) (c :: joinC c (q :: r)) (h p (by simp))
    have e : splitC c (c :: joinC c (q :: r)) = [] :: splitC c (joinC c (q :: r)) := by rw [splitC, if_pos rfl]
    rw [e, ih] at h1
    simp only [List.cons.injEq] at h1
    rw [joinC, h2, ← h1.1, ← h1.2]; simp
theorem join_C (c : Nat) : ∀ ps : List Str, (Str.join ⟨#[c]⟩ ps).cps.toList = joinC c (ps.map fun p => p.cps.toList)
  | [] => rfl
  | [p] => rfl
  | p :: q :: r => by
    have ih := join_C c (q :: r)
    show ((p ++ ⟨#[c]⟩ ++ Str.join ⟨#[c]⟩ (q :: r) : Str)).cps.toList = p.cps.toList ++ c :: joinC c ((q :: r).map fun p => p.cps.toList)
    rw [← ih]
    show ((p.cps ++ #[c]) ++ (Str.join ⟨#[c]⟩ (q :: r)).cps).toList = _
    simp
theorem split_is (c : Nat) (s : List Nat) : Txt.split ⟨s.toArray⟩ ⟨#[c]⟩ = (splitC c s).map fun p => (⟨p.toArray⟩ : Str) := by
  have h1 := StrLaws.join_split ⟨s.toArray⟩ ⟨#[c]⟩
  have h2 := StrLaws.split_free ⟨s.toArray⟩ c
  have h3 := split_pos ⟨s.toArray⟩ ⟨#[c]⟩
  generalize Txt.split ⟨s.toArray⟩ ⟨#[c]⟩ = ps at h1 h2 h3
  have e : s = joinC c (ps.map fun p => p.cps.toList) := by
    rw [← join_C, h1]
  rw [e, splitC_join (by cases ps <;> simp_all) (by
    intro p hp
    obtain ⟨q, hq, rfl⟩ := List.mem_map.mp hp
    exact h2 q hq)]
  rw [List.map_map]
  exact (List.map_id ps).symm.trans (List.map_congr_left fun p _ => by simp)
theorem splitC_mem {c : Nat} : ∀ {s : List Nat} {p : List Nat}, p ∈ splitC c s → ∀ x ∈ p, x ∈ s
  | [], p, h, x, hx => by simp [splitC] at h; subst h; cases hx
  | y :: s, p, h, x, hx => by
    unfold splitC at h
    split at h
    · rcases List.mem_cons.mp h with rfl | h
      · cases hx
      · exact List.mem_cons_of_mem _ (splitC_mem h x hx)
    · split at h
      · rename_i q qs e
        rcases List.mem_cons.mp h with rfl | h
        · rcases List.mem_cons.mp hx with rfl | hx
          · exact List.mem_cons_self
          · exact List.mem_cons_of_mem _ (splitC_mem (s := s) (p := q) (by rw [e]; exact List.mem_cons_self) x hx)
        · exact List.mem_cons_of_mem _ (splitC_mem (s := s) (p := p) (by rw [e]; exact List.mem_cons_of_mem _ h) x hx)
      · simp at h; subst h; simp at hx; simp [hx]
theorem splitC_len {c : Nat} : ∀ s : List Nat, (splitC c s).length ≤ s.length + 1
  | [] => by simp [splitC]
  | x :: s => by
    have ih := splitC_len (c := c) s
    unfold splitC
    split
    · simp; omega
    · split
      · rename_i e; rw [e] at ih; simp at ih ⊢; omega
      · simp
theorem rep_strs {K : PySem.W.Frag} {H : Hp} : ∀ {ps : List (List Nat)}, (∀ p ∈ ps, okS p = true) → RepL K H (ps.map .str) ((ps.map fun p => (⟨p.toArray⟩ : Str)).map V.str)
  | [], _ => .nil
  | p :: ps, h => .cons (mk_str (h p (by simp))) (rep_strs fun q hq => h q (by simp [hq]))
theorem bmt4 : MtR X "str.split" (BmtV G 4 0) := by
  intro pins s τ H x xs v us VQ I rx rv ⟨d, ds, S, Q, rd, r, rs, hk, w, q⟩
  cases d with
  | str t =>
    match ds, w with
    | [.str [c]], w =>
      obtain ⟨cv, rfl, rc⟩ := one_inv r
      obtain ⟨rfl, hv⟩ := rep_str rd
      obtain ⟨rfl, _⟩ := rep_str rc
      have w' : (t.length + 2 ≤ LIM ∧ c < 256) ∧ wpNew (.lst ((splitC c t).map .str)) S Q := w
      refine mt_split pins s τ H _ _ v us VQ I rx rv ⟨_, _, rfl, rfl, rfl, LIM_le (by simpa [Str.length] using w'.1.1), fun p n => ?_⟩
      have e : Txt.split ⟨t.toArray⟩ ⟨[c].toArray⟩ = (splitC c t).map fun p => (⟨p.toArray⟩ : Str) := split_is c t
      rw [e]
      exact q.lst rs (rep_strs fun p hp => okS_sub hv (splitC_mem hp)) w'.2 n
  | ref a => cases e : S a with
    | none => simp [kindAt, e] at hk
    | some c => cases c <;> simp [kindAt, e] at hk
  | _ => simp [kindAt] at hk
theorem flat_of {K : PySem.W.Frag} {H : Hp} {ds : List D} {vs : List V} (r : RepL K H ds vs) (f : ds.all isFlat = true) : vs.all flatV = true := by
  refine List.all_eq_true.mpr fun v hv => ?_
  obtain ⟨i, hi⟩ := List.getElem?_of_mem hv
  obtain ⟨d, hd, rd⟩ := r.getV hi
  have := List.all_eq_true.mp f d (List.mem_of_getElem? hd)
  cases d with
  | int i => rw [rep_int rd]; rfl
  | str s => rw [(rep_str rd).1]; rfl
  | _ => cases this
theorem findIdx_spec {ds : List D} {d : D} {j : Nat} (h : ds.findIdx? (fun x => decide (x = d)) = some j) : ds[j]? = some d ∧ ∀ m, m < j → ds[m]? ≠ some d := by
  obtain ⟨hj, h1, h2⟩ := List.findIdx?_eq_some_iff_getElem.mp h
  refine ⟨?_, fun m hm e => ?_⟩
  · rw [List.getElem?_eq_getElem hj]
    exact congrArg some (of_decide_eq_true h1)
  · have hml : m < ds.length := by omega
    rw [List.getElem?_eq_getElem hml] at e
    have := h2 m hm
    simp only [Option.some.inj e, decide_true] at this
    simp at this
theorem bmt5l : MtR X "list.index" (BmtV G 5 2) := by
  intro pins s τ H x xs v us VQ I rx rv ⟨d, ds, S, Q, rd, r, rs, hk, w, q⟩
  obtain ⟨a, ys, rfl, e1⟩ := kind_lst hk
  cases rep_ref rd
  match ds, w with
  | [.str t], w =>
    obtain ⟨tv, rfl, rt⟩ := one_inv r
    simp only [wpBmt, e1] at w
    obtain ⟨vs, h1, r2⟩ := lst_get rs e1
    cases e2 : ys.findIdx? (fun d => decide (d = .str t)) with
    | none => rw [e2] at w; exact w.elim
    | some j =>
      rw [e2] at w
      obtain ⟨hj, hno⟩ := findIdx_spec e2
      obtain ⟨jv, h3, h4⟩ := r2.get hj
      obtain ⟨rfl, _⟩ := rep_str rt
      have h4' := (rep_str h4).1
      subst h4'
      refine mt_index pins s τ H _ _ v us VQ I rx rv ⟨a, vs, _, j, _, rfl, rfl, SqL.of h1, rfl, flat_of r2 w.1, h3, ?_, ?_, q.here rs mk_int w.2⟩
      · simp [eqV]
      · intro m z hm hz
        obtain ⟨e, he, re⟩ := r2.getV hz
        cases e with
        | str u =>
          obtain ⟨rfl, _⟩ := rep_str re
          have : u ≠ t := fun z => hno m hm (by rw [he, z])
          simp [eqV, this]
        | int i => rw [rep_int re]; rfl
        | _ =>
          have := List.all_eq_true.mp w.1 _ (List.mem_of_getElem? he)
          cases this
theorem bmt5t (hK : X.K = G.K) : MtR X "tuple.index" (BmtV G 5 1) := by
  intro pins s τ H x xs v us VQ I rx rv ⟨d, ds, S, Q, rd, r, rs, hk, w, q⟩
  cases d with
  | ktu ys =>
    match ds, w with
    | [.str t], w =>
      obtain ⟨tv, rfl, rt⟩ := one_inv r
      obtain ⟨p, vs, rfl, tt, r2⟩ := rep_ktu rd
      obtain ⟨rfl, _⟩ := rep_str rt
      cases e2 : ys.findIdx? (fun d => decide (d = .str t)) with
      | none => simp only [wpBmt, e2] at w
      | some j =>
        simp only [wpBmt, e2] at w
        obtain ⟨hj, hno⟩ := findIdx_spec e2
        obtain ⟨jv, h3, h4⟩ := r2.get hj
        obtain ⟨ss, hss⟩ : ∃ ss : List (List Nat), ys = ss.map .str := by
          have : ∀ l : List D, l.all isStrD = true → ∃ ss : List (List Nat), l = ss.map .str := by
            intro l
            induction l with
            | nil => intro _; exact ⟨[], rfl⟩
            | cons d r ih =>
              intro h
              simp only [List.all_cons, Bool.and_eq_true] at h
              obtain ⟨ss, hs⟩ := ih h.2
              cases d with
              | str s => exact ⟨s :: ss, by rw [hs]; rfl⟩
              | _ => cases h.1
          exact this ys w.1
        have ev : vs = (ss.map fun p => (⟨p.toArray⟩ : Str)).map V.str := by
          have : ∀ (ss : List (List Nat)) (vs : List V), RepL G.K H (ss.map .str) vs → vs = (ss.map fun p => (⟨p.toArray⟩ : Str)).map V.str := by
            intro ss
            induction ss with
            | nil => intro vs h; exact h.nil_inv
            | cons s r ih =>
              intro vs h
              obtain ⟨v, q, rfl, h1, h2⟩ := RepL.cons_inv (d := .str s) (ds := r.map .str) h
              rw [(rep_str h1).1, ih q h2]; rfl
          exact this ss vs (by rw [← hss]; exact r2)
        subst hss
        subst ev
        have gets : ∀ m : Nat, ((ss.map fun p => (⟨p.toArray⟩ : Str))[m]? : Option Str) = (ss[m]?).map fun p => ⟨p.toArray⟩ := fun m => List.getElem?_map
        have gets2 : ∀ m : Nat, ((ss.map D.str)[m]? : Option D) = (ss[m]?).map D.str := fun m => List.getElem?_map
        refine mt_tup_index pins s τ H _ _ v us VQ I rx rv ⟨p, _, ⟨t.toArray⟩, j, rfl, rfl, by rw [hK]; exact tt H, ?_, ?_, q.here rs mk_int w.2⟩
        · rw [gets2] at hj
          rw [gets]
          cases e : ss[j]? with
          | none => rw [e] at hj; cases hj
          | some z => rw [e] at hj; simp at hj; simp [hj]
        · intro m hm z
          rw [gets] at z
          apply hno m hm
          rw [gets2]
          cases e : ss[m]? with
          | none => rw [e] at z; cases z
          | some z' => rw [e] at z; simp at z; simp [z]
  | ref a => cases e : S a with
    | none => simp [kindAt, e] at hk
    | some c => cases c <;> simp [kindAt, e] at hk
  | _ => simp [kindAt] at hk
end
end Fv

set_option Elab.async false
set_option linter.all false
set_option maxRecDepth 100000
set_option maxHeartbeats 4000000
/-! sorted. -/
namespace Fv
open PySem PySem.Spec PyProof.Rows L2
open PySem.W (EachIs dataLe AllAlike Sortable sorted_data list_sort_data)
mutual
theorem reads_nil {h : Heap} : ∀ (d : D) (v : Value) (as : List Addr), Reads h v (toPD d) as → as = []
  | .non, _, _, r => by simp only [toPD] at r; cases r; rfl
  | .bl _, _, _, r => by simp only [toPD] at r; cases r; rfl
  | .int _, _, _, r => by simp only [toPD] at r; cases r; rfl
  | .str _, _, _, r => by simp only [toPD] at r; cases r; rfl
  | .ref _, _, _, r => by simp only [toPD] at r; cases r; rfl
  | .rl _, _, _, r => by simp only [toPD] at r; cases r; rfl
  | .rtx _, _, _, r => by simp only [toPD] at r; cases r; rfl
  | .tup ds, _, _, r => by
    simp only [toPD] at r
    cases r with
    | tuple h1 h2 h3 h4 => exact reads_nilL ds _ _ h4
  | .ktu ds, _, _, r => by
    simp only [toPD] at r
    cases r with
    | tuple h1 h2 h3 h4 => exact reads_nilL ds _ _ h4
theorem reads_nilL {h : Heap} : ∀ (ds : List D) (vs : List Value) (as : List Addr), ReadsAll h vs (toPDL ds) as → as = []
  | [], _, _, r => by simp only [toPDL] at r; cases r; rfl
  | d :: ds, _, _, r => by
    simp only [toPDL] at r
    cases r with
    | cons h1 h2 => rw [reads_nil d _ _ h1, reads_nilL ds _ _ h2]; rfl
end
section
variable {G : Gx} {X : Cx}
theorem pureL_all : ∀ {ds : List D}, pureL ds = true → ∀ d ∈ ds, pureD d = true
  | [], _, d, h => by cases h
  | x :: r, p, d, h => by
    simp only [pureL, Bool.and_eq_true] at p
    rcases List.mem_cons.mp h with rfl | h
    · exact p.1
    · exact pureL_all p.2 d h
theorem depL_all : ∀ {ds : List D} {n : Nat}, depL ds ≤ n → ∀ d ∈ ds, dep d ≤ n
  | [], _, _, d, h => by cases h
  | x :: r, n, p, d, h => by
    simp only [depL] at p
    rcases List.mem_cons.mp h with rfl | h
    · omega
    · exact depL_all (by omega) d h
/-- what the values stand for -/
def RR (p : Value) (b : D × V) : Prop := RelV b.2 p
theorem each_zip : ∀ {ds : List D} {xs : List V} {us : List Value}, ds.length = xs.length → Vals xs us → EachIs RR us (ds.zip xs)
  | [], [], _, _, r => by cases r; exact .nil
  | d :: ds, x :: xs, _, h, r => by
    cases r with
    | cons r1 r2 => exact .cons r1 (each_zip (by simpa using h) r2)
theorem each_vals : ∀ {us : List Value} {bs : List (D × V)}, EachIs RR us bs → Vals (bs.map (·.2)) us
  | _, _, .nil => .nil
  | _, _, .cons h t => .cons h (each_vals t)
theorem srt_parts {ds : List D} (h : srtOk ds = true) : okL ds = true ∧ AllAlike (ds.map toPD) ∧ Sortable (ds.map toPD) := by
  unfold srtOk at h
  simp only [Bool.and_eq_true] at h
  obtain ⟨⟨h1, h2⟩, h3⟩ := h
  refine ⟨h1, fun d hd d' hd' => ?_, ?_⟩
  · obtain ⟨x, hx, rfl⟩ := List.mem_map.mp hd
    obtain ⟨y, hy, rfl⟩ := List.mem_map.mp hd'
    exact List.all_eq_true.mp (List.all_eq_true.mp h2 x hx) y hy
  · simp only [Bool.or_eq_true] at h3
    have hp : ∀ d ∈ ds, pureD d = true := by
      unfold okL at h1
      simp only [Bool.and_eq_true] at h1
      exact pureL_all h1.1
    rcases h3 with h3 | h3
    · refine .inl fun d hd => ?_
      obtain ⟨x, hx, rfl⟩ := List.mem_map.mp hd
      have := List.all_eq_true.mp h3 x hx
      cases x with
      | tup l => cases l with
        | nil => cases this
        | cons a l => exact ⟨_, _, rfl⟩
      | ktu l => cases l with
        | nil => cases this
        | cons a l => exact ⟨_, _, rfl⟩
      | _ => cases this
    · refine .inr fun d hd => ?_
      obtain ⟨x, hx, rfl⟩ := List.mem_map.mp hd
      have h4 := List.all_eq_true.mp h3 x hx
      have h5 := hp x hx
      cases x <;> first | (cases h4; done) | (cases h5; done) | exact ⟨fun e => (nomatch e), fun xs e => (nomatch e)⟩
theorem map_zip_pd : ∀ {ds : List D} {xs : List V}, ds.length = xs.length → (ds.zip xs).map (fun b => toPD b.1) = ds.map toPD
  | [], [], _ => rfl
  | d :: ds, x :: xs, h => by
    simp only [List.zip_cons_cons, List.map_cons]
    rw [map_zip_pd (by simpa using h)]
theorem each_reads {pins : List (Addr × Obj)} {τ : L2.St} {H : Hp} {s : Shared} (hK : X.K = G.K) (I : Inv X pins τ H s) : ∀ {ds : List D} {xs : List V} {us : List Value}, (∀ d ∈ ds, pureD d = true) → RepL G.K H ds xs → Vals xs us →
    EachIs (fun v (b : D × V) => ∃ as, Reads s.heap v (toPD b.1) as) us (ds.zip xs)
  | [], xs, us, _, r, rv => by
    rw [r.nil_inv] at rv
    cases rv
    rw [r.nil_inv]
    exact .nil
  | d :: ds, xs, us, hp, r, rv => by
    obtain ⟨v, xr, rfl, h1, h2⟩ := r.cons_inv
    cases rv with
    | cons r1 r2 =>
      exact .cons (Dp.reads I (toPD d) v _ (by rw [hK]; exact repDp d v (hp d List.mem_cons_self) h1) r1) (each_reads hK I (fun e he => hp e (List.mem_cons_of_mem _ he)) h2 r2)
/-- the pairs sorted by what they stand for -/
theorem sorted_pairs_rep {H : Hp} {ds : List D} {xs : List V} (r : RepL G.K H ds xs) : RepL G.K H (sortD ds) (((ds.zip xs).mergeSort (dataLe false fun b : D × V => toPD b.1)).map (·.2)) := by
  have hl := r.len
  have e1 : ((ds.zip xs).mergeSort (dataLe false fun b : D × V => toPD b.1)).map (·.1) = sortD ds := by
    unfold sortD
    rw [List.map_mergeSort (r := dataLe false fun b : D × V => toPD b.1) (s := leD) (f := fun b : D × V => b.1) (fun a _ b _ => rfl)]
    congr 1
    exact List.map_fst_zip (Nat.le_of_eq hl)
  rw [← e1]
  have hm : ∀ b ∈ (ds.zip xs).mergeSort (dataLe false fun b : D × V => toPD b.1), RepD G.K H b.1 b.2 := fun b hb => by
    have hb' := (List.mem_mergeSort).mp hb
    obtain ⟨i, hi⟩ := List.mem_iff_getElem?.mp hb'
    obtain ⟨h1, h2⟩ := List.getElem?_zip_eq_some.mp hi
    obtain ⟨v, h3, h4⟩ := r.get h1
    rw [h2] at h3
    cases h3
    exact h4
  have go : ∀ l : List (D × V), (∀ b ∈ l, RepD G.K H b.1 b.2) → RepL G.K H (l.map (·.1)) (l.map (·.2)) := by
    intro l
    induction l with
    | nil => intro _; exact .nil
    | cons b l ih => intro h; exact .cons (h b List.mem_cons_self) (ih fun c hc => h c (List.mem_cons_of_mem _ hc))
  exact go _ hm
theorem depth_room {ds : List D} (h : okL ds = true) {xs : List V} (b : D × V) (hb : b ∈ ds.zip xs) : (toPD b.1).depth ≤ 40 := by
  unfold okL at h
  simp only [Bool.and_eq_true, decide_eq_true_eq] at h
  have := depth_of b.1
  have := depL_all h.2 b.1 (List.of_mem_zip hb).1
  omega
/-- behind the collecting: a new list of the values, sorted -/
theorem sort_tail {pins : List (Addr × Obj)} {τ : L2.St} {H : Hp} {h' : Heap} {g : Array GenState} {dr : Drawn} {tk : Nat} {os : OsState} {VQ : VK} {ds : List D} {xs : List V} {acc : List Value} {A : Around} (hK : X.K = G.K) (I1 : Inv X pins τ H ⟨h', g, dr, tk, os⟩) (hA : A.units + 60 < cLine)
    (ok : srtOk ds = true) (hz : ds.length ≤ sizeLine) (r : RepL G.K H ds xs) (rv : Vals xs acc) (q : ∀ p ys, H p = none → RepL G.K H (sortD ds) ys → VQ (.ref p) (upd H p (.lst ys))) {P : Value → Shared → Prop} (hP : ∀ s, EP X pins τ VQ (.ref h'.objs.size) s → P .none s) :
    wpAny (model X.prog X.w) A (call (.builtin "list.sort") [.ref h'.objs.size]) P X.xe ⟨h'.push (seqObj "list" acc.toArray 0), g, dr, tk, os⟩ := by
  obtain ⟨o1, o2, o3⟩ := srt_parts ok
  have hp : ∀ d ∈ ds, pureD d = true := by
    unfold okL at o1
    simp only [Bool.and_eq_true] at o1
    exact pureL_all o1.1
  have hl := r.len
  have hoL : (h'.push (seqObj "list" acc.toArray 0)).get? h'.objs.size = some (seqObj "list" acc.toArray 0) := Heap.get?_push_size _ rfl
  have er0 := each_reads hK I1 hp r rv
  have I2 : Inv X pins τ H ⟨h'.push (seqObj "list" acc.toArray 0), g, dr, tk, os⟩ := I1.kept (t' := tk) fun b o e => Heap.get?_push_of_some _ e
  have er := each_reads hK I2 hp r rv
  have er2 : EachIs (fun v (b : D × V) => ∃ as, Reads (h'.push (seqObj "list" acc.toArray 0)) v (toPD b.1) as ∧ h'.objs.size ∉ as) acc (ds.zip xs) := er.mono fun v b ⟨as, r⟩ => ⟨as, r, by rw [reads_nil b.1 _ _ r]; simp⟩
  refine list_sort_data (enc := fun b : D × V => toPD b.1) (bs := ds.zip xs) (R := RR) hoL (each_zip hl rv) er2 (by rw [map_zip_pd hl]; exact o2) (by rw [map_zip_pd hl]; exact o3) (by rw [List.length_zip, ← hl, Nat.min_self]; exact hz)
    (fun b hb => by have := depth_room o1 b hb; omega) fun out hlen ho => hP _ ?_
  have rr := sorted_pairs_rep r
  obtain ⟨e', he'⟩ := PyProof.Rows.sortedHeap_at (vs := acc) (out := out.toArray) hoL
  refine ⟨.ref h'.objs.size, upd H h'.objs.size (.lst (((ds.zip xs).mergeSort (dataLe false fun b : D × V => toPD b.1)).map (·.2))), I1.laid (t' := tk) (fun b u e => ?_) (Nat.le_refl _) ?_, rfl, q _ _ (I1.hok.fresh (Nat.le_refl _)) rr⟩
  · have hb : b < h'.objs.size := Heap.lt_size e
    rw [PyProof.Rows.sortedHeap_old (Nat.ne_of_lt hb) (by rw [size_push']; exact Nat.lt_succ_of_lt hb)]
    exact Heap.get?_push_of_some _ e
  · refine ⟨?_, out, e', each_vals ho, he'⟩
    rw [List.length_map, List.length_mergeSort, List.length_zip, ← hl, Nat.min_self]
    exact hz
theorem len_KK' {H : Hp} : ∀ {kvs : List (D × D)} {ws : List (Key × V)}, RepKK G H kvs ws → kvs.length = ws.length
  | [], ws, r => by
    have e : ws = [] := r
    subst e
    rfl
  | (i, x) :: kvs, _, r => by
    obtain ⟨v, q, rfl, _, _, _, h4⟩ := r
    simp [len_KK' h4]
theorem len_KT' {H : Hp} : ∀ {kvs : List (D × D)} {ws : List (List Key × V)}, RepKT G H kvs ws → kvs.length = ws.length
  | [], ws, r => by
    have e : ws = [] := r
    subst e
    rfl
  | (i, x) :: kvs, _, r => by
    obtain ⟨v, q, rfl, _, _, _, h4⟩ := r
    simp [len_KT' h4]
theorem keysK_rep {H : Hp} : ∀ {kvs : List (D × D)} {ws : List (Key × V)}, RepKK G H kvs ws → RepL G.K H (kvs.map (·.1)) (ws.map fun p => kV p.1)
  | [], ws, r => by
    have e : ws = [] := r
    subst e
    exact .nil
  | (i, x) :: kvs, _, r => by
    obtain ⟨v, q, rfl, h1, h2, h3, h4⟩ := r
    exact .cons h2 (keysK_rep h4)
theorem rep_fl {H : Hp} : ∀ {ks : List D}, ks.all isFlat = true → ks.all okF = true → RepL G.K H ks ((ks.map keyD).map kV)
  | [], _, _ => .nil
  | k :: ks, f, o => by
    simp only [List.all_cons, Bool.and_eq_true] at f o
    refine .cons ?_ (rep_fl f.2 o.2)
    cases k with
    | int i => exact mk_int
    | str s => exact mk_str o.1
    | _ => cases f.1
theorem keysT_rep {H : Hp} : ∀ {kvs : List (D × D)} {ws : List (List Key × V)} {bs : List Addr}, RepKT G H kvs ws → IsKeys H ws bs → RepL G.K H (kvs.map (·.1)) (bs.map V.ref)
  | [], ws, bs, r, k => by
    have e : ws = [] := r
    subst e
    cases k
    exact .nil
  | (i, x) :: kvs, _, bs, r, k => by
    obtain ⟨v, q, rfl, h1, h2, h3, h4⟩ := r
    cases k with
    | cons k1 k2 =>
      refine .cons ?_ (keysT_rep h4 k2)
      cases i with
      | tup ds => exact mk_tup k1 (rep_fl h1 h2)
      | _ => cases h1
theorem blt9 (hK : X.K = G.K) (hc : X.calm = true) (hu : X.A.units + 65 < cLine) : CallR X (.builtin "sorted") (BltV G 9) := by
  intro pins s τ H xs us VQ I rv ⟨ds, S, Q, r, rs, w, q⟩
  match ds, w with
  | [.ref a], w =>
    obtain ⟨v, rfl, rd⟩ := one_inv r
    obtain ⟨u, rfl, ru⟩ := Vals.one rv
    cases rep_ref rd
    cases (show u = Value.ref a from ru)
    cases e1 : S a with
    | none => simp only [wpBlt, e1] at w
    | some c =>
      cases c with
      | lst ys =>
        simp only [wpBlt, e1] at w
        obtain ⟨⟨w1, w2⟩, w3⟩ := w
        obtain ⟨vs, h1, r2⟩ := lst_get rs e1
        obtain ⟨o1, o2, o3⟩ := srt_parts w1
        obtain ⟨its, rv2, p, hz⟩ := I.list (SqL.of h1 : SqL X.K H a vs)
        have hp : ∀ d ∈ ys, pureD d = true := by
          unfold okL at o1
          simp only [Bool.and_eq_true] at o1
          exact pureL_all o1.1
        have hl := r2.len
        refine sorted_data (enc := fun b : D × V => toPD b.1) (bs := ys.zip vs) (R := RR) p.isList (each_zip hl rv2) (each_reads hK I hp r2 rv2) (by rw [map_zip_pd hl]; exact o2) (by rw [map_zip_pd hl]; exact o3) (by rw [List.length_zip, ← hl, Nat.min_self]; exact LIM_le w2)
          (fun b hb => by have := depth_room o1 b hb; omega) fun out hlen ho => ?_
        have rr := sorted_pairs_rep r2
        have n1 : H (s.heap.objs.size + 1) = none := I.hok.fresh (Nat.le_succ _)
        obtain ⟨e', he'⟩ := sortedAll_at (h := s.heap) (vs := its) (out := out.toArray)
        refine ⟨.ref (s.heap.objs.size + 1), upd H (s.heap.objs.size + 1) (.lst (((ys.zip vs).mergeSort (dataLe false fun b : D × V => toPD b.1)).map (·.2))), I.laid (t' := s.toks) (fun b u e => sortedAll_old e) (Nat.le_succ _) ?_, rfl, q.lst rs rr w3 n1⟩
        refine ⟨?_, out, e', each_vals ho, he'⟩
        rw [List.length_map, List.length_mergeSort, List.length_zip, ← hl, Nat.min_self]
        exact LIM_le w2
      | dct t kvs =>
        have w' : srtOk (kvs.map (·.1)) = true ∧ wpNew (.lst (sortD (kvs.map (·.1)))) S Q := by
          cases t <;> simpa only [wpBlt, e1] using w
        obtain ⟨w1, w2⟩ := w'
        refine Calls.call_function_entry PyProof.Rows.kind_sorted PyProof.Rows.plain_sorted PyProof.Rows.entry_sorted (PyProof.Rows.args_sorted1 _) ?_
        unfold Builtin.«sorted»
        refine wpAny_bind (m := checkCount "sorted" 1 1 _) (wpAny_pure ?_)
        -- behind the collecting
        have tail : ∀ (h' : Heap) (tk : Nat) (acc : Array Value) (ks : List V), (∀ b o, s.heap.get? b = some o → h'.get? b = some o) → Vals ks acc.toList → RepL G.K H (kvs.map (·.1)) ks → (kvs.map (·.1)).length ≤ sizeLine →
            wpAny (model X.prog X.w) X.A.in1 (do
              let l ← newList acc.toList
              let _ ← holding [l] (call (.builtin "list.sort") [l])
              pure (PySem.Fin.done (.ret l))) (fun f s' => ∃ v, f = .done (.ret v) ∧ EP X pins τ VQ v s') X.xe { s with heap := h', toks := tk } := by
          intro h' tk acc ks hk rvk rk hz
          have I1 : Inv X pins τ H { s with heap := h', toks := tk } := I.kept hk
          refine wpAny_bind (wpAny_newList ?_ (by rw [← Paired.length rvk, ← rk.len]; exact hz))
          refine wpAny_bind (wpAny_holding (sort_tail (A := X.A.in1) hK I1 (by show X.A.units + 1 + 60 < cLine; omega) w1 hz rk rvk (fun p ys n rr => q.lst rs rr w2 n) fun s' ep => wpAny_pure ⟨_, rfl, ep⟩))
        cases t with
        | false =>
          obtain ⟨ws, h1, h2⟩ := rs a _ e1
          obtain ⟨z, lo, vs, rel, dd⟩ := dk_rd I.hok (.inl h1)
          obtain ⟨ep, hat⟩ := dd.dictAt
          have hlv : vs.length = ws.length := rel.length.symm
          refine wpAny_bind (PySem.W.kdu_collect (A := X.A.in1) (PySem.W.kdl_dict (knd := mixKind X.prog X.w) (kvs := vs) (ep := ep) lo) (I.ok.hd hc) hat (by rw [hlv]; exact z) fun h' tk acc hk hacc => ?_)
          have hkeys : Vals (vs.map fun p => kV p.1) acc.toList := keys_at (by rw [Array.length_toList, hacc.1]) fun j v e => hacc.2 j v (by rw [← Array.getElem?_toList]; exact e)
          have ev : (vs.map fun p => kV p.1) = ws.map fun p => kV p.1 := by
            have := congrArg (List.map kV) rel.keys
            rw [List.map_map, List.map_map] at this
            exact this.symm
          rw [ev] at hkeys
          exact tail h' tk acc _ hk hkeys (keysK_rep h2) (by rw [List.length_map, len_KK' h2]; exact z)
        | true =>
          obtain ⟨ws, h1, h2⟩ := rs a _ e1
          obtain ⟨z, hs, ks, pr, o, es, ep, ho, hx, hdt, he, hn⟩ := (show ObjOk X.prog X.w H s.heap a (.dT ws) from I.hok a _ h1)
          have l1 : es.size = ks.length := size_of_entries he
          have l2 : ws.length = ks.length := Paired.length pr
          refine wpAny_bind (PySem.W.kdu_collect (A := X.A.in1) (kdl_raw hs hx hdt) (I.ok.hd hc) ho (by omega) fun h' tk acc hk it => ?_)
          have ea : acc.toList = ks.map fun x => Value.ref x.2.1 := by
            have hl : acc.toList.length = ks.length := by rw [Array.length_toList, it.1]; exact l1
            apply List.ext_getElem?
            intro j
            rw [List.getElem?_map]
            cases hj : acc.toList[j]? with
            | none =>
              have h1 := List.getElem?_eq_none_iff.mp hj
              rw [List.getElem?_eq_none (by omega)]
              rfl
            | some v =>
              obtain ⟨en, hen, hv⟩ := it.2 j v (by rw [← Array.getElem?_toList]; exact hj)
              have qe := entry_at he j
              rw [hen] at qe
              cases hb : ks[j]? with
              | none =>
                rw [hb] at qe
                exact nomatch (show some en = none from qe)
              | some b =>
                rw [hb] at qe
                have e2 : en = entryOfKey (tupleKind (mixKind X.prog X.w)) b := Option.some.inj qe
                rw [hv, e2]
                rfl
          have eb : acc.toList = (ks.map fun x => x.2.1).map Value.ref := by rw [ea, List.map_map]; rfl
          have rvk : Vals ((ks.map fun x => x.2.1).map V.ref) acc.toList := by rw [eb]; exact vals_refs _
          exact tail h' tk acc _ hk rvk (keysT_rep h2 (isKeys_of pr)) (by rw [List.length_map, len_KT' h2]; omega)
      | ins _ _ => simp only [wpBlt, e1] at w
end
end Fv

set_option Elab.async false
set_option linter.all false
set_option maxRecDepth 100000
set_option maxHeartbeats 4000000
/-! Expressions: the plain semantics is sound. -/
namespace Fv
open PySem PySem.Spec PyProof.Rows L2
def BOk (G : Gx) (H : Hp) (Q : Bool → Store → Prop) (VQ : Bool → Hp → Prop) : Prop := ∀ b S H1, Stab H H1 → RelS G S H1 → Q b S → VQ b H1
def LOk (G : Gx) (H : Hp) (Q : List D → Store → Prop) (VQ : List V → Hp → Prop) : Prop := ∀ ds S vs H1, Stab H H1 → RelS G S H1 → RepL G.K H1 ds vs → Q ds S → VQ vs H1
/-- an iterator that hands out ds while st holds -/
structure ItOk (G : Gx) (J : It) (ds : List D) (st : Store → Prop) (H0 : Hp) : Prop where
  go : ∀ i S H, Stab H0 H → RelS G S H → st S → i < ds.length → J.go i H ∧ ∀ x H', J.yld i H x H' → Stab H H' ∧ RelS G S H' ∧ ∃ d, ds[i]? = some d ∧ RepD G.K H' d x
  stop : ∀ i S H, Stab H0 H → RelS G S H → st S → ds.length ≤ i → J.stop i H
def IOk (G : Gx) (H : Hp) (R : RI) (VR : It → Hp → Prop) : Prop := ∀ ds st S J H1, Stab H H1 → RelS G S H1 → ItOk G J ds st H1 → R ds st S → VR J H1
theorem BOk.stab {G : Gx} {H H1 : Hp} {Q : Bool → Store → Prop} {VQ : Bool → Hp → Prop} (q : BOk G H Q VQ) (s : Stab H H1) : BOk G H1 Q VQ := fun b S H2 s2 => q b S H2 (s.trans s2)
theorem LOk.stab {G : Gx} {H H1 : Hp} {Q : List D → Store → Prop} {VQ : List V → Hp → Prop} (q : LOk G H Q VQ) (s : Stab H H1) : LOk G H1 Q VQ := fun b S v H2 s2 => q b S v H2 (s.trans s2)
theorem IOk.stab {G : Gx} {H H1 : Hp} {R : RI} {VR : It → Hp → Prop} (q : IOk G H R VR) (s : Stab H H1) : IOk G H1 R VR := fun ds st S J H2 s2 => q ds st S J H2 (s.trans s2)
theorem _root_.L2.PE.imp {X : Cx} {x : Expr} {t t' : TE} (h : PE X x t) (i : ∀ τ H Q, t' τ H Q → t τ H Q) : PE X x t' := ⟨fun pins s τ H Q I w => h.run pins s τ H Q I (i _ _ _ w)⟩
theorem _root_.L2.PT.imp {X : Cx} {x : Expr} {t t' : TT} (h : PT X x t) (i : ∀ τ H Q, t' τ H Q → t τ H Q) : PT X x t' := ⟨fun pins s τ H Q I w => h.run pins s τ H Q I (i _ _ _ w)⟩
theorem _root_.L2.PW.imp {X : Cx} {x : Expr} {t t' : TT} (h : PW X x t) (i : ∀ τ H Q, t' τ H Q → t τ H Q) : PW X x t' := ⟨fun wh pins s τ H Q I w => h.run wh pins s τ H Q I (i _ _ _ w)⟩
theorem _root_.L2.PA.imp {X : Cx} {x : List Expr} {t t' : TA} (h : PA X x t) (i : ∀ τ H Q, t' τ H Q → t τ H Q) : PA X x t' := ⟨fun ps pins s τ H Q I w => h.run ps pins s τ H Q I (i _ _ _ w)⟩
theorem _root_.L2.PI.imp {X : Cx} {g x : Expr} {t t' : TI} (h : PI X g x t) (i : ∀ τ H Q, t' τ H Q → t τ H Q) : PI X g x t' := ⟨fun pins s τ H Q I w => h.run pins s τ H Q I (i _ _ _ w)⟩

section
variable (G : Gx) (P : Pm) (W : WX)
def TX (e : Ex) : TE := fun τ H VQ => ∃ σ S Q E, RepE G H σ τ ∧ RelS G S H ∧ wpE P e σ S Q E ∧ QOk G H Q VQ ∧ XOk G H E (fun c d H' => W c d τ H')
def TTx (e : Ex) : TT := fun τ H VQ => ∃ σ S Q E, RepE G H σ τ ∧ RelS G S H ∧ wpT P e σ S Q E ∧ BOk G H Q VQ ∧ XOk G H E (fun c d H' => W c d τ H')
def TAx (es : Exs) : TA := fun τ H VQ => ∃ σ S Q E, RepE G H σ τ ∧ RelS G S H ∧ wpEs P es σ S Q E ∧ LOk G H Q VQ ∧ XOk G H E (fun c d H' => W c d τ H')
def TIx (it : Itr) : TI := fun τ H VR => ∃ σ S R E, RepE G H σ τ ∧ RelS G S H ∧ wpI P it σ S R E ∧ IOk G H R VR ∧ XOk G H E (fun c d H' => W c d τ H')
end
section
variable {G : Gx} {P : Pm} {W : WX} {X : Cx} {x y z : Expr} {a b c : Ex} {xs : List Expr} {es : Exs} {pos : Pos}

/-! heads -/
def notStar : Expr → Bool
  | .Starred _ _ => false
  | _ => true
theorem star_of (h : notStar x = true) : starEach (x :: xs) X.env = (false, eval x X.env) :: starEach xs X.env := by
  cases x <;> first | rfl | (exact Bool.noConfusion h)
def noSuper : Expr → Bool
  | .Call (.Name id _) [] [] _ => id != "super"
  | _ => true
theorem base_of {f : Str} {env : Env} (h : noSuper x = true) : attributeBase x f env (eval x env) = eval x env := by
  unfold attributeBase
  split
  · rename_i id p q
    have : (id != "super") = true := h
    rw [this]
    rfl
  · rfl
def notSlice : Expr → Bool
  | .Slice _ _ _ _ => false
  | _ => true
theorem plain_of (h : notSlice x = true) : PlainIx x := by
  intro o i
  cases x <;> first | rfl | (exact Bool.noConfusion h)
def notSet : Expr → Bool
  | .Set _ _ _ => false
  | _ => true
theorem fold_of {env : Env} (h : notSet x = true) : ∀ v, foldedSetIterable x env v = pure v := by
  intro v
  cases x <;> first | rfl | (exact Bool.noConfusion h)
def notComp : Expr → Bool
  | .ListComp _ _ _ _ => false
  | .SetComp _ _ _ _ => false
  | .DictComp _ _ _ _ _ => false
  | _ => true
theorem swaps_of {t : Option Expr} {l : Nat} {env : Env} (h : notComp x = true) : swapsWith x t l env = pure false := by
  cases x <;> first | rfl | (exact Bool.noConfusion h)
def valHead : Expr → Bool
  | .UnaryOp .Not _ _ => false
  | .BoolOp _ _ _ => false
  | .IfExp _ _ _ _ => false
  | .Compare _ _ _ _ => false
  | _ => true
theorem isTrue_of {env : Env} (h : valHead x = true) : ∀ whole, isTrue x env whole = (do let v ← whole; standAt x.pos; holding [v] (truthy v)) := by
  intro whole
  cases x
  case UnaryOp op e p => cases op <;> first | rfl | (exact Bool.noConfusion h)
  all_goals first | rfl | (exact Bool.noConfusion h)

/-! names, constants -/
theorem tx_var {i : Nat} {n : Str} (hN : X.N[i]? = some n) (hv : Vis X.env.scope n) (hd : (n == ("__debug__" : Str)) = false) (hd2 : (n == ("__classdict__" : Str)) = false) : PE X (.Name n pos) (TX G P W (.var i)) :=
  (pe_var hN hv hd hd2).imp fun τ H VQ ⟨σ, S, Q, E, r, rs, w, q, e⟩ => by
    simp only [wpE] at w
    split at w
    · rename_i d hd
      obtain ⟨v, h1, h2⟩ := r.2 _ _ hd
      exact ⟨v, h1, q.here rs h2 w⟩
    · exact w.elim
theorem tx_int {i : Int} {j : Nat} : PE X (.Constant (.int i) j pos) (TX G P W (.cst (.int i))) :=
  pe_int.imp fun τ H VQ ⟨σ, S, Q, E, r, rs, w, q, e⟩ => q.here (d := .int i) rs mk_int (by simpa only [wpE] using w)
theorem tx_bl {i : Bool} {j : Nat} : PE X (.Constant (.bool i) j pos) (TX G P W (.cst (.bl i))) :=
  pe_bl.imp fun τ H VQ ⟨σ, S, Q, E, r, rs, w, q, e⟩ => q.here (d := .bl i) rs mk_bl (by simpa only [wpE] using w)
theorem tx_non {j : Nat} : PE X (.Constant .none j pos) (TX G P W (.cst .non)) :=
  pe_non.imp fun τ H VQ ⟨σ, S, Q, E, r, rs, w, q, e⟩ => q.here (d := .non) rs mk_non (by simpa only [wpE] using w)
theorem tx_str {s : List Nat} {u : Str} {j : Nat} (hu : u.cps.toList = s) (h : okS s = true) : PE X (.Constant (.str u) j pos) (TX G P W (.cst (.str s))) := by
  have e : u = ⟨s.toArray⟩ := by
    cases u with
    | mk a => cases a with
      | mk l => simp at hu; subst hu; rfl
  rw [e]
  exact pe_str.imp fun τ H VQ ⟨σ, S, Q, E, r, rs, w, q, e⟩ => q.here (d := .str s) rs (mk_str h) (by simpa only [wpE] using w)
theorem tx_glob {n : Str} {d : D} {v : V} {u : Value} (hg : Gl X n) (hm : X.mg n = some u) (r : RelV v u) (rd : ∀ H, RepD G.K H d v) (hd : (n == ("__debug__" : Str)) = false) : PE X (.Name n pos) (TX G P W (.cst d)) :=
  (pe_glob hg hm r hd).imp fun τ H VQ ⟨σ, S, Q, E, r, rs, w, q, e⟩ => q.here (d := d) rs (rd H) (by simpa only [wpE] using w)

/-! arguments, displays -/
theorem ta_nil : PA X [] (TAx G P W .nil) := pa_nil.imp fun τ H VQ ⟨σ, S, Q, E, r, rs, w, q, e⟩ => q [] S [] H (Stab.refl H) rs .nil (by simpa only [wpEs] using w)
theorem ta_cons (hs : notStar x = true) (ha : PE X x (TX G P W a)) (hr : PA X xs (TAx G P W es)) : PA X (x :: xs) (TAx G P W (.cons a es)) :=
  (pa_cons ha hr (star_of hs)).imp fun τ H VQ ⟨σ, S, Q, E, r, rs, w, q, e⟩ => by
    simp only [wpEs] at w
    refine ⟨σ, S, _, E, r, rs, w, fun d S1 v H1 s1 rs1 rd w1 => ⟨σ, S1, _, E, r.stab s1, rs1, w1, fun ds S2 vs H2 s2 rs2 rl w2 => ?_, e.stab s1⟩, e⟩
    exact q (d :: ds) S2 (v :: vs) H2 (s1.trans s2) rs2 (.cons (rd.stab s2) rl) w2
theorem tx_tup {k : Nat} (h : PA X xs (TAx G P W es)) : PE X (.Tuple xs k pos) (TX G P W (.tup es)) :=
  (pe_tup h).imp fun τ H VQ ⟨σ, S, Q, E, r, rs, w, q, e⟩ => by
    simp only [wpE] at w
    refine ⟨σ, S, _, E, r, rs, w, fun ds S1 vs H1 s1 rs1 rl ⟨w1, w2⟩ => ⟨by rw [← rl.len]; exact LIM_le w1, fun p n => ?_⟩, e⟩
    exact (q.stab s1).tup rs1 rl w2 n
theorem tx_lst (h : PA X xs (TAx G P W es)) : PE X (.List xs pos) (TX G P W (.lst es)) :=
  (pe_lst h).imp fun τ H VQ ⟨σ, S, Q, E, r, rs, w, q, e⟩ => by
    simp only [wpE] at w
    refine ⟨σ, S, _, E, r, rs, w, fun ds S1 vs H1 s1 rs1 rl ⟨w1, w2⟩ => ⟨by rw [← rl.len]; exact LIM_le w1, fun p n => ?_⟩, e⟩
    exact (q.stab s1).lst rs1 rl w2 n

/-! operators -/
theorem tx_bin {o : Bop} (hK : X.K = G.K) (ha : PE X x (TX G P W a)) (hb : PE X y (TX G P W b)) : PE X (.BinOp x (bopOf o) y pos) (TX G P W (.bin o a b)) :=
  (pe_op (bin_ok o hK) ha hb).imp fun τ H VQ ⟨σ, S, Q, E, r, rs, w, q, e⟩ => by
    simp only [wpE] at w
    exact ⟨σ, S, _, E, r, rs, w, fun d S1 v H1 s1 rs1 rd w1 => ⟨σ, S1, _, E, r.stab s1, rs1, w1, fun d2 S2 v2 H2 s2 rs2 rd2 w2 => ⟨d, d2, S2, Q, rd.stab s2, rd2, rs2, w2, q.stab (s1.trans s2)⟩, e.stab s1⟩, e⟩
theorem tx_neg (ha : PE X x (TX G P W a)) : PE X (.UnaryOp .USub x pos) (TX G P W (.neg a)) :=
  (pe_un un_neg ha).imp fun τ H VQ ⟨σ, S, Q, E, r, rs, w, q, e⟩ => by
    simp only [wpE] at w
    refine ⟨σ, S, _, E, r, rs, w, fun d S1 v H1 s1 rs1 rd w1 => ?_, e⟩
    cases d with
    | int i => exact ⟨i, rep_int rd, (q.stab s1).here rs1 mk_int w1⟩
    | _ => exact w1.elim
/-- two values, in a row -/
theorem tx_two {o : Cop} {τ : L2.St} {H : Hp} {VQ : VK} {σ : Ev} {S : Store} {E : QX} {Q : Bool → Store → Prop} (r : RepE G H σ τ) (rs : RelS G S H) (w : wpE P a σ S (fun d S1 => wpE P b σ S1 (fun e S2 => wpCmp o d e S2 fun k => Q k S2) E) E)
    (e : XOk G H E (fun c d H' => W c d τ H')) (q : ∀ k S' H', Stab H H' → RelS G S' H' → Q k S' → VQ (.bl k) H') : tOp (CmpV G o) (TX G P W a) (TX G P W b) τ H VQ :=
  ⟨σ, S, _, E, r, rs, w, fun d S1 v H1 s1 rs1 rd w1 => ⟨σ, S1, _, E, r.stab s1, rs1, w1, fun d2 S2 v2 H2 s2 rs2 rd2 w2 => ⟨d, d2, S2, _, rd.stab s2, rd2, rs2, w2, fun k hk => q k S2 H2 (s1.trans s2) rs2 hk⟩, e.stab s1⟩, e⟩
theorem tx_cmp {o : Cop} (hK : X.K = G.K) (hu : X.A.units + 65 < cLine) (hm : behindInMarks (copOf o) y = false) (ha : PE X x (TX G P W a)) (hb : PE X y (TX G P W b)) : PE X (.Compare x [copOf o] [y] pos) (TX G P W (.cmp o a b)) :=
  (pe_cmpR (cmp_ok o hK hu) ha hb hm).imp fun τ H VQ ⟨σ, S, Q, E, r, rs, w, q, e⟩ => by
    simp only [wpE] at w
    exact tx_two (Q := fun k S2 => Q (.bl k) S2) r rs w e fun k S' H' s' rs' h => q (.bl k) S' (.bl k) H' s' rs' mk_bl h
theorem tt_cmp {o : Cop} (hK : X.K = G.K) (hu : X.A.units + 65 < cLine) (hm : behindInMarks (copOf o) y = false) (ha : PE X x (TX G P W a)) (hb : PE X y (TX G P W b)) : PT X (.Compare x [copOf o] [y] pos) (TTx G P W (.cmp o a b)) :=
  (pt_cmpR (cmp_ok o hK hu) ha hb hm).imp fun τ H VQ ⟨σ, S, Q, E, r, rs, w, q, e⟩ => by
    simp only [wpT] at w
    exact tx_two (Q := Q) r rs w e fun k S' H' s' rs' h => ⟨k, rfl, q k S' H' s' rs' h⟩
theorem tx_three {o p : Cop} {τ : L2.St} {H : Hp} {VQ : VK} {σ : Ev} {S : Store} {E : QX} {Q : Bool → Store → Prop} (r : RepE G H σ τ) (rs : RelS G S H)
    (w : wpE P a σ S (fun x S1 => wpE P b σ S1 (fun y S2 => wpCmp o x y S2 fun k => if k = true then wpE P c σ S2 (fun z S3 => wpCmp p y z S3 fun j => Q j S3) E else Q false S2) E) E)
    (e : XOk G H E (fun c d H' => W c d τ H')) (q : ∀ k S' H', Stab H H' → RelS G S' H' → Q k S' → VQ (.bl k) H') : tChain (CmpV G o) (CmpV G p) (TX G P W a) (TX G P W b) (TX G P W c) τ H VQ := by
  refine ⟨σ, S, _, E, r, rs, w, fun d S1 v H1 s1 rs1 rd w1 => ⟨σ, S1, _, E, r.stab s1, rs1, w1, fun d2 S2 v2 H2 s2 rs2 rd2 w2 => ⟨d, d2, S2, _, rd.stab s2, rd2, rs2, w2, fun k hk => ⟨k, rfl, ?_⟩⟩, e.stab s1⟩, e⟩
  by_cases z : k = true
  · rw [if_pos z] at hk ⊢
    exact ⟨σ, S2, _, E, (r.stab s1).stab s2, rs2, hk, fun d3 S3 v3 H3 s3 rs3 rd3 w3 => ⟨d2, d3, S3, _, rd2.stab s3, rd3, rs3, w3, fun j hj => q j S3 H3 ((s1.trans s2).trans s3) rs3 hj⟩, (e.stab s1).stab s2⟩
  · rw [if_neg z] at hk ⊢
    exact q false S2 H2 (s1.trans s2) rs2 hk
theorem tx_chn {o p : Cop} (hK : X.K = G.K) (hu : X.A.units + 65 < cLine) (hm : lastMarks [copOf o, copOf p] [y, z] = false) (ha : PE X x (TX G P W a)) (hb : PE X y (TX G P W b)) (hc : PE X z (TX G P W c)) :
    PE X (.Compare x [copOf o, copOf p] [y, z] pos) (TX G P W (.chn o p a b c)) :=
  (pe_chain (cmp_ok o hK hu) (cmp_ok p hK hu) ha hb hc hm).imp fun τ H VQ ⟨σ, S, Q, E, r, rs, w, q, e⟩ => by
    simp only [wpE] at w
    exact tx_three (Q := fun k S2 => Q (.bl k) S2) r rs w e fun k S' H' s' rs' h => q (.bl k) S' (.bl k) H' s' rs' mk_bl h
theorem tt_chn {o p : Cop} (hK : X.K = G.K) (hu : X.A.units + 65 < cLine) (hm : lastMarks [copOf o, copOf p] [y, z] = false) (ha : PE X x (TX G P W a)) (hb : PE X y (TX G P W b)) (hc : PE X z (TX G P W c)) :
    PT X (.Compare x [copOf o, copOf p] [y, z] pos) (TTx G P W (.chn o p a b c)) :=
  (pt_chain (cmp_ok o hK hu) (cmp_ok p hK hu) ha hb hc hm).imp fun τ H VQ ⟨σ, S, Q, E, r, rs, w, q, e⟩ => by
    simp only [wpT] at w
    exact tx_three (Q := Q) r rs w e fun k S' H' s' rs' h => ⟨k, rfl, q k S' H' s' rs' h⟩
/-- a op b op c op d, as a test -/
theorem tt_ch3 {o p r : Cop} {u : Expr} {d : Ex} (hK : X.K = G.K) (hu : X.A.units + 65 < cLine) (hm : lastMarks [copOf o, copOf p, copOf r] [y, z, u] = false) (ha : PE X x (TX G P W a)) (hb : PE X y (TX G P W b)) (hc : PE X z (TX G P W c)) (hd : PE X u (TX G P W d)) :
    PT X (.Compare x [copOf o, copOf p, copOf r] [y, z, u] pos) (TTx G P W (.ch3 o p r a b c d)) := by
  refine ⟨fun pins s τ H VQ I ⟨σ, S, Q, E, re, rs, w, q, e⟩ => ?_⟩
  simp only [wpT] at w
  have ho := cmp_ok (X := X) (G := G) o hK hu
  have hp := cmp_ok (X := X) (G := G) p hK hu
  have hr := cmp_ok (X := X) (G := G) r hK hu
  refine isTrue_chain (thn (ha.run pins s τ H (fun v H1 => ∃ d1 S1, Stab H H1 ∧ RelS G S1 H1 ∧ RepD G.K H1 d1 v ∧ _) I ⟨σ, S, _, E, re, rs, w, fun d1 S1 v H1 s1 rs1 rd w1 => ⟨d1, S1, s1, rs1, rd, w1⟩, e⟩) fun v1 s1 ⟨x1, H1, I1, r1, d1, S1, st1, rs1, rd1, w1⟩ => ?_) hm
  refine test_link (thn (hb.run pins s1 τ H1 (fun v H2 => ∃ d2 S2, Stab H1 H2 ∧ RelS G S2 H2 ∧ RepD G.K H2 d2 v ∧ _) I1 ⟨σ, S1, _, E, re.stab st1, rs1, w1, fun d2 S2 v H2 s2 rs2 rd w2 => ⟨d2, S2, s2, rs2, rd, w2⟩, e.stab st1⟩) fun v2 s2 ⟨x2, H2, I2, r2, d2, S2, st2, rs2, rd2, w2⟩ => ?_)
  refine thn (ho pins s2 τ H2 x1 x2 v1 v2 (fun v H3 => ∃ k, v = .bl k ∧ H3 = H2 ∧ (if k = true then wpE P c σ S2 (fun z S3 => wpCmp p d2 z S3 fun j => if j = true then wpE P d σ S3 (fun u S4 => wpCmp r z u S4 fun i => Q i S4) E else Q false S3) E else Q false S2)) I2 r1 r2 ⟨d1, d2, S2, _, rd1.stab st2, rd2, rs2, w2, fun k hk => ⟨k, rfl, rfl, hk⟩⟩) fun v3 s3 ⟨x3, H3, I3, r3, k, ek, eH, wk⟩ => ?_
  subst ek
  subst eH
  cases r3
  refine wpAny_truthy_bool ?_
  cases k with
  | false =>
    rw [if_neg (by decide)] at wk
    exact ite_ff ⟨_, I3, q false S2 _ (st1.trans st2) rs2 wk⟩
  | true =>
    rw [if_pos rfl] at wk
    refine ite_tt (test_link (thn (hc.run pins s3 τ _ (fun v H4 => ∃ d4 S4, Stab _ H4 ∧ RelS G S4 H4 ∧ RepD G.K H4 d4 v ∧ _) I3 ⟨σ, S2, _, E, (re.stab st1).stab st2, rs2, wk, fun d4 S4 v H4 s4 rs4 rd w4 => ⟨d4, S4, s4, rs4, rd, w4⟩, (e.stab st1).stab st2⟩) fun v4 s4 ⟨x4, H4, I4, r4, d4, S4, st4, rs4, rd4, w4⟩ => ?_))
    refine thn (hp pins s4 τ H4 x2 x4 v2 v4 (fun v H5 => ∃ k, v = .bl k ∧ H5 = H4 ∧ (if k = true then wpE P d σ S4 (fun u S5 => wpCmp r d4 u S5 fun i => Q i S5) E else Q false S4)) I4 r2 r4 ⟨d2, d4, S4, _, rd2.stab st4, rd4, rs4, w4, fun k hk => ⟨k, rfl, rfl, hk⟩⟩) fun v5 s5 ⟨x5, H5, I5, r5, k, ek, eH, wk⟩ => ?_
    subst ek
    subst eH
    cases r5
    refine wpAny_truthy_bool ?_
    cases k with
    | false =>
      rw [if_neg (by decide)] at wk
      exact ite_ff ⟨_, I5, q false S4 _ ((st1.trans st2).trans st4) rs4 wk⟩
    | true =>
      rw [if_pos rfl] at wk
      refine ite_tt (test_last (thn (hd.run pins s5 τ _ (fun v H6 => ∃ d6 S6, Stab _ H6 ∧ RelS G S6 H6 ∧ RepD G.K H6 d6 v ∧ _) I5 ⟨σ, S4, _, E, ((re.stab st1).stab st2).stab st4, rs4, wk, fun d6 S6 v H6 s6 rs6 rd w6 => ⟨d6, S6, s6, rs6, rd, w6⟩, ((e.stab st1).stab st2).stab st4⟩) fun v6 s6 ⟨x6, H6, I6, r6, d6, S6, st6, rs6, rd6, w6⟩ => ?_))
      refine thn (hr pins s6 τ H6 x4 x6 v4 v6 (fun v H7 => ∃ k, v = .bl k ∧ H7 = H6 ∧ Q k S6) I6 r4 r6 ⟨d4, d6, S6, _, rd4.stab st6, rd6, rs6, w6, fun k hk => ⟨k, rfl, rfl, hk⟩⟩) fun v7 s7 ⟨x7, H7, I7, r7, k, ek, eH, wk⟩ => ?_
      subst ek
      subst eH
      cases r7
      exact wpAny_truthy_bool ⟨_, I7, q k S6 _ (((st1.trans st2).trans st4).trans st6) rs6 wk⟩
theorem tx_nt (ha : PE X x (TX G P W a)) : PE X (.UnaryOp .Not x pos) (TX G P W (.nt a)) :=
  (pe_not ha).imp fun τ H VQ ⟨σ, S, Q, E, r, rs, w, q, e⟩ => by
    simp only [wpE] at w
    refine ⟨σ, S, _, E, r, rs, w, fun d S1 v H1 s1 rs1 rd w1 => ?_, e⟩
    cases d with
    | bl i => exact ⟨i, rep_bl rd, (q.stab s1).here rs1 mk_bl w1⟩
    | _ => exact w1.elim
theorem tx_an {rest : List Expr} (ha : PE X x (TX G P W a)) (hb : PE X (.BoolOp .And (y :: rest) pos) (TX G P W b)) : PE X (.BoolOp .And (x :: y :: rest) pos) (TX G P W (.an a b)) :=
  (pe_and ha hb).imp fun τ H VQ ⟨σ, S, Q, E, r, rs, w, q, e⟩ => by
    simp only [wpE] at w
    refine ⟨σ, S, _, E, r, rs, w, fun d S1 v H1 s1 rs1 rd w1 => ?_, e⟩
    cases d with
    | bl i =>
      refine ⟨i, rep_bl rd, ?_⟩
      dsimp only at w1
      by_cases z : i = true
      · rw [if_pos z] at w1 ⊢
        exact ⟨σ, S1, Q, E, r.stab s1, rs1, w1, q.stab s1, e.stab s1⟩
      · rw [if_neg z] at w1 ⊢
        exact (q.stab s1).here rs1 mk_bl w1
    | _ => exact w1.elim
theorem tx_or {rest : List Expr} (ha : PE X x (TX G P W a)) (hb : PE X (.BoolOp .Or (y :: rest) pos) (TX G P W b)) : PE X (.BoolOp .Or (x :: y :: rest) pos) (TX G P W (.or_ a b)) :=
  (pe_or ha hb).imp fun τ H VQ ⟨σ, S, Q, E, r, rs, w, q, e⟩ => by
    simp only [wpE] at w
    refine ⟨σ, S, _, E, r, rs, w, fun d S1 v H1 s1 rs1 rd w1 => ?_, e⟩
    cases d with
    | bl i =>
      refine ⟨i, rep_bl rd, ?_⟩
      dsimp only at w1
      by_cases z : i = true
      · rw [if_pos z] at w1 ⊢
        exact (q.stab s1).here rs1 mk_bl w1
      · rw [if_neg z] at w1 ⊢
        exact ⟨σ, S1, Q, E, r.stab s1, rs1, w1, q.stab s1, e.stab s1⟩
    | _ => exact w1.elim
theorem tt_nt (ha : PT X x (TTx G P W a)) : PT X (.UnaryOp .Not x pos) (TTx G P W (.nt a)) :=
  (pt_not ha).imp fun τ H VQ ⟨σ, S, Q, E, r, rs, w, q, e⟩ => by
    simp only [wpT] at w
    exact ⟨σ, S, _, E, r, rs, w, fun b S1 H1 s1 rs1 w1 => q _ S1 H1 s1 rs1 w1, e⟩
theorem tw_an {rest : List Expr} (ha : PT X x (TTx G P W a)) (hb : PW X (.BoolOp .And (y :: rest) pos) (TTx G P W b)) : PW X (.BoolOp .And (x :: y :: rest) pos) (TTx G P W (.an a b)) :=
  (pw_and ha hb).imp fun τ H VQ ⟨σ, S, Q, E, r, rs, w, q, e⟩ => by
    simp only [wpT] at w
    refine ⟨σ, S, _, E, r, rs, w, fun k S1 H1 s1 rs1 w1 => ?_, e⟩
    dsimp only at w1 ⊢
    by_cases z : k = true
    · rw [if_pos z] at w1 ⊢
      exact ⟨σ, S1, Q, E, r.stab s1, rs1, w1, q.stab s1, e.stab s1⟩
    · rw [if_neg z] at w1 ⊢
      exact q _ S1 H1 s1 rs1 w1
theorem tw_or {rest : List Expr} (ha : PT X x (TTx G P W a)) (hb : PW X (.BoolOp .Or (y :: rest) pos) (TTx G P W b)) : PW X (.BoolOp .Or (x :: y :: rest) pos) (TTx G P W (.or_ a b)) :=
  (pw_or ha hb).imp fun τ H VQ ⟨σ, S, Q, E, r, rs, w, q, e⟩ => by
    simp only [wpT] at w
    refine ⟨σ, S, _, E, r, rs, w, fun k S1 H1 s1 rs1 w1 => ?_, e⟩
    dsimp only at w1 ⊢
    by_cases z : k = true
    · rw [if_pos z] at w1 ⊢
      exact q _ S1 H1 s1 rs1 w1
    · rw [if_neg z] at w1 ⊢
      exact ⟨σ, S1, Q, E, r.stab s1, rs1, w1, q.stab s1, e.stab s1⟩
theorem tx_ite (hc : PT X z (TTx G P W c)) (ha : PE X x (TX G P W a)) (hb : PE X y (TX G P W b)) : PE X (.IfExp z x y pos) (TX G P W (.ite c a b)) :=
  (pe_ifExp hc ha hb).imp fun τ H VQ ⟨σ, S, Q, E, r, rs, w, q, e⟩ => by
    simp only [wpE] at w
    refine ⟨σ, S, _, E, r, rs, w, fun k S1 H1 s1 rs1 w1 => ?_, e⟩
    dsimp only at w1 ⊢
    by_cases z : k = true
    · rw [if_pos z] at w1 ⊢
      exact ⟨σ, S1, Q, E, r.stab s1, rs1, w1, q.stab s1, e.stab s1⟩
    · rw [if_neg z] at w1 ⊢
      exact ⟨σ, S1, Q, E, r.stab s1, rs1, w1, q.stab s1, e.stab s1⟩
/-- a value as a test -/
theorem tt_val (hK : X.K = G.K) (hv : valHead x = true) (ha : PE X x (TX G P W a)) (h : ∀ σ S (Q : Bool → Store → Prop) E, wpT P a σ S Q E → wpE P a σ S (fun d S1 => wpTru d S1 fun b => Q b S1) E) : PT X x (TTx G P W a) :=
  (pt_truth ha (isTrue_of hv)).imp fun τ H VQ ⟨σ, S, Q, E, r, rs, w, q, e⟩ => by
    refine ⟨σ, S, _, E, r, rs, h _ _ _ _ w, fun d S1 v H1 s1 rs1 rd w1 => ?_, e⟩
    obtain ⟨k, h1, h2⟩ := tru_rep hK.symm rd rs1 w1
    exact ⟨k, h1, q k S1 H1 s1 rs1 h2⟩

/-! places, fields -/
theorem tx_idx (hK : X.K = G.K) (hu : X.A.units + 65 < cLine) (hp : notSlice y = true) (ha : PE X x (TX G P W a)) (hb : PE X y (TX G P W b)) : PE X (.Subscript x y pos) (TX G P W (.idx a b)) :=
  (pe_ix (idx_ok hK (by omega)) ha hb (plain_of hp)).imp fun τ H VQ ⟨σ, S, Q, E, r, rs, w, q, e⟩ => by
    simp only [wpE] at w
    exact ⟨σ, S, _, E, r, rs, w, fun d S1 v H1 s1 rs1 rd w1 => ⟨σ, S1, _, E, r.stab s1, rs1, w1, fun d2 S2 v2 H2 s2 rs2 rd2 w2 => ⟨d, d2, S2, Q, rd.stab s2, rd2, rs2, w2, q.stab (s1.trans s2)⟩, e.stab s1⟩, e⟩
/-- a part of a slice: nothing, or a value -/
def PartX (G : Gx) (P : Pm) (W : WX) (X : Cx) (o : Option Expr) (a : Ex) : Prop := (o = none ∧ a = .cst .non) ∨ ∃ x, o = some x ∧ PE X x (TX G P W a)
def tPartX (G : Gx) (P : Pm) (W : WX) (o : Option Expr) (a : Ex) : TO := match o with
  | none => tNoPart
  | some _ => tPart (TX G P W a)
theorem mem_fget : ∀ {fs : List (Nat × D)} {f : Nat} {d : D}, fget fs f = some d → (f, d) ∈ fs
  | [], _, _, e => by simp [fget] at e
  | (g, y) :: r, f, d, e => by
    by_cases z : f = g
    · subst z
      have e2 : y = d := by simpa [fget] using e
      subst e2
      exact List.mem_cons_self
    · have hb : (f == g) = false := by simpa using z
      exact List.mem_cons_of_mem _ (mem_fget (by simpa [fget, List.lookup_cons, hb] using e))
theorem fld_ins {S : Store} {H : Hp} {p : Addr} {C : Nat} {fs : List (Nat × D)} {f : Nat} {d : D} (rs : RelS G S H) (e : S p = some (.ins C fs)) (g : fget fs f = some d) :
    ∃ dx ws v, H p = some (.ins (G.cls C) dx ws) ∧ Cls G.K (G.cls C) ∧ NoAttr G.K (G.cls C) (G.fnm f) ∧ ws.lookup (G.fnm f) = some v ∧ RepD G.K H d v := by
  obtain ⟨dx, ws, h1, h2, h3, h4⟩ := rs p _ e
  obtain ⟨v, h5, h6⟩ := h2.get g
  refine ⟨dx, ws, v, h1, h3, ?_, h5, h6⟩
  have : ∃ y, (f, y) ∈ fs := by
    exact ⟨d, mem_fget g⟩
  obtain ⟨y, hy⟩ := this
  exact h4 _ hy
theorem tx_fld {f : Nat} {n : Str} (hK : X.K = G.K) (hn : G.fnm f = n) (hs : noSuper x = true) (ha : PE X x (TX G P W a)) : PE X (.Attribute x n pos) (TX G P W (.fld a f)) :=
  (pe_fld ha (base_of hs)).imp fun τ H VQ ⟨σ, S, Q, E, r, rs, w, q, e⟩ => by
    simp only [wpE] at w
    refine ⟨σ, S, _, E, r, rs, w, fun d S1 v H1 s1 rs1 rd w1 => ?_, e⟩
    subst hn
    unfold wpFld at w1
    dsimp only at w1
    split at w1
    · rename_i p
      split at w1
      · rename_i C fs he
        split at w1
        · rename_i d' hg
          obtain ⟨dx, ws, v', h1, h2, h3, h4, h5⟩ := fld_ins rs1 he hg
          rw [hK]
          exact ⟨p, G.cls C, dx, ws, v', rep_ref rd, h1, h2, h3, h4, (q.stab s1).here rs1 h5 w1⟩
        · exact w1.elim
      · exact w1.elim
    · exact w1.elim
end
end Fv

set_option Elab.async false
set_option linter.all false
set_option maxRecDepth 100000
set_option maxHeartbeats 4000000
/-! Expressions: slices, calls, methods. -/
namespace Fv
open PySem PySem.Spec PyProof.Rows L2
section
variable {G : Gx} {P : Pm} {W : WX} {X : Cx} {x y z : Expr} {a b c : Ex} {xs : List Expr} {es : Exs} {pos : Pos}

/-! slices -/
theorem isN_eq {a : Ex} (h : isN a = true) : a = .cst .non := by
  cases a with
  | cst d => cases d <;> first | rfl | exact Bool.noConfusion h
  | _ => exact Bool.noConfusion h
/-- a part of a slice: nothing, or a value -/
structure PartOk (G : Gx) (P : Pm) (W : WX) (X : Cx) (o : Option Expr) (a : Ex) (t : TO) : Prop where
  po : PO X o t
  go : ∀ (τ : L2.St) (H : Hp) (VQ : Option Int → Hp → Prop) (σ : Ev) (S : Store) (Q : QD) (E : QX), RepE G H σ τ → RelS G S H → wpE P a σ S Q E → XOk G H E (fun c d H' => W c d τ H') →
    (∀ d S' H', Stab H H' → RelS G S' H' → Q d S' → prt a d = true ∧ ∀ l, partOf d = some l → VQ l H') → t τ H VQ
theorem part_none : PartOk G P W X none (.cst .non) tNoPart := by
  refine ⟨po_none, fun τ H VQ σ S Q E r rs w e h => ?_⟩
  simp only [wpE] at w
  exact (h .non S H (Stab.refl H) rs w).2 none rfl
theorem part_some (hn : isN a = false) (ha : PE X x (TX G P W a)) : PartOk G P W X (some x) a (tPart (TX G P W a)) := by
  refine ⟨po_some ha, fun τ H VQ σ S Q E r rs w e h => ⟨σ, S, Q, E, r, rs, w, fun d S1 v H1 s1 rs1 rd w1 => ?_, e⟩⟩
  obtain ⟨h1, h2⟩ := h d S1 H1 s1 rs1 w1
  cases d with
  | int i => exact ⟨i, rep_int rd, h2 _ rfl⟩
  | non =>
    have : isN a = true := h1
    rw [hn] at this
    cases this
  | _ => cases h1
theorem tx_sli {lo hi : Option Expr} {l h : Ex} {tl th : TO} {p2 : Pos} (hK : X.K = G.K) (ha : PE X x (TX G P W a)) (hl : PartOk G P W X lo l tl) (hh : PartOk G P W X hi h th) : PE X (.Subscript x (.Slice lo hi none p2) pos) (TX G P W (.sli a l h)) :=
  (pe_slice (sli_ok hK) ha hl.po hh.po).imp fun τ H VQ ⟨σ, S, Q, E, r, rs, w, q, e⟩ => by
    simp only [wpE] at w
    refine ⟨σ, S, _, E, r, rs, w, fun d S1 v H1 s1 rs1 rd w1 => ?_, e⟩
    refine hl.go τ H1 _ σ S1 _ E (r.stab s1) rs1 w1 (e.stab s1) fun dl S2 H2 s2 rs2 ⟨w2, w3⟩ => ⟨w2, fun ll el => ?_⟩
    refine hh.go τ H2 _ σ S2 _ E ((r.stab s1).stab s2) rs2 w3 ((e.stab s1).stab s2) fun dh S3 H3 s3 rs3 ⟨w4, w5⟩ => ⟨w4, fun lh eh => ?_⟩
    exact ⟨d, S3, Q, dl, dh, (rd.stab s2).stab s3, rs3, el, eh, w5, q.stab ((s1.trans s2).trans s3)⟩

/-! argument lists -/
def allPlain (xs : List Expr) : Bool := xs.all notStar && decide (xs.length < 29)
theorem plain_cons (h : allPlain (x :: xs) = true) : notStar x = true ∧ allPlain xs = true := by
  simp only [allPlain, List.all_cons, List.length_cons, Bool.and_eq_true, decide_eq_true_eq] at h ⊢
  exact ⟨h.1.1, h.1.2, by omega⟩
theorem plain_any {env : Env} : ∀ {xs : List Expr}, allPlain xs = true → (backTo pos (starEach xs env)).any (·.1) = false
  | [], _ => rfl
  | x :: xs, h => by
    obtain ⟨h1, h2⟩ := plain_cons h
    have e : starEach (x :: xs) env = (false, eval x env) :: starEach xs env := by cases x <;> first | rfl | exact Bool.noConfusion h1
    rw [e]
    exact plain_any h2
theorem plain_all {env : Env} : ∀ {xs : List Expr}, allPlain xs = true → (backTo pos (starEach xs env)).all (fun x => !x.1) = true
  | [], _ => rfl
  | x :: xs, h => by
    obtain ⟨h1, h2⟩ := plain_cons h
    have e : starEach (x :: xs) env = (false, eval x env) :: starEach xs env := by cases x <;> first | rfl | exact Bool.noConfusion h1
    rw [e]
    exact plain_all h2
theorem plain_star {env : Env} (h : allPlain (x :: xs) = true) : starEach (x :: xs) env = (false, eval x env) :: starEach xs env := by
  have h1 := (plain_cons h).1
  cases x <;> first | rfl | exact Bool.noConfusion h1
theorem plain_few {env : Env} (h : allPlain xs = true) : ((backTo pos (starEach xs env)).all (fun x => !x.1) && (backToKw pos (keywordEach [] env)).all (fun x => x.1.isSome)
      && decide (xs.length + ([] : List Keyword).length + (if ([] : List Keyword).isEmpty then 0 else 1) < 30)) = true := by
  rw [plain_all h]
  have : xs.length < 29 := by
    simp only [allPlain, Bool.and_eq_true, decide_eq_true_eq] at h
    exact h.2
  simp [backToKw, keywordEach]
  omega

/-! what can be called -/
/-- a callable with a promise by plain data -/
def CalW (G : Gx) (X : Cx) (W : WX) (f : Value) (sp : List D → Store → QD → QX → Prop) : Prop :=
  ∀ (pins : List (Addr × Obj)) (s : Shared) (τ : L2.St) (H : Hp) (vs : List V) (us : List Value) (VQ : VK), Inv X pins τ H s → Vals vs us →
    (∃ ds S Q E, RepL G.K H ds vs ∧ RelS G S H ∧ sp ds S Q E ∧ QOk G H Q VQ ∧ XOk G H E (fun c d H' => W c d τ H')) → wpAny (model X.prog X.w) X.A (call f us) (EP X pins τ VQ) X.xe s
theorem ta_run {pins : List (Addr × Obj)} {s : Shared} {τ : L2.St} {H : Hp} {VQ : VK} {σ : Ev} {S : Store} {E : QX} {sp : List D → Store → QD → QX → Prop} {Q : QD} (e : XOk G H E (fun c d H' => W c d τ H')) (q : QOk G H Q VQ) {f : Value} (hf : CalW G X W f sp) {ds : List D} {S1 : Store} {vs : List V} {us : List Value} {H1 : Hp}
    (I : Inv X pins τ H1 s) (r : Vals vs us) (s1 : Stab H H1) (rs1 : RelS G S1 H1) (rl : RepL G.K H1 ds vs) (w : sp ds S1 Q E) : wpAny (model X.prog X.w) X.A (call f us) (EP X pins τ VQ) X.xe s :=
  hf pins s τ H1 vs us VQ I r ⟨ds, S1, Q, E, rl, rs1, w, q.stab s1, e.stab s1⟩
theorem args_any {M : Model} {A : Around} {EE : Value → Shared → Prop} {s : Shared} {env : Env} {f : Value} {Q : Args → Shared → Prop} : ∀ {xs : List Expr}, allPlain xs = true →
    wpAny M A (spliced (backTo pos (starEach xs env))) (fun vs s' => Q ⟨vs, []⟩ s') EE s → wpAny M A (evalArgs f true (backTo pos (starEach xs env)) []) Q EE s
  | [], _, h => by
    show wpAny M A (evalArgs f true [] []) Q EE s
    unfold evalArgs
    show wpAny M A (spliced [] >>= _) Q EE s
    refine wpAny_bind (wpAny_mono h (fun vs s' h' => wpAny_bind (wpAny_pure ?_)) fun _ _ x => x)
    refine wpAny_holding ?_
    exact wpAny_bind (wpAny_pure (wpAny_bind (wpAny_pure (wpAny_pure h'))))
  | x :: xs, hp, h => by
    rw [plain_star hp] at h ⊢
    exact Calls.evalArgs_plain h
/-- the arguments, then what the callable wants -/
theorem ta_go {pins : List (Addr × Obj)} {s : Shared} {τ : L2.St} {H : Hp} {σ : Ev} {S : Store} {E : QX} {R : List D → Store → Prop} (ha : PA X xs (TAx G P W es)) (I : Inv X pins τ H s) (r : RepE G H σ τ) (rs : RelS G S H) (w : wpEs P es σ S R E)
    (e : XOk G H E (fun c d H' => W c d τ H')) {QQ : List Value → Shared → Prop} (k : ∀ ds S1 vs us H1 s1, Inv X pins τ H1 s1 → Vals vs us → Stab H H1 → RelS G S1 H1 → RepL G.K H1 ds vs → R ds S1 → QQ us s1) :
    wpAny (model X.prog X.w) X.A (spliced (backTo pos (starEach xs X.env))) QQ X.xe s :=
  thn (ha.run pos pins s τ H (fun vs H1 => ∃ ds S1, Stab H H1 ∧ RelS G S1 H1 ∧ RepL G.K H1 ds vs ∧ R ds S1) I ⟨σ, S, _, E, r, rs, w, fun ds S1 vs H1 s1 rs1 rl w1 => ⟨ds, S1, s1, rs1, rl, w1⟩, e⟩)
    fun us s1 ⟨vs, H1, I1, rv, ds, S1, s1', rs1, rl, w1⟩ => k ds S1 vs us H1 s1 I1 rv s1' rs1 rl w1
theorem te_go {pins : List (Addr × Obj)} {s : Shared} {τ : L2.St} {H : Hp} {σ : Ev} {S : Store} {E : QX} {R : D → Store → Prop} (ha : PE X x (TX G P W a)) (I : Inv X pins τ H s) (r : RepE G H σ τ) (rs : RelS G S H) (w : wpE P a σ S R E)
    (e : XOk G H E (fun c d H' => W c d τ H')) {QQ : Value → Shared → Prop} (k : ∀ d S1 v u H1 s1, Inv X pins τ H1 s1 → RelV v u → Stab H H1 → RelS G S1 H1 → RepD G.K H1 d v → R d S1 → QQ u s1) :
    wpAny (model X.prog X.w) X.A (eval x X.env) QQ X.xe s :=
  thn (ha.run pins s τ H (fun v H1 => ∃ d S1, Stab H H1 ∧ RelS G S1 H1 ∧ RepD G.K H1 d v ∧ R d S1) I ⟨σ, S, _, E, r, rs, w, fun d S1 v H1 s1 rs1 rd w1 => ⟨d, S1, s1, rs1, rd, w1⟩, e⟩)
    fun u s1 ⟨v, H1, I1, rv, d, S1, s1', rs1, rd, w1⟩ => k d S1 v u H1 s1 I1 rv s1' rs1 rd w1
/-- f(..), f a kept object of the text -/
theorem kept_call {pins : List (Addr × Obj)} {s : Shared} {τ : L2.St} {H : Hp} {f : Value} {first : List Value} {VQ : VK} (I : Inv X pins τ H s) (hk : PySem.W.keepIn X.K f = true) (hp : allPlain xs = true)
    (h : wpAny (model X.prog X.w) X.A (spliced (backTo pos (starEach xs X.env))) (fun us s1 => X.K.In s1.heap ∧ wpAny (model X.prog X.w) X.A (call f (first ++ us)) (EP X pins τ VQ) X.xe s1) X.xe s) :
    wpAny (model X.prog X.w) X.A (callWith pos f first (backTo pos (starEach xs X.env)) []) (EP X pins τ VQ) X.xe s :=
  PySem.W.callWith_of (by rw [plain_any hp]; rfl) (PySem.W.keeps_K hk) (args_any hp h)
theorem tx_cal {f : Nat} {n : Str} {fa : Addr} {p : Pos} (hg : Gl X n) (hm : X.mg n = some (.ref fa)) (hk : PySem.W.keepIn X.K (.ref fa) = true) (hd : (n == ("__debug__" : Str)) = false) (hp : allPlain xs = true)
    (hf : CalW G X W (.ref fa) (P.call f)) (ha : PA X xs (TAx G P W es)) : PE X (.Call (.Name n p) xs [] pos) (TX G P W (.cal f es)) := by
  refine ⟨fun pins s τ H VQ I ⟨σ, S, Q, E, r, rs, w, q, e⟩ => ?_⟩
  simp only [wpE] at w
  refine wpAny_Call_Name_kw (ld_glob I hg hm ?_ hd)
  refine kept_call (first := []) I hk hp (ta_go ha I r rs w e fun ds S1 vs us H1 s1 I1 rv s1' rs1 rl w1 => ⟨I1.kIn, ?_⟩)
  exact hf pins s1 τ H1 vs us VQ I1 rv ⟨ds, S1, Q, E, rl, rs1, w1, q.stab s1', e.stab s1'⟩
/-- C(..) -/
def MakW (G : Gx) (P : Pm) (X : Cx) (W : WX) (ca : Addr) (C f : Nat) : Prop :=
  CalW G X W (.ref ca) fun ds S Q E => ∀ p, S p = none → P.call f (.ref p :: ds) (su S p (.ins C [])) (fun v S2 => v = .non ∧ Q (.ref p) S2) E
theorem tx_mak {C f : Nat} {n : Str} {ca : Addr} {p : Pos} (hg : Gl X n) (hm : X.mg n = some (.ref ca)) (hk : PySem.W.keepIn X.K (.ref ca) = true) (hd : (n == ("__debug__" : Str)) = false) (hp : allPlain xs = true)
    (hi : P.ini C = some f) (hf : MakW G P X W ca C f) (ha : PA X xs (TAx G P W es)) : PE X (.Call (.Name n p) xs [] pos) (TX G P W (.mak C es)) := by
  refine ⟨fun pins s τ H VQ I ⟨σ, S, Q, E, r, rs, w, q, e⟩ => ?_⟩
  simp only [wpE, hi] at w
  refine wpAny_Call_Name_kw (ld_glob I hg hm ?_ hd)
  refine kept_call (first := []) I hk hp (ta_go ha I r rs w e fun ds S1 vs us H1 s1 I1 rv s1' rs1 rl w1 => ⟨I1.kIn, ?_⟩)
  exact hf pins s1 τ H1 vs us VQ I1 rv ⟨ds, S1, Q, E, rl, rs1, w1, q.stab s1', e.stab s1'⟩
/-- the arm of o.m(..) -/
theorem meth_arm {M : Model} {A : Around} {EE : Value → Shared → Prop} {s : Shared} {env : Env} {m : Str} {apos : Pos} {Q : Value → Shared → Prop} (hb : noSuper x = true) (hp : allPlain xs = true) (hl : (apos.endLine == pos.line) = true)
    (h : wpAny M A (eval x env) (fun ov s₁ => wpAny M A (getMethod ov m (do return (← importBound x env).getD true)) (fun fx s₂ => wpAny M A (callWith pos fx.1 fx.2 (backTo pos (starEach xs env)) []) Q EE s₂) EE s₁) EE s) :
    wpAny M A (eval (.Call (.Attribute x m apos) xs [] pos) env) Q EE s := by
  rw [arm_eval_Call, base_of hb]
  refine wpAny_bind (wpAny_mono h (fun ov s₁ h₁ => ?_) fun _ _ e => e)
  refine wpAny_bind (wpAny_standAt ?_)
  have hform : methodCallForm (xs.length + ([] : List Keyword).length) (backTo pos (starEach xs env)) (backToKw pos (keywordEach [] env)) = true := plain_few hp
  have hpos : methodCallPos true x env apos pos = pure pos := by unfold methodCallPos; simp [hl]
  unfold methodCall
  rw [hform]
  refine wpAny_bind (wpAny_holding (wpAny_mono h₁ (fun fx s₂ h₂ => ?_) fun _ _ e => e))
  exact wpAny_bind (wpAny_of_eq hpos h₂)
/-- the class's method, and its promise -/
def MetW (G : Gx) (P : Pm) (X : Cx) (W : WX) (m : Str) (C f : Nat) : Prop := ∃ fa, Meth G.K (G.cls C) m fa ∧ CalW G X W (.ref fa) (P.call f)
theorem noAttr_meth {K : PySem.W.Frag} {C fa : Addr} {m : Str} (k : Meth K C m fa) : ∀ {H : Hp} {fs : List (Nat × D)} {ws : List (Str × V)}, RepF G H fs ws → (∀ p ∈ fs, NoAttr K C (G.fnm p.1)) → ws.lookup m = none
  | _, [], _, r, _ => by
    have e : _ = _ := r
    rw [e] <;> rfl
  | H, (i, d) :: fs, _, r, h => by
    obtain ⟨v, q, rfl, _, h2⟩ := r
    have n1 : G.fnm i ≠ m := by
      rintro rfl
      have h3 : PySem.W.findIn K (.ref C) (G.fnm i) = some none := h (i, d) List.mem_cons_self
      rw [k.at_] at h3
      cases h3
    have hb : (m == G.fnm i) = false := by simp only [beq_eq_false_iff_ne]; exact Ne.symm n1
    rw [List.lookup_cons, hb]
    exact noAttr_meth k h2 fun p hp => h p (List.mem_cons_of_mem _ hp)
theorem met_go {m : Str} {mi : Nat} {apos : Pos} {pins : List (Addr × Obj)} {s : Shared} {τ : L2.St} {H : Hp} {VQ : VK} {σ : Ev} {S : Store} {Q : QD} {E : QX} (hK : X.K = G.K) (hb : noSuper x = true) (hp : allPlain xs = true) (hl : (apos.endLine == pos.line) = true) (hf : ∀ C f, P.mth C mi = some f → MetW G P X W m C f) (hx : PE X x (TX G P W a)) (ha : PA X xs (TAx G P W es))
    (I : Inv X pins τ H s) (r : RepE G H σ τ) (rs : RelS G S H) (w : wpE P (.met a mi es) σ S Q E) (q : QOk G H Q VQ) (e : XOk G H E (fun c d H' => W c d τ H')) :
    wpAny (model X.prog X.w) X.A (eval (.Call (.Attribute x m apos) xs [] pos) X.env) (EP X pins τ VQ) X.xe s := by
  simp only [wpE] at w
  refine meth_arm hb hp hl (te_go hx I r rs w e fun d S1 v u H1 s1 I1 rv s1' rs1 rd w1 => ?_)
  split at w1
  · rename_i p
    split at w1
    · rename_i C fs hc
      split at w1
      · rename_i f hm
        obtain ⟨fa, hm1, hm2⟩ := hf C f hm
        obtain ⟨dx, ws, h1, h2, h3, h4⟩ := rs1 p _ hc
        have hl0 : ws.lookup m = none := noAttr_meth hm1 h2 h4
        have ev := rep_ref rd
        subst ev
        obtain rfl : u = Value.ref p := rv
        refine getmeth_ok (g := fa) I1 h1 (by rw [hK]; exact h3) (by rw [hK]; exact hm1) hl0 ?_
        refine kept_call (first := [.ref p]) I1 (by rw [hK]; exact hm1.kp) hp (ta_go ha I1 (r.stab s1') rs1 w1 (e.stab s1') fun ds S2 vs us H2 s2 I2 rv2 s2' rs2 rl w2 => ⟨I2.kIn, ?_⟩)
        exact hm2 pins s2 τ H2 (.ref p :: vs) (.ref p :: us) VQ I2 (.cons rfl rv2) ⟨.ref p :: ds, S2, Q, E, .cons mk_ref rl, rs2, w2, q.stab (s1'.trans s2'), e.stab (s1'.trans s2')⟩
      · exact w1.elim
    · exact w1.elim
  · exact w1.elim
theorem tx_met {m : Str} {mi : Nat} {apos : Pos} (hK : X.K = G.K) (hb : noSuper x = true) (hp : allPlain xs = true) (hl : (apos.endLine == pos.line) = true) (hf : ∀ C f, P.mth C mi = some f → MetW G P X W m C f) (hx : PE X x (TX G P W a)) (ha : PA X xs (TAx G P W es)) :
    PE X (.Call (.Attribute x m apos) xs [] pos) (TX G P W (.met a mi es)) :=
  ⟨fun pins s τ H VQ I ⟨σ, S, Q, E, r, rs, w, q, e⟩ => met_go hK hb hp hl hf hx ha I r rs w q e⟩

/-! built-in functions and types -/
theorem any_blt {id : String} {r : List V → Hp → VK → Prop} {pins : List (Addr × Obj)} {s : Shared} {τ : L2.St} {VQ : VK} (hp : allPlain xs = true)
    (h : wpAny (model X.prog X.w) X.A (spliced (backTo pos (starEach xs X.env))) (fun us s1 => wpAny (model X.prog X.w) X.A (call (.builtin id) us) (EP X pins τ VQ) X.xe s1) X.xe s) :
    wpAny (model X.prog X.w) X.A (callWith pos (.builtin id) [] (backTo pos (starEach xs X.env)) []) (EP X pins τ VQ) X.xe s :=
  Calls.callWith_builtin (plain_any hp) (args_any hp h)
theorem any_ty {id : String} {pins : List (Addr × Obj)} {s : Shared} {τ : L2.St} {VQ : VK} (hp : allPlain xs = true)
    (h : wpAny (model X.prog X.w) X.A (spliced (backTo pos (starEach xs X.env))) (fun us s1 => wpAny (model X.prog X.w) X.A (call (.type id) us) (EP X pins τ VQ) X.xe s1) X.xe s) :
    wpAny (model X.prog X.w) X.A (callWith pos (.type id) [] (backTo pos (starEach xs X.env)) []) (EP X pins τ VQ) X.xe s :=
  PyProof.Rows.callWith_type (plain_any hp) (args_any hp h)
theorem tx_blt {b : Nat} {n : Str} {id : String} {p : Pos} (hg : Gl X n) (hm : X.mg n = none) (hv : bootBuiltins n = some (.builtin id)) (hn : n ≠ "__name__") (hd : (n == ("__debug__" : Str)) = false) (hp : allPlain xs = true)
    (hf : CallR X (.builtin id) (BltV G b)) (ha : PA X xs (TAx G P W es)) : PE X (.Call (.Name n p) xs [] pos) (TX G P W (.blt b es)) := by
  refine ⟨fun pins s τ H VQ I ⟨σ, S, Q, E, r, rs, w, q, e⟩ => ?_⟩
  simp only [wpE] at w
  refine wpAny_Call_Name_kw (ld_blt I hg hm hv ?_ hn hd)
  refine any_blt (r := BltV G b) hp (ta_go ha I r rs w e fun ds S1 vs us H1 s1 I1 rv s1' rs1 rl w1 => ?_)
  exact hf pins s1 τ H1 vs us VQ I1 rv ⟨ds, S1, Q, rl, rs1, w1, q.stab s1'⟩
theorem tx_bty {b : Nat} {n : Str} {id : String} {p : Pos} (hg : Gl X n) (hm : X.mg n = none) (hv : bootBuiltins n = some (.type id)) (hn : n ≠ "__name__") (hd : (n == ("__debug__" : Str)) = false) (hp : allPlain xs = true)
    (hf : CallR X (.type id) (BltV G b)) (ha : PA X xs (TAx G P W es)) : PE X (.Call (.Name n p) xs [] pos) (TX G P W (.blt b es)) := by
  refine ⟨fun pins s τ H VQ I ⟨σ, S, Q, E, r, rs, w, q, e⟩ => ?_⟩
  simp only [wpE] at w
  refine wpAny_Call_Name_kw (ld_blt I hg hm hv ?_ hn hd)
  refine any_ty hp (ta_go ha I r rs w e fun ds S1 vs us H1 s1 I1 rv s1' rs1 rl w1 => ?_)
  exact hf pins s1 τ H1 vs us VQ I1 rv ⟨ds, S1, Q, rl, rs1, w1, q.stab s1'⟩
/-- {} -/
theorem tx_dic {t : Bool} : PE X (.Dict [] [] pos) (TX G P W (.dic t)) := by
  cases t with
  | false =>
    exact pe_dnewK.imp fun τ H VQ ⟨σ, S, Q, E, r, rs, w, q, e⟩ => by
      simp only [wpE] at w
      exact fun p n => q (.ref p) _ (.ref p) _ (Stab.new n) (rs.newC (c := .dct false []) n ⟨[], upd_same, rfl⟩) mk_ref (w p (rs.free n))
  | true =>
    exact pe_dnewT.imp fun τ H VQ ⟨σ, S, Q, E, r, rs, w, q, e⟩ => by
      simp only [wpE] at w
      exact fun p n => q (.ref p) _ (.ref p) _ (Stab.new n) (rs.newC (c := .dct true []) n ⟨[], upd_same, rfl⟩) mk_ref (w p (rs.free n))

/-! built-in methods -/
/-- the built-in method b of objects of kind k: the type, the method's name and id, its rule -/
structure BmOk (G : Gx) (X : Cx) (b k : Nat) (m : Str) (T id : String) : Prop where
  pa : PlainAttrs T
  slot : Slot T m id
  hty : typeOf (.builtin id) = pure (.type "method_descriptor")
  run : MtR X id (BmtV G b k)
  ty : ∀ (S : Store) (H : Hp) (d : D) (v : V), RelS G S H → RepD G.K H d v → kindAt S d = k → tyV X.K T v H
theorem bmt_go {m : Str} {b : Nat} {apos : Pos} {pins : List (Addr × Obj)} {s : Shared} {τ : L2.St} {H : Hp} {VQ : VK} {σ : Ev} {S : Store} {Q : QD} {E : QX} (hb : noSuper x = true) (hp : allPlain xs = true) (hl : (apos.endLine == pos.line) = true)
    (hf : ∀ k, mOk b k = true → ∃ T id, BmOk G X b k m T id) (hx : PE X x (TX G P W a)) (ha : PA X xs (TAx G P W es))
    (I : Inv X pins τ H s) (r : RepE G H σ τ) (rs : RelS G S H) (w : wpE P (.bmt b a es) σ S Q E) (q : QOk G H Q VQ) (e : XOk G H E (fun c d H' => W c d τ H')) :
    wpAny (model X.prog X.w) X.A (eval (.Call (.Attribute x m apos) xs [] pos) X.env) (EP X pins τ VQ) X.xe s := by
  simp only [wpE] at w
  refine wpAny_Call_method_late (base_of hb) (plain_few hp) hl rfl (te_go hx I r rs w e fun d S1 v u H1 s1 I1 rv s1' rs1 rd ⟨w1, w2⟩ => ?_)
  obtain ⟨T, id, B⟩ := hf _ w1
  obtain ⟨h1, h2⟩ := tyV_is I1 rv (B.ty S1 H1 d v rs1 rd rfl)
  refine ⟨T, id, B.pa, B.slot, B.hty, h1, h2, Calls.callWith_builtin (plain_any hp) (args_any hp ?_)⟩
  refine ta_go ha I1 (r.stab s1') rs1 w2 (e.stab s1') fun ds S2 vs us H2 s2 I2 rv2 s2' rs2 rl ⟨w3, w4⟩ => ?_
  exact B.run pins s2 τ H2 v vs u us VQ I2 rv rv2 ⟨d, ds, S2, Q, rd.stab s2', rl, rs2, w3, w4, q.stab (s1'.trans s2')⟩
theorem tx_bmt {m : Str} {b : Nat} {apos : Pos} (hb : noSuper x = true) (hp : allPlain xs = true) (hl : (apos.endLine == pos.line) = true)
    (hf : ∀ k, mOk b k = true → ∃ T id, BmOk G X b k m T id) (hx : PE X x (TX G P W a)) (ha : PA X xs (TAx G P W es)) : PE X (.Call (.Attribute x m apos) xs [] pos) (TX G P W (.bmt b a es)) :=
  ⟨fun pins s τ H VQ I ⟨σ, S, Q, E, r, rs, w, q, e⟩ => bmt_go hb hp hl hf hx ha I r rs w q e⟩
end
end Fv

set_option Elab.async false
set_option linter.all false
set_option maxRecDepth 100000
set_option maxHeartbeats 4000000
/-! Iterators, targets, comprehensions. -/
namespace Fv
open PySem PySem.Spec PyProof.Rows L2
section
variable {G : Gx} {P : Pm} {W : WX} {X : Cx} {x y z : Expr} {a b c : Ex} {xs : List Expr} {es : Exs} {pos : Pos}

/-! what an iterator hands out -/
theorem ito_list {K : PySem.W.Frag} {p : Addr} {ds : List D} {H0 : Hp} (hK : K = G.K) : ItOk G (Itl K p) ds (fun S => S p = some (.lst ds)) H0 where
  go := fun i S H s rs st hi => by
    obtain ⟨vs, h1, h2⟩ := rs p _ st
    have hv : i < vs.length := by rw [← h2.len]; exact hi
    refine ⟨⟨vs, vs[i], .inl (.inl h1), List.getElem?_eq_getElem hv⟩, fun x H' ⟨e, hx⟩ => ?_⟩
    subst e
    obtain ⟨d, h3, h4⟩ := h2.getV (hx vs (.inl (.inl h1)))
    exact ⟨Stab.refl _, rs, d, h3, h4⟩
  stop := fun i S H s rs st hi => by
    obtain ⟨vs, h1, h2⟩ := rs p _ st
    exact ⟨vs, .inl (.inl h1), by rw [← h2.len]; exact hi⟩
theorem ito_tup {K : PySem.W.Frag} {p : Addr} {ds : List D} {vs : List V} {H0 : Hp} (hK : K = G.K) (h1 : ∀ H, Stab H0 H → SqT K H p vs) (h2 : RepL G.K H0 ds vs) : ItOk G (Itt K p) ds (fun _ => True) H0 where
  go := fun i S H s rs st hi => by
    have hv : i < vs.length := by rw [← h2.len]; exact hi
    refine ⟨⟨vs, vs[i], h1 H s, List.getElem?_eq_getElem hv⟩, fun x H' ⟨e, hx⟩ => ?_⟩
    subst e
    obtain ⟨d, h3, h4⟩ := (h2.stab s).getV (hx vs (h1 _ s))
    exact ⟨Stab.refl _, rs, d, h3, h4⟩
  stop := fun i S H s rs st hi => ⟨vs, h1 H s, by rw [← h2.len]; exact hi⟩
theorem ito_str {s : List Nat} {H0 : Hp} (ok : okS s = true) : ItOk G (Its ⟨s.toArray⟩) (chars s) (fun _ => True) H0 where
  go := fun i S H st rs _ hi => by
    have hi' : i < s.length := by simpa [chars] using hi
    refine ⟨(show i < s.toArray.size by simpa using hi'), fun x H' ⟨e, c, hc, ex⟩ => ?_⟩
    subst e; subst ex
    have hc' : s[i]? = some c := by simpa using hc
    refine ⟨Stab.refl _, rs, .str [c], by simp [chars, hc'], mk_str (s := [c]) ?_⟩
    have := List.all_eq_true.mp ok c (List.mem_of_getElem? hc')
    simpa [okS] using this
  stop := fun i S H st rs _ hi => by
    show s.toArray.size ≤ i
    simpa [chars] using hi
theorem ito_rng {i j : Int} {H0 : Hp} : ItOk G (L2.Itr i (j - i).toNat) (rngL i j) (fun _ => True) H0 where
  go := fun k S H st rs _ hk => by
    have hk' : k < (j - i).toNat := by simpa [rngL] using hk
    refine ⟨hk', fun x H' ⟨e, ex⟩ => ?_⟩
    subst e; subst ex
    refine ⟨Stab.refl _, rs, .int (i + k), ?_, mk_int⟩
    unfold rngL
    rw [List.getElem?_map, List.getElem?_range hk']
    rfl
  stop := fun k S H st rs _ hk => by
    show (j - i).toNat ≤ k
    simpa [rngL] using hk
theorem zipL_len : ∀ (ds es : List D), (zipL ds es).length = min ds.length es.length
  | [], es => by simp [zipL]
  | d :: ds, [] => by simp [zipL]
  | d :: ds, e :: es => by simp [zipL, zipL_len ds es]
theorem zipL_get : ∀ {ds es : List D} {i : Nat} {d e : D}, ds[i]? = some d → es[i]? = some e → (zipL ds es)[i]? = some (.tup [d, e])
  | d :: ds, e :: es, 0, x, y, h1, h2 => by simp at h1 h2; subst h1; subst h2; rfl
  | d :: ds, e :: es, i + 1, x, y, h1, h2 => by
    show (zipL ds es)[i]? = _
    exact zipL_get (by simpa using h1) (by simpa using h2)
theorem ito_zipL {K : PySem.W.Frag} {p q : Addr} {ds es : List D} {H0 : Hp} (hK : K = G.K) : ItOk G (Itz K p q) (zipL ds es) (fun S => S p = some (.lst ds) ∧ S q = some (.lst es)) H0 where
  go := fun i S H s rs ⟨st1, st2⟩ hi => by
    obtain ⟨vs, h1, h2⟩ := rs p _ st1
    obtain ⟨us, h3, h4⟩ := rs q _ st2
    rw [zipL_len] at hi
    have hv : i < vs.length := by rw [← h2.len]; omega
    have hu : i < us.length := by rw [← h4.len]; omega
    refine ⟨⟨vs, us, vs[i], us[i], .inl (.inl h1), .inl (.inl h3), List.getElem?_eq_getElem hv, List.getElem?_eq_getElem hu⟩, fun x H' ⟨T, x1, x2, ex, hT, e, hx, hy⟩ => ?_⟩
    subst e; subst ex
    obtain ⟨d, h5, h6⟩ := h2.getV (hx vs (.inl (.inl h1)))
    obtain ⟨e, h7, h8⟩ := h4.getV (hy us (.inl (.inl h3)))
    exact ⟨Stab.new hT, rs.new hT, .tup [d, e], zipL_get h5 h7, mk_tup upd_same (.cons (h6.stab (Stab.new hT)) (.cons (h8.stab (Stab.new hT)) .nil))⟩
  stop := fun i S H s rs ⟨st1, st2⟩ hi => by
    obtain ⟨vs, h1, h2⟩ := rs p _ st1
    obtain ⟨us, h3, h4⟩ := rs q _ st2
    rw [zipL_len, h2.len, h4.len] at hi
    exact ⟨vs, us, .inl (.inl h1), .inl (.inl h3), by omega⟩
theorem ito_zipT {K : PySem.W.Frag} {p q : Addr} {ds es : List D} {vs us : List V} {H0 : Hp} (hK : K = G.K) (h1 : ∀ H, Stab H0 H → SqT K H p vs) (h2 : RepL G.K H0 ds vs) (h3 : ∀ H, Stab H0 H → SqT K H q us) (h4 : RepL G.K H0 es us) :
    ItOk G (RZ.ItzT K p q) (zipL ds es) (fun S => True ∧ True) H0 where
  go := fun i S H s rs _ hi => by
    rw [zipL_len] at hi
    have hv : i < vs.length := by rw [← h2.len]; omega
    have hu : i < us.length := by rw [← h4.len]; omega
    refine ⟨⟨vs, us, vs[i], us[i], h1 H s, h3 H s, List.getElem?_eq_getElem hv, List.getElem?_eq_getElem hu⟩, fun x H' ⟨T, x1, x2, ex, hT, e, hx, hy⟩ => ?_⟩
    subst e; subst ex
    obtain ⟨d, h5, h6⟩ := (h2.stab s).getV (hx vs (h1 _ s))
    obtain ⟨e, h7, h8⟩ := (h4.stab s).getV (hy us (h3 _ s))
    exact ⟨Stab.new hT, rs.new hT, .tup [d, e], zipL_get h5 h7, mk_tup upd_same (.cons (h6.stab (Stab.new hT)) (.cons (h8.stab (Stab.new hT)) .nil))⟩
  stop := fun i S H s rs _ hi => by
    rw [zipL_len, h2.len, h4.len] at hi
    exact ⟨vs, us, h1 H s, h3 H s, by omega⟩
theorem enmL_get : ∀ {ds : List D} {n i : Nat} {d : D}, ds[i]? = some d → (enmL n ds)[i]? = some (.tup [.int ((n + i : Nat) : Int), d])
  | d :: ds, n, 0, x, h1 => by simp at h1; subst h1; rfl
  | d :: ds, n, i + 1, x, h1 => by
    show (enmL (n + 1) ds)[i]? = _
    rw [enmL_get (by simpa using h1)]
    have e : n + 1 + i = n + (i + 1) := by omega
    rw [e]
theorem enmL_len : ∀ (ds : List D) (n : Nat), (enmL n ds).length = ds.length
  | [], n => rfl
  | d :: ds, n => by simp [enmL, enmL_len ds]
theorem ito_enm {K : PySem.W.Frag} {p : Addr} {ds : List D} {H0 : Hp} (hK : K = G.K) : ItOk G (Ite K p) (enmL 0 ds) (fun S => S p = some (.lst ds)) H0 where
  go := fun i S H s rs st hi => by
    obtain ⟨vs, h1, h2⟩ := rs p _ st
    rw [enmL_len] at hi
    have hv : i < vs.length := by rw [← h2.len]; exact hi
    refine ⟨⟨vs, vs[i], .inl (.inl h1), List.getElem?_eq_getElem hv⟩, fun x H' ⟨T, x1, ex, hT, e, hx⟩ => ?_⟩
    subst e; subst ex
    obtain ⟨d, h3, h4⟩ := h2.getV (hx vs (.inl (.inl h1)))
    refine ⟨Stab.new hT, rs.new hT, _, enmL_get h3, mk_tup upd_same (.cons ?_ (.cons (h4.stab (Stab.new hT)) .nil))⟩
    rw [Nat.zero_add]
    exact mk_int
  stop := fun i S H s rs st hi => by
    obtain ⟨vs, h1, h2⟩ := rs p _ st
    rw [enmL_len, h2.len] at hi
    exact ⟨vs, .inl (.inl h1), hi⟩

/-! the iterators -/
theorem ti_sq {tg : Expr} (hK : X.K = G.K) (ha : PE X x (TX G P W a)) : PI X tg x (TIx G P W (.sq a)) := by
  refine ⟨fun pins s τ H VR I ⟨σ, S, R, E, r, rs, w, q, e⟩ => ?_⟩
  simp only [wpI] at w
  refine te_go ha I r rs w e fun d S1 v u H1 s1 I1 rv s1' rs1 rd w1 => ?_
  have lst : ∀ (p : Addr) (ds : List D), v = .ref p → S1 p = some (.lst ds) → R ds (fun S' => S' p = some (.lst ds)) S1 → wpAny (model X.prog X.w) X.A (pyIter u) (PIE X pins τ tg VR) X.xe s1 := by
    intro p ds ev hS hR
    subst ev
    obtain ⟨vs, h1, h2⟩ := rs1 p _ hS
    have hq : SqL X.K H1 p vs := .inl (.inl h1)
    cases rv
    obtain ⟨its, rv, p', hz⟩ := I1.list hq
    refine wpAny_pyIter_list p'.isList ?_
    refine ⟨s1.heap.objs.size, [s1.heap.objs.size], _, _, H1, rfl, I1.kept (t' := s1.toks) fun b o e => Heap.get?_push_of_some _ e, turn_list p _, ⟨_, Heap.get?_push_size _ rfl, rfl, rfl⟩, fun b hb => ?_, q ds _ S1 (Itl X.K p) H1 s1' rs1 (ito_list hK) hR⟩
    have e : b = s1.heap.objs.size := by simpa using hb
    subst e
    exact I1.fpOk (Nat.le_refl _) (I1.hok.fresh (Nat.le_refl _))
  have tup : ∀ (p : Addr) (vs : List V) (ds : List D), v = .ref p → (∀ H, Stab H1 H → SqT X.K H p vs) → RepL G.K H1 ds vs → R ds (fun _ => True) S1 → wpAny (model X.prog X.w) X.A (pyIter u) (PIE X pins τ tg VR) X.xe s1 := by
    intro p vs ds ev hq rl hR
    subst ev
    cases rv
    obtain ⟨its, rv, p', hz⟩ := I1.tuple (hq H1 (Stab.refl H1))
    refine wpAny_pyIter_tuple (show s1.heap.IsTuple p its.toArray from p') ?_
    refine ⟨s1.heap.objs.size, [s1.heap.objs.size], _, _, H1, rfl, I1.kept (t' := s1.toks) fun b o e => Heap.get?_push_of_some _ e, turn_tuple p _, ⟨_, Heap.get?_push_size _ rfl, rfl, rfl⟩, fun b hb => ?_, q ds _ S1 (Itt X.K p) H1 s1' rs1 (ito_tup hK hq rl) hR⟩
    have e : b = s1.heap.objs.size := by simpa using hb
    subst e
    exact I1.fpOk (Nat.le_refl _) (I1.hok.fresh (Nat.le_refl _))
  cases d with
  | str z =>
    obtain ⟨ev, ok⟩ := rep_str rd
    subst ev
    obtain ⟨t, rfl⟩ := rv
    have hq := q _ _ S1 (Its ⟨z.toArray⟩) H1 s1' rs1 (ito_str ok) w1
    cases hh : (⟨z.toArray⟩ : Str).cps.all (· < 128)
    · exact wpAny_pyIter_wide hh (pi_one (tk := s1.toks) I1 _ (turn_str _ _ t "str_iterator" (.inr rfl)) ⟨_, Heap.get?_push_size _ rfl, rfl, rfl⟩ hq)
    · exact wpAny_pyIter_ascii hh (pi_one (tk := s1.toks) I1 _ (turn_str _ _ t "str_ascii_iterator" (.inl rfl)) ⟨_, Heap.get?_push_size _ rfl, rfl, rfl⟩ hq)
  | tup ds =>
    obtain ⟨p, vs, ev, ht, rl⟩ := rep_tup rd
    exact tup p vs ds ev (fun H' st => SqT.of (st.tup _ _ ht)) rl w1
  | ktu ds =>
    obtain ⟨p, vs, ev, ht, rl⟩ := rep_ktu rd
    exact tup p vs ds ev (fun H' st => by rw [hK]; exact ht H') rl w1
  | ref p =>
    have ev := rep_ref rd
    dsimp only [srcOf] at w1
    split at w1
    · rename_i ds hS
      exact lst p ds ev hS w1
    · exact w1.elim
  | _ => exact w1.elim
/-- what stands under a zip -/
theorem src_of {d : D} {v : V} {S : Store} {H : Hp} {RR : List D → (Store → Prop) → Prop} (rs : RelS G S H) (rd : RepD G.K H d v) (h : srcOf S d RR) :
    (∃ p ds, d = .ref p ∧ v = .ref p ∧ S p = some (.lst ds) ∧ RR ds fun S' => S' p = some (.lst ds)) ∨
    (isRf d = false ∧ ∃ p vs ds, v = .ref p ∧ (∀ H', Stab H H' → SqT G.K H' p vs) ∧ RepL G.K H ds vs ∧ RR ds fun _ => True) := by
  cases d with
  | tup ds =>
    obtain ⟨p, vs, ev, ht, rl⟩ := rep_tup rd
    exact .inr ⟨rfl, p, vs, ds, ev, fun H' st => SqT.of (st.tup _ _ ht), rl, h⟩
  | ktu ds =>
    obtain ⟨p, vs, ev, ht, rl⟩ := rep_ktu rd
    exact .inr ⟨rfl, p, vs, ds, ev, fun H' st => ht H', rl, h⟩
  | ref p =>
    dsimp only [srcOf] at h
    split at h
    · rename_i ds hS
      exact .inl ⟨p, ds, rfl, rep_ref rd, hS, h⟩
    · exact h.elim
  | _ => exact h.elim
theorem two_args (hx : notStar x = true) (hy : notStar y = true) : starEach [x, y] X.env = (false, eval x X.env) :: starEach [y] X.env ∧ starEach [y] X.env = [(false, eval y X.env)] := by
  constructor
  · exact star_of hx
  · rw [star_of hy]; rfl
theorem ti_rg1 {tg : Expr} {p : Pos} (hg : Gl X "range") (hm : X.mg "range" = none) (hx : notStar x = true) (ha : PE X x (TX G P W a)) : PI X tg (.Call (.Name "range" p) [x] [] pos) (TIx G P W (.rg1 a)) :=
  (pi_range1 hg hm (pa_cons ha pa_nil (star_of hx)) (by rw [star_of hx]; rfl)).imp fun τ H VR ⟨σ, S, R, E, r, rs, w, q, e⟩ => by
    simp only [wpI] at w
    refine ⟨σ, S, _, E, r, rs, w, fun d S1 v H1 s1 rs1 rd w1 => ?_, e⟩
    cases d with
    | int n =>
      have h := q _ _ S1 (L2.Itr 0 (n - 0).toNat) H1 s1 rs1 ito_rng w1.2
      rw [Int.sub_zero] at h
      exact ⟨n, by rw [rep_int rd], w1.1.1, w1.1.2, h⟩
    | _ => exact w1.elim
theorem ti_rg2 {tg : Expr} {p : Pos} (hg : Gl X "range") (hm : X.mg "range" = none) (hx : notStar x = true) (hy : notStar y = true) (ha : PE X x (TX G P W a)) (hb : PE X y (TX G P W b)) : PI X tg (.Call (.Name "range" p) [x, y] [] pos) (TIx G P W (.rg2 a b)) :=
  (pi_range2 hg hm (pa_cons ha (pa_cons hb pa_nil (star_of hy)) (star_of hx)) (by rw [star_of hx, star_of hy]; rfl) (by rw [star_of hy]; rfl)).imp fun τ H VR ⟨σ, S, R, E, r, rs, w, q, e⟩ => by
    simp only [wpI] at w
    refine ⟨σ, S, _, E, r, rs, w, fun d S1 v H1 s1 rs1 rd w1 => ⟨σ, S1, _, E, r.stab s1, rs1, w1, fun d2 S2 v2 H2 s2 rs2 rd2 w2 => ?_, e.stab s1⟩, e⟩
    dsimp only at w2
    split at w2
    · rename_i i j
      exact ⟨i, j, by rw [rep_int rd, rep_int rd2], ⟨w2.1.1.1, w2.1.1.2, w2.1.2.1, w2.1.2.2⟩, q _ _ S2 (L2.Itr i (j - i).toNat) H2 (s1.trans s2) rs2 ito_rng w2.2⟩
    · exact w2.elim
theorem ti_zip {ts : List Expr} {k : Nat} {tp p : Pos} (hK : X.K = G.K) (hg : Gl X "zip") (hm : X.mg "zip" = none) (hx : notStar x = true) (hy : notStar y = true) (ha : PE X x (TX G P W a)) (hb : PE X y (TX G P W b)) :
    PI X (.Tuple ts k tp) (.Call (.Name "zip" p) [x, y] [] pos) (TIx G P W (.zip a b)) :=
  (RZ.pi_zipA hg hm (pa_cons ha (pa_cons hb pa_nil (star_of hy)) (star_of hx)) (star_of hx) (by rw [star_of hy]; rfl)).imp fun τ H VR ⟨σ, S, R, E, r, rs, w, q, e⟩ => by
    simp only [wpI] at w
    refine ⟨σ, S, _, E, r, rs, w, fun d S1 v H1 s1 rs1 rd w1 => ⟨σ, S1, _, E, r.stab s1, rs1, w1, fun d2 S2 v2 H2 s2 rs2 rd2 ⟨w2, w3⟩ => ?_, e.stab s1⟩, e⟩
    rcases src_of rs2 (rd.stab s2) w3 with ⟨p1, ds, rfl, rfl, hS, h1⟩ | ⟨k1, p1, vs, ds, rfl, hq, rl, h1⟩
    · rcases src_of rs2 rd2 h1 with ⟨p2, es, rfl, rfl, hS2, h2⟩ | ⟨k2, p2, us, es, rfl, hq2, rl2, h2⟩
      · obtain ⟨vs, h3, h4⟩ := rs2 p1 _ hS
        obtain ⟨us, h5, h6⟩ := rs2 p2 _ hS2
        exact ⟨p1, p2, vs, us, rfl, .inl ⟨.inl (.inl h3), .inl (.inl h5), q _ _ S2 (Itz X.K p1 p2) H2 (s1.trans s2) rs2 (ito_zipL hK) h2⟩⟩
      · rw [k2] at w2; cases w2
    · rcases src_of rs2 rd2 h1 with ⟨p2, es, rfl, rfl, hS2, h2⟩ | ⟨k2, p2, us, es, rfl, hq2, rl2, h2⟩
      · rw [k1] at w2; cases w2
      · rw [hK]
        exact ⟨p1, p2, vs, us, rfl, .inr ⟨hq H2 (Stab.refl H2), hq2 H2 (Stab.refl H2), q _ _ S2 (RZ.ItzT G.K p1 p2) H2 (s1.trans s2) rs2 (ito_zipT rfl hq rl hq2 rl2) h2⟩⟩
theorem ti_enm {ts : List Expr} {k : Nat} {tp p : Pos} (hK : X.K = G.K) (hg : Gl X "enumerate") (hm : X.mg "enumerate" = none) (hx : notStar x = true) (ha : PE X x (TX G P W a)) :
    PI X (.Tuple ts k tp) (.Call (.Name "enumerate" p) [x] [] pos) (TIx G P W (.enm a)) :=
  (pi_enum hg hm (pa_cons ha pa_nil (star_of hx)) (by rw [star_of hx]; rfl)).imp fun τ H VR ⟨σ, S, R, E, r, rs, w, q, e⟩ => by
    simp only [wpI] at w
    refine ⟨σ, S, _, E, r, rs, w, fun d S1 v H1 s1 rs1 rd ⟨w1, w2⟩ => ?_, e⟩
    rcases src_of rs1 rd w2 with ⟨p1, ds, rfl, rfl, hS, h1⟩ | ⟨k1, _⟩
    · obtain ⟨vs, h3, h4⟩ := rs1 p1 _ hS
      exact ⟨p1, vs, rfl, .inl (.inl h3), q _ _ S1 (Ite X.K p1) H1 s1 rs1 (ito_enm hK) h1⟩
    · rw [k1] at w1; cases w1

/-! targets -/
def tgIn : Tg → List Nat → Bool
  | .var i, vs => vs.contains i
  | .tup l, vs => l.all vs.contains
def gsOf : List Nat → TGs
  | [] => gNil
  | i :: l => gCons (gName i) (gsOf l)
def gOf (K : PySem.W.Frag) : Tg → TG
  | .var i => gName i
  | .tup l => gTup K l.length (gsOf l)
theorem wipe_get : ∀ (vs : List Nat) (τ : L2.St) (i : Nat), (wipe τ vs)[i]? = if i ∈ vs then (if i < τ.length then some none else none) else τ[i]?
  | [], τ, i => by simp [wipe]
  | v :: vs, τ, i => by
    show ((wipe τ vs).set v none)[i]? = _
    rw [List.getElem?_set, wipe_get vs τ i, wipe_length]
    by_cases z : v = i
    · subst z; simp
    · have z' : ¬ i = v := fun q => z q.symm
      simp [z, z']
theorem wipe_set {vs : List Nat} {τ : L2.St} {i : Nat} {o : Option V} (h : i ∈ vs) : wipe (τ.set i o) vs = wipe τ vs := by
  apply List.ext_getElem?
  intro j
  rw [wipe_get, wipe_get, List.length_set]
  by_cases z : j ∈ vs
  · simp [z]
  · have : ¬ i = j := by rintro rfl; exact z h
    simp [z, List.getElem?_set_ne this]
theorem tg_var {K : PySem.W.Frag} {i : Nat} {n : Str} (hN : X.N.Nodup) (hi : X.N[i]? = some n) (hx : Loc X.env.scope n) (hf : X.fn n = true ∨ X.env.scope.names.lookup n = some .local) : PG X (.Name n pos) (gOf K (.var i)) := pg_name hN hi hx hf
/-- the names of a tuple target -/
inductive NmOk (X : Cx) : List Expr → List Nat → Prop where
  | nil : NmOk X [] []
  | cons {n : Str} {p : Pos} {es : List Expr} {i : Nat} {l : List Nat} (hi : X.N[i]? = some n) (hx : Loc X.env.scope n) (hf : X.fn n = true ∨ X.env.scope.names.lookup n = some .local) (r : NmOk X es l) : NmOk X (.Name n p :: es) (i :: l)
theorem nm_ok (hN : X.N.Nodup) : ∀ {es : List Expr} {l : List Nat}, NmOk X es l → PGs X es (gsOf l) ∧ (assignEach es X.env).length = l.length ∧ (assignEach es X.env).findIdx? (·.1) = none
  | _, _, .nil => ⟨pgs_nil, rfl, rfl⟩
  | _, _, .cons (n := n) (p := p) (es := es) (i := i) (l := l) hi hx hf r0 => by
      obtain ⟨h1, h2, h3⟩ := nm_ok hN r0
      refine ⟨pgs_cons (pg_name hN hi hx hf) h1 rfl, ?_, ?_⟩
      · show (assignEach es X.env).length + 1 = l.length + 1
        rw [h2]
      · show List.findIdx? (·.1) ((false, _) :: assignEach es X.env) = none
        rw [List.findIdx?_cons, h3]
        rfl
theorem tg_tup {es : List Expr} {l : List Nat} {k : Nat} (hc : X.calm = true) (hN : X.N.Nodup) (h : NmOk X es l) : PG X (.Tuple es k pos) (gOf X.K (.tup l)) := by
  obtain ⟨h1, h2, h3⟩ := nm_ok hN h
  exact pg_tup hc h1 h2 h3
theorem gs_ok {K : PySem.W.Frag} : ∀ (l : List Nat) (ds : List D) (vs : List V) (σ : Ev) (τ : L2.St) (H : Hp) (Q : L2.St → Hp → Prop), RepL G.K H ds vs → RepE G H σ τ → ds.length = l.length →
      (∀ τ', RepE G H (setAll l ds σ) τ' → (∀ ws, l.all ws.contains = true → wipe τ' ws = wipe τ ws) → Q τ' H) → gsOf l vs τ H Q
  | [], [], vs, σ, τ, H, Q, rl, r, hl, k => by
    rw [rl.nil_inv]
    exact ⟨rfl, k τ r fun _ _ => rfl⟩
  | i :: l, d :: ds, vs, σ, τ, H, Q, rl, r, hl, k => by
    obtain ⟨v, vr, rfl, rd, rr⟩ := rl.cons_inv
    refine ⟨v, vr, rfl, ?_⟩
    show gsOf l vr (τ.set i (some v)) H Q
    refine gs_ok (K := K) l ds vr (σ.set i (some d)) (τ.set i (some v)) H Q rr (r.set rd i) (by simpa using hl) fun τ' r' hw => k τ' r' fun ws hws => ?_
    have hws' : i ∈ ws ∧ l.all ws.contains = true := by simpa using hws
    rw [hw ws hws'.2, wipe_set hws'.1]
/-- the stores are those of asgT; nothing else changes -/
theorem g_ok {t : Tg} {d : D} {v : V} {σ : Ev} {τ : L2.St} {H : Hp} {N : Ev → Prop} {Q : L2.St → Hp → Prop} (rd : RepD G.K H d v) (r : RepE G H σ τ) (w : asgT t d σ N)
    (k : ∀ σ' τ', RepE G H σ' τ' → N σ' → (∀ vs, tgIn t vs = true → wipe τ' vs = wipe τ vs) → Q τ' H) : gOf G.K t v τ H Q := by
  cases t with
  | var i => exact k _ _ (r.set rd i) w fun vs hv => wipe_set (by simpa [tgIn] using hv)
  | tup l =>
    unfold asgT at w
    dsimp only at w
    cases d with
    | tup ds =>
      obtain ⟨p, vs, ev, ht, rl⟩ := rep_tup rd
      exact ⟨p, vs, ev, SqT.of ht, by rw [← rl.len]; exact w.1, gs_ok (K := G.K) l ds vs σ τ H Q rl r w.1 fun τ' r' hw => k _ _ r' w.2 hw⟩
    | ktu ds =>
      obtain ⟨p, vs, ev, ht, rl⟩ := rep_ktu rd
      exact ⟨p, vs, ev, ht H, by rw [← rl.len]; exact w.1, gs_ok (K := G.K) l ds vs σ τ H Q rl r w.1 fun τ' r' hw => k _ _ r' w.2 hw⟩
    | _ => exact w.elim

/-! comprehensions -/
/-- a comprehension's ifs -/
def IfOk (G : Gx) (P : Pm) (W : WX) (X : Cx) (ifs : List Expr) (c : Ex) : Prop := (ifs = [] ∧ c = .cst (.bl true)) ∨ ∃ z, ifs = [z] ∧ PT X z (TTx G P W c)
theorem if_ok {ifs : List Expr} (h : IfOk G P W X ifs c) : PTs X ifs (TTx G P W c) := by
  rcases h with ⟨rfl, rfl⟩ | ⟨z, rfl, h⟩
  · refine ⟨fun pins s τ H Q I ⟨σ, S, QB, E, r, rs, w, q, e⟩ => pts_nil.run pins s τ H Q I ?_⟩
    simp only [wpT] at w
    exact q true S H (Stab.refl H) rs w
  · exact pts_one h
abbrev W0 : WX := fun _ _ _ _ => False
theorem xok0 {H : Hp} {τ : L2.St} : XOk G H noX (fun c d H' => W0 c d τ H') := fun _ _ _ _ _ _ _ _ h => h.elim
/-- one turn's item goes into the list -/
theorem push_ok {S3 : Store} {H4 : Hp} {p : Addr} {d : D} {v : V} {N : Store → Prop} {Nx : Hp → Prop} (rs : RelS G S3 H4) (rd : RepD G.K H4 d v)
    (w : pushW p d S3 N) (k : ∀ S' H', Stab H4 H' → RelS G S' H' → N S' → Nx H') :
    ∃ acc, H4 p = some (.lst acc) ∧ acc.length < sizeLine ∧ Nx (upd H4 p (.lst (acc ++ [v]))) := by
  unfold pushW at w
  split at w
  · rename_i acc hS
    obtain ⟨vs, h1, h2⟩ := rs p _ hS
    have st : Stab H4 (upd H4 p (.lst (vs ++ [v]))) := Stab.put h1 trivial
    refine ⟨vs, h1, by rw [← h2.len]; exact LIM_lt w.1, k _ _ st (rs.put (c := .lst (acc ++ [d])) h1 trivial ⟨vs ++ [v], upd_same, (h2.stab st).app (.cons (rd.stab st) .nil)⟩) w.2⟩
  · exact w.elim
theorem lcW_step {st : Store → Prop} {step : D → Store → (Store → Prop) → Prop} {ds : List D} {i : Nat} {S : Store} {N : Store → Prop} {d : D} (h : ds[i]? = some d) (w : lcW st step (ds.drop i) S N) :
    st S ∧ step d S fun S' => lcW st step (ds.drop (i + 1)) S' N := by
  have hi := (List.getElem?_eq_some_iff.mp h)
  obtain ⟨hl, he⟩ := hi
  rw [List.drop_eq_getElem_cons hl] at w
  rw [← he]
  exact w
theorem lcW_end {st : Store → Prop} {step : D → Store → (Store → Prop) → Prop} {ds : List D} {i : Nat} {S : Store} {N : Store → Prop} (h : ds.length ≤ i) (w : lcW st step (ds.drop i) S N) : st S ∧ N S := by
  rw [List.drop_of_length_le h] at w
  exact w
theorem lcW_st {st : Store → Prop} {step : D → Store → (Store → Prop) → Prop} : ∀ {ds : List D} {S : Store} {N : Store → Prop}, lcW st step ds S N → st S
  | [], _, _, w => w.1
  | _ :: _, _, _, w => w.1
theorem lcm_ok {τ : L2.St} {H : Hp} {VQ : VK} {t : Tg} {i : Itr} {e c : Ex} {own : List Nat} (hin : tgIn t own = true) (h : TX G P W (.lcm e t i c own) τ H VQ) : tLc (TIx G P W i) (gOf G.K t) (TTx G P W0 c) (TX G P W0 e) own τ H VQ := by
  obtain ⟨σ, S, Q, E, r, rs, w, q, ex⟩ := h
  simp only [wpE] at w
  refine ⟨σ, S, _, E, r, rs, w, fun ds st S1 J H1 s1 rs1 ito w1 p n => ?_, ex⟩
  have w2 := w1 p (rs1.free n)
  refine ⟨fun j m H' => m = ds.length - j ∧ ∃ S', Stab H1 H' ∧ RelS G S' H' ∧ lcW st _ (ds.drop j) S' fun S' => Q (.ref p) S', ⟨_, rfl, su S1 p (.lst []), Stab.new n, rs1.newC (c := .lst []) n ⟨[], upd_same, .nil⟩, w2⟩, ?_⟩
  rintro j m H' ⟨rfl, S', s2, rs2, w3⟩
  by_cases hj : j < ds.length
  · right
    have hst := lcW_st w3
    obtain ⟨go, yl⟩ := ito.go j S' H' s2 rs2 hst hj
    refine ⟨go, fun H'' => ∃ S'', Stab H1 H'' ∧ RelS G S'' H'' ∧ lcW st _ (ds.drop (j + 1)) S'' fun S' => Q (.ref p) S', fun H'' ⟨S'', a1, a2, a3⟩ => ⟨_, by omega, rfl, S'', a1, a2, a3⟩, fun x H3 hy => ?_⟩
    obtain ⟨s3, rs3, d, hd, rd⟩ := yl x H3 hy
    have w4 := (lcW_step hd w3).2
    refine g_ok rd (((r.stab (s1.trans s2)).stab s3).wiped own) w4 fun σ1 τ1 r1 w5 hw => ⟨?_, ?_⟩
    · rw [hw own hin]
      apply List.ext_getElem?
      intro k
      rw [wipe_get, wipe_get, wipe_length]
      by_cases z : k ∈ own <;> simp [z]
    · refine ⟨σ1, S', _, noX, r1, rs3, w5, fun b S4 H4 s4 rs4 w6 => ?_, xok0⟩
      dsimp only at w6 ⊢
      by_cases z : b = true
      · rw [if_pos z] at w6 ⊢
        refine ⟨σ1, S4, _, noX, r1.stab s4, rs4, w6, fun y S5 v5 H5 s5 rs5 rd5 w7 => ?_, xok0⟩
        exact push_ok (Nx := fun H'' => ∃ S'', Stab H1 H'' ∧ RelS G S'' H'' ∧ lcW st _ (ds.drop (j + 1)) S'' fun S' => Q (.ref p) S') rs5 rd5 w7 fun S6 H6 s6 rs6 w8 => ⟨S6, ((((s2.trans s3).trans s4).trans s5).trans s6), rs6, w8⟩
      · rw [if_neg z] at w6 ⊢
        exact ⟨S4, (s2.trans s3).trans s4, rs4, w6⟩
  · left
    have hst := lcW_end (by omega) w3
    exact ⟨ito.stop j S' H' s2 rs2 hst.1 (by omega), q (.ref p) S' (.ref p) H' (s1.trans s2) rs2 mk_ref hst.2⟩
theorem tgIn_L (t : Tg) : tgIn t (tgL t) = true := by
  cases t with
  | var i => simp [tgIn, tgL]
  | tup l => simp [tgIn, tgL]
theorem wipe_wipe (vs : List Nat) (τ : L2.St) : wipe (wipe τ vs) vs = wipe τ vs := by
  apply List.ext_getElem?
  intro k
  rw [wipe_get, wipe_get, wipe_length]
  by_cases z : k ∈ vs <;> simp [z]
theorem lc2_ok {τ : L2.St} {H : Hp} {VQ : VK} {t t1 : Tg} {i i1 : Itr} {e : Ex} {own : List Nat} (hin : tgIn t own = true) (h : TX G P W (.lc2 e t i t1 i1 own) τ H VQ) :
    tLc2 (TIx G P W i) (gOf G.K t) tYes (TIx G P W0 i1) (gOf G.K t1) tYes (TX G P W0 e) own (tgL t1) τ H VQ := by
  obtain ⟨σ, S, Q, E, r, rs, w, q, ex⟩ := h
  simp only [wpE] at w
  refine ⟨σ, S, _, E, r, rs, w, fun ds st S1 J H1 s1 rs1 ito w1 p n => ?_, ex⟩
  have w2 := w1 p (rs1.free n)
  refine ⟨fun j m H' => m = ds.length - j ∧ ∃ S', Stab H1 H' ∧ RelS G S' H' ∧ lcW st _ (ds.drop j) S' fun S' => Q (.ref p) S', ⟨_, rfl, su S1 p (.lst []), Stab.new n, rs1.newC (c := .lst []) n ⟨[], upd_same, .nil⟩, w2⟩, ?_⟩
  rintro j m H' ⟨rfl, S', s2, rs2, w3⟩
  by_cases hj : j < ds.length
  · right
    have hst := lcW_st w3
    obtain ⟨go, yl⟩ := ito.go j S' H' s2 rs2 hst hj
    refine ⟨go, fun H'' => ∃ S'', Stab H1 H'' ∧ RelS G S'' H'' ∧ lcW st _ (ds.drop (j + 1)) S'' fun S' => Q (.ref p) S', fun H'' ⟨S'', a1, a2, a3⟩ => ⟨_, by omega, rfl, S'', a1, a2, a3⟩, fun x H3 hy => ?_⟩
    obtain ⟨s3, rs3, d, hd, rd⟩ := yl x H3 hy
    have w4 := (lcW_step hd w3).2
    refine g_ok rd (((r.stab (s1.trans s2)).stab s3).wiped own) w4 fun σ1 τ1 r1 w5 hw => ⟨?_, ?_⟩
    · rw [hw own hin, wipe_wipe]
    · unfold tYes
      dsimp only
      rw [if_pos rfl]
      refine ⟨σ1, S', _, noX, r1, rs3, w5, fun ds1 st1 S4 J1 H4 s4 rs4 ito1 w6 => ?_, xok0⟩
      refine ⟨fun j1 m1 H' => m1 = ds1.length - j1 ∧ ∃ S', Stab H4 H' ∧ RelS G S' H' ∧ lcW st1 _ (ds1.drop j1) S' _, ⟨_, rfl, S4, Stab.refl H4, rs4, w6⟩, ?_⟩
      rintro j1 m1 H5 ⟨rfl, S5, s5, rs5, w7⟩
      by_cases hj1 : j1 < ds1.length
      · right
        have hst1 := lcW_st w7
        obtain ⟨go1, yl1⟩ := ito1.go j1 S5 H5 s5 rs5 hst1 hj1
        refine ⟨go1, fun H'' => ∃ S'', Stab H4 H'' ∧ RelS G S'' H'' ∧ lcW st1 _ (ds1.drop (j1 + 1)) S'' _, fun H'' ⟨S'', a1, a2, a3⟩ => ⟨_, by omega, rfl, S'', a1, a2, a3⟩, fun x1 H6 hy1 => ?_⟩
        obtain ⟨s6, rs6, d1, hd1, rd1⟩ := yl1 x1 H6 hy1
        have w8 := (lcW_step hd1 w7).2
        refine g_ok rd1 ((((r1.stab s4).stab s5).stab s6).wiped (tgL t1)) w8 fun σ2 τ2 r2 w9 hw2 => ⟨?_, ?_⟩
        · rw [hw2 _ (tgIn_L t1), wipe_wipe]
        · rw [if_pos rfl]
          refine ⟨σ2, S5, _, noX, r2, rs6, w9, fun y S7 v7 H7 s7 rs7 rd7 w10 => ?_, xok0⟩
          exact push_ok (Nx := fun H'' => ∃ S'', Stab H4 H'' ∧ RelS G S'' H'' ∧ lcW st1 _ (ds1.drop (j1 + 1)) S'' _) rs7 rd7 w10 fun S8 H8 s8 rs8 w11 => ⟨S8, (((s5.trans s6).trans s7).trans s8), rs8, w11⟩
      · left
        have he := lcW_end (by omega) w7
        exact ⟨ito1.stop j1 S5 H5 s5 rs5 he.1 (by omega), S5, ((s2.trans s3).trans s4).trans s5, rs5, he.2⟩
  · left
    have hst := lcW_end (by omega) w3
    exact ⟨ito.stop j S' H' s2 rs2 hst.1 (by omega), q (.ref p) S' (.ref p) H' (s1.trans s2) rs2 mk_ref hst.2⟩
end
end Fv

set_option Elab.async false
set_option linter.all false
set_option maxRecDepth 100000
set_option maxHeartbeats 4000000
/-! A checker: this tree is that text; it is sound. -/
namespace Fv
open PySem PySem.Spec PyProof.Rows L2
/-- the program's names -/
structure Tb where
  fns : List Str
  cls : List Str
  mts : List Str
  fld : List Str
  con : List (Str × D)
  xcl : List Nat
/-- where an expression stands -/
structure Sc where
  N : List Str
  sc : Scope
  fs : Option Scope
  cm : Bool
def nmOk (n : Str) : Bool := n != "__debug__" && n != "__classdict__" && n != "__name__"
def Tb.ok (T : Tb) : Bool := T.fns.all nmOk && T.cls.all nmOk && T.con.all fun p => nmOk p.1
def Sc.gl (c : Sc) (n : Str) : Bool := match c.sc.names.lookup n with
  | some .globalImplicit => true
  | _ => false
def Sc.vis (c : Sc) (n : Str) : Bool := match c.sc.names.lookup n with
  | some .local => true
  | some .cell => true
  | some .free => true
  | _ => false
/-- a name that is stored to here -/
def Sc.sto (c : Sc) (n : Str) : Bool := match c.sc.names.lookup n with
  | some .local => true
  | some .cell => (match c.fs with
    | none => true
    | some s => s.names.lookup n == some .cell)
  | _ => false
def Sc.blk (c : Sc) (scope : Scope) : Sc := ⟨c.N, L2.relS scope c.sc, some scope, c.cm⟩
/-- built-in functions and types: the name, the id, whether it is a type -/
def bltN : Nat → Option (String × Bool)
  | 0 => some ("len", false)
  | 1 => some ("int", true)
  | 2 => some ("repr", false)
  | 3 => some ("min", false)
  | 4 => some ("max", false)
  | 5 => some ("list", true)
  | 6 => some ("tuple", true)
  | 7 => some ("all", false)
  | 8 => some ("ord", false)
  | 9 => some ("sorted", false)
  | _ => none
def bltNames : List String := ["len", "int", "repr", "min", "max", "list", "tuple", "all", "ord", "sorted", "range", "zip", "enumerate"]
def bmtN : Nat → Option String
  | 0 => some "append"
  | 1 => some "insert"
  | 2 => some "pop"
  | 3 => some "get"
  | 4 => some "split"
  | 5 => some "index"
  | _ => none
/-- a constant, or a global that is one -/
def chC (T : Tb) (d : D) (c : Sc) : Expr → Bool
  | .Constant (.int i) _ _ => decide (d = .int i)
  | .Constant (.bool i) _ _ => decide (d = .bl i)
  | .Constant .none _ _ => decide (d = .non)
  | .Constant (.str u) _ _ => (match d with
    | .str s => decide (u.cps.toList = s) && okS s
    | _ => false)
  | .Name n _ => c.gl n && T.con.any fun p => p.1 == n && decide (p.2 = d)
  | _ => false
def chNs (c : Sc) : List Nat → List Expr → Bool
  | [], [] => true
  | i :: l, .Name n _ :: es => c.N[i]? == some n && c.sto n && chNs c l es
  | _, _ => false
def chG (c : Sc) : Tg → Expr → Bool
  | .var i, .Name n _ => c.N[i]? == some n && c.sto n
  | .tup l, .Tuple es _ _ => c.cm && chNs c l es
  | _, _ => false
def ownN (c : Sc) (own : List Nat) : List (Str × Nat) := own.map fun i => ((c.N[i]?).getD Str.empty, i)
def isTup : Expr → Bool
  | .Tuple _ _ _ => true
  | _ => false
mutual
def chE (T : Tb) : Ex → Sc → Expr → Bool
  | .var i, c, x => (match x with
    | .Name n _ => c.N[i]? == some n && c.vis n
    | _ => false)
  | .cst d, c, x => chC T d c x
  | .tup es, c, x => (match x with
    | .Tuple xs _ _ => chEs T es c xs
    | _ => false)
  | .lst es, c, x => (match x with
    | .List xs _ => chEs T es c xs
    | _ => false)
  | .bin o a b, c, x => (match x with
    | .BinOp l op r _ => op == bopOf o && (chE T a c l && chE T b c r)
    | _ => false)
  | .neg a, c, x => (match x with
    | .UnaryOp .USub l _ => chE T a c l
    | _ => false)
  | .cmp o a b, c, x => (match x with
    | .Compare l [op] [r] _ => op == copOf o && !behindInMarks op r && (chE T a c l && chE T b c r)
    | _ => false)
  | .chn o p a b e, c, x => (match x with
    | .Compare l [op, op2] [r, z] _ => op == copOf o && op2 == copOf p && !lastMarks [op, op2] [r, z] && (chE T a c l && (chE T b c r && chE T e c z))
    | _ => false)
  | .ch3 _ _ _ _ _ _ _, _, _ => false
  | .nt a, c, x => (match x with
    | .UnaryOp .Not l _ => chE T a c l
    | _ => false)
  | .an a b, c, x => (match x with
    | .BoolOp .And (l :: r :: q) p => chE T a c l && (match q with
      | [] => chE T b c r
      | _ :: _ => chE T b c (.BoolOp .And (r :: q) p))
    | _ => false)
  | .or_ a b, c, x => (match x with
    | .BoolOp .Or (l :: r :: q) p => chE T a c l && (match q with
      | [] => chE T b c r
      | _ :: _ => chE T b c (.BoolOp .Or (r :: q) p))
    | _ => false)
  | .ite e a b, c, x => (match x with
    | .IfExp z l r _ => chT T e c z && (chE T a c l && chE T b c r)
    | _ => false)
  | .idx a i, c, x => (match x with
    | .Subscript l r _ => notSlice r && (chE T a c l && chE T i c r)
    | _ => false)
  | .sli a l h, c, x => (match x with
    | .Subscript y (.Slice lo hi none _) _ => chE T a c y && ((match lo with
      | none => isN l
      | some z => !isN l && chE T l c z) && (match hi with
      | none => isN h
      | some z => !isN h && chE T h c z))
    | _ => false)
  | .fld a f, c, x => (match x with
    | .Attribute y n _ => T.fld[f]? == some n && noSuper y && chE T a c y
    | _ => false)
  | .cal f es, c, x => (match x with
    | .Call (.Name n _) xs [] _ => c.cm && c.gl n && T.fns[f]? == some n && allPlain xs && chEs T es c xs
    | _ => false)
  | .met a m es, c, x => (match x with
    | .Call (.Attribute y n ap) xs [] p => c.cm && T.mts[m]? == some n && noSuper y && allPlain xs && (ap.endLine == p.line) && (chE T a c y && chEs T es c xs)
    | _ => false)
  | .mak C es, c, x => (match x with
    | .Call (.Name n _) xs [] _ => c.cm && c.gl n && T.cls[C]? == some n && allPlain xs && chEs T es c xs
    | _ => false)
  | .blt b es, c, x => (match x with
    | .Call (.Name n _) xs [] _ => c.cm && c.gl n && (match bltN b with
      | some (s, _) => n == Str.ofString s
      | none => false) && allPlain xs && chEs T es c xs
    | _ => false)
  | .bmt b a es, c, x => (match x with
    | .Call (.Attribute y n ap) xs [] p => c.cm && (match bmtN b with
      | some s => n == Str.ofString s
      | none => false) && noSuper y && allPlain xs && (ap.endLine == p.line) && (chE T a c y && chEs T es c xs)
    | _ => false)
  | .dic _, _, x => (match x with
    | .Dict [] [] _ => true
    | _ => false)
  | .lcm e t i f own, c, x => (match x with
    | .ListComp elt [⟨tg, it, ifs, 0⟩] scope _ => c.cm && L2.blkC c.N c.sc scope (ownN c own) && tgIn t own && notSet it && chG (c.blk scope) t tg && (chI T i c tg it && (chE T e (c.blk scope) elt && (match ifs with
      | [] => (match f with
        | .cst (.bl true) => true
        | _ => false)
      | [z] => chT T f (c.blk scope) z
      | _ => false)))
    | _ => false)
  | .lc2 e t i t1 i1 own, c, x => (match x with
    | .ListComp elt [⟨tg, it, [], 0⟩, ⟨tg1, it1, [], 0⟩] scope _ => c.cm && L2.blkC c.N c.sc scope (ownN c own) && tgIn t own && tgIn t1 own && notSet it && notSet it1 && chG (c.blk scope) t tg && chG (c.blk scope) t1 tg1 &&
      (chI T i c tg it && (chI T i1 (c.blk scope) tg1 it1 && chE T e (c.blk scope) elt))
    | _ => false)
def chEs (T : Tb) : Exs → Sc → List Expr → Bool
  | .nil, _, xs => (match xs with
    | [] => true
    | _ => false)
  | .cons e es, c, xs => (match xs with
    | x :: r => notStar x && (chE T e c x && chEs T es c r)
    | _ => false)
def chT (T : Tb) : Ex → Sc → Expr → Bool
  | .nt a, c, x => (match x with
    | .UnaryOp .Not l _ => chT T a c l
    | _ => false)
  | .an a b, c, x => (match x with
    | .BoolOp .And (l :: r :: q) p => chT T a c l && (match q with
      | [] => chT T b c r
      | _ :: _ => chT T b c (.BoolOp .And (r :: q) p))
    | _ => false)
  | .or_ a b, c, x => (match x with
    | .BoolOp .Or (l :: r :: q) p => chT T a c l && (match q with
      | [] => chT T b c r
      | _ :: _ => chT T b c (.BoolOp .Or (r :: q) p))
    | _ => false)
  | .cmp o a b, c, x => (match x with
    | .Compare l [op] [r] _ => op == copOf o && !behindInMarks op r && (chE T a c l && chE T b c r)
    | _ => false)
  | .chn o p a b e, c, x => (match x with
    | .Compare l [op, op2] [r, z] _ => op == copOf o && op2 == copOf p && !lastMarks [op, op2] [r, z] && (chE T a c l && (chE T b c r && chE T e c z))
    | _ => false)
  | .ch3 o p q a b e f, c, x => (match x with
    | .Compare l [op, op2, op3] [r, z, u] _ => op == copOf o && op2 == copOf p && op3 == copOf q && !lastMarks [op, op2, op3] [r, z, u] && (chE T a c l && (chE T b c r && (chE T e c z && chE T f c u)))
    | _ => false)
  | .var i, c, x => (match x with
    | .Name n _ => c.N[i]? == some n && c.vis n
    | _ => false)
  | .cst d, c, x => chC T d c x
  | .fld a f, c, x => (match x with
    | .Attribute y n _ => T.fld[f]? == some n && noSuper y && chE T a c y
    | _ => false)
  | .idx a i, c, x => (match x with
    | .Subscript l r _ => notSlice r && (chE T a c l && chE T i c r)
    | _ => false)
  | .cal f es, c, x => (match x with
    | .Call (.Name n _) xs [] _ => c.cm && c.gl n && T.fns[f]? == some n && allPlain xs && chEs T es c xs
    | _ => false)
  | .met a m es, c, x => (match x with
    | .Call (.Attribute y n ap) xs [] p => c.cm && T.mts[m]? == some n && noSuper y && allPlain xs && (ap.endLine == p.line) && (chE T a c y && chEs T es c xs)
    | _ => false)
  | .blt b es, c, x => (match x with
    | .Call (.Name n _) xs [] _ => c.cm && c.gl n && (match bltN b with
      | some (s, _) => n == Str.ofString s
      | none => false) && allPlain xs && chEs T es c xs
    | _ => false)
  | _, _, _ => false
def chI (T : Tb) : Itr → Sc → Expr → Expr → Bool
  | .sq e, c, _, x => chE T e c x
  | .rg1 e, c, _, x => (match x with
    | .Call (.Name n _) [a] [] _ => n == "range" && c.gl "range" && notStar a && chE T e c a
    | _ => false)
  | .rg2 e f, c, _, x => (match x with
    | .Call (.Name n _) [a, b] [] _ => n == "range" && c.gl "range" && notStar a && notStar b && (chE T e c a && chE T f c b)
    | _ => false)
  | .zip e f, c, tg, x => (match x with
    | .Call (.Name n _) [a, b] [] _ => n == "zip" && c.gl "zip" && isTup tg && notStar a && notStar b && (chE T e c a && chE T f c b)
    | _ => false)
  | .enm e, c, tg, x => (match x with
    | .Call (.Name n _) [a] [] _ => n == "enumerate" && c.gl "enumerate" && isTup tg && notStar a && chE T e c a
    | _ => false)
end

/-! ### what is known where an expression stands -/
structure Like (X X' : Cx) : Prop where
  prog : X'.prog = X.prog
  w : X'.w = X.w
  K : X'.K = X.K
  mg : X'.mg = X.mg
  base : X'.base = X.base
  A : X'.A = X.A
  calm : X'.calm = X.calm
theorem Like.refl (X : Cx) : Like X X := ⟨rfl, rfl, rfl, rfl, rfl, rfl, rfl⟩
theorem Like.trans {X Y Z : Cx} (a : Like X Y) (b : Like Y Z) : Like X Z :=
  ⟨b.prog.trans a.prog, b.w.trans a.w, b.K.trans a.K, b.mg.trans a.mg, b.base.trans a.base, b.A.trans a.A, b.calm.trans a.calm⟩
/-- the making of an error of the class C -/
def XMk (G : Gx) (P : Pm) (X : Cx) (W : WX) (C : Nat) (n : Str) : Prop := ∀ (xs : List Expr) (es : Exs) (p pos : Pos), PA X xs (TAx G P W es) → allPlain xs = true → xs ≠ [] → Gl X n →
  PMk X (.Call (.Name n p) xs [] pos) (fun τ H XQ => ∃ σ S Qx E, RepE G H σ τ ∧ RelS G S H ∧ wpEs P es σ S (fun vs S1 => xarg (P.xfs C) vs.length = true ∧ Qx ⟨C, (P.xfs C).zip vs⟩ S1) E ∧ XOk G H Qx XQ ∧ XOk G H E (fun c d H' => W c d τ H'))
structure Cm (G : Gx) (P : Pm) (T : Tb) (X : Cx) : Prop where
  calm : X.calm = true
  gd : X.A.guards = some []
  cal : ∀ f n, T.fns[f]? = some n → ∃ fa, X.mg n = some (.ref fa) ∧ PySem.W.keepIn X.K (.ref fa) = true ∧ ∀ X' W', Like X X' → Takes X' W' → CalW G X' W' (.ref fa) (P.call f)
  met : ∀ m n C f, T.mts[m]? = some n → P.mth C m = some f → ∃ fa, Meth G.K (G.cls C) n fa ∧ ∀ X' W', Like X X' → Takes X' W' → CalW G X' W' (.ref fa) (P.call f)
  clg : ∀ C n, T.cls[C]? = some n → X.mg n = some (.ref (G.cls C)) ∧ PySem.W.keepIn X.K (.ref (G.cls C)) = true
  mak : ∀ C f, P.ini C = some f → ∀ X' W', Like X X' → Takes X' W' → MakW G P X' W' (G.cls C) C f
  xmk : ∀ C n, T.cls[C]? = some n → T.xcl.contains C = true → ∀ X' W', Like X X' → Takes X' W' → XMk G P X' W' C n
  exm : ∀ C C', G.isX C = true → T.xcl.contains C' = true → PySem.W.exmOne X.K (.ref (G.cls C)) (.ref (G.cls C')) = some (P.sub C C')
theorem Cm.like {G : Gx} {P : Pm} {T : Tb} {X X' : Cx} (h : Cm G P T X) (l : Like X X') : Cm G P T X' where
  calm := l.calm.trans h.calm
  gd := by rw [l.A]; exact h.gd
  cal := fun f n e => by
    obtain ⟨fa, h1, h2, h3⟩ := h.cal f n e
    exact ⟨fa, by rw [l.mg]; exact h1, by rw [l.K]; exact h2, fun X2 W' l2 => h3 X2 W' (l.trans l2)⟩
  met := fun m n C f e1 e2 => by
    obtain ⟨fa, h1, h3⟩ := h.met m n C f e1 e2
    exact ⟨fa, h1, fun X2 W' l2 => h3 X2 W' (l.trans l2)⟩
  clg := fun C n e => by rw [l.mg, l.K]; exact h.clg C n e
  mak := fun C f hf X2 W' l2 => h.mak C f hf X2 W' (l.trans l2)
  xmk := fun C n h1 h2 X2 W' l2 => h.xmk C n h1 h2 X2 W' (l.trans l2)
  exm := fun C C' => by rw [l.K]; exact h.exm C C'
structure Hy (G : Gx) (P : Pm) (W : WX) (T : Tb) (X : Cx) (c : Sc) : Prop where
  K : X.K = G.K
  N : X.N = c.N
  nd : c.N.Nodup
  sc : X.env.scope = c.sc
  un : X.A.units + 65 < cLine
  fn : ∀ x, c.sto x = true → X.fn x = true ∨ X.env.scope.names.lookup x = some .local
  con : ∀ n d, (n, d) ∈ T.con → ∃ u v, X.mg n = some u ∧ RelV v u ∧ ∀ H, RepD G.K H d v
  free : ∀ n ∈ bltNames, X.mg (Str.ofString n) = none
  nms : c.N.all nmOk = true
  tb : T.ok = true
  fld : ∀ f n, T.fld[f]? = some n → G.fnm f = n
  cm : c.cm = true → Cm G P T X
  tk : Takes X W
theorem takes0 {X : Cx} : Takes X W0 := fun u s' ⟨_, _, _, _, _, _, _, _, _, _, _, _, _, _, _, _, h⟩ => h.elim
theorem Hy.tr {G : Gx} {P : Pm} {W W' : WX} {T : Tb} {X : Cx} {c : Sc} (h : Hy G P W T X c) {pn : List (Addr × Obj)} {xe : Value → Shared → Prop} (tk : Takes (X.tr pn xe) W') : Hy G P W' T (X.tr pn xe) c :=
  ⟨h.K, h.N, h.nd, h.sc, h.un, h.fn, h.con, h.free, h.nms, h.tb, h.fld, fun z => (h.cm z).like ⟨rfl, rfl, rfl, rfl, rfl, rfl, rfl⟩, tk⟩
theorem Hy.blk {G : Gx} {P : Pm} {W : WX} {T : Tb} {X : Cx} {c : Sc} (h : Hy G P W T X c) (scope : Scope) (s : Shared) (H : Hp) (C : Addr) (cl : List (Str × Addr)) (fp : List Addr) : Hy G P W0 T (X.blk s H scope (compEnvC scope cl C X.env) fp) (c.blk scope) where
  K := h.K
  N := h.N
  nd := h.nd
  sc := by
    show relabel scope X.env = L2.relS scope c.sc
    rw [← h.sc]
    rfl
  un := h.un
  fn := fun x hx => by
    have e : (compEnvC scope cl C X.env).scope = (c.blk scope).sc := by
      show relabel scope X.env = L2.relS scope c.sc
      rw [← h.sc]
      rfl
    show (scope.names.lookup x == some .cell) = true ∨ (compEnvC scope cl C X.env).scope.names.lookup x = some .local
    rw [e]
    unfold Sc.sto at hx
    split at hx
    · rename_i q; exact .inr q
    · exact .inl hx
    · cases hx
  con := h.con
  free := h.free
  nms := h.nms
  tb := h.tb
  fld := h.fld
  cm := fun z => (h.cm z).like ⟨rfl, rfl, rfl, rfl, rfl, rfl, rfl⟩
  tk := takes0
section
variable {G : Gx} {P : Pm} {W : WX} {T : Tb} {X : Cx} {c : Sc}
theorem Hy.gl (h : Hy G P W T X c) {n : Str} (g : c.gl n = true) : Gl X n := by
  unfold Sc.gl at g
  show X.env.scope.names.lookup n = _
  rw [h.sc]
  split at g
  · assumption
  · cases g
theorem Hy.vis (h : Hy G P W T X c) {n : Str} (g : c.vis n = true) : Vis X.env.scope n := by
  unfold Sc.vis at g
  unfold Vis
  rw [h.sc]
  split at g
  · exact .inl (by assumption)
  · exact .inr (.inl (by assumption))
  · exact .inr (.inr (by assumption))
  · cases g
theorem Hy.loc (h : Hy G P W T X c) {n : Str} (g : c.sto n = true) : L2.Loc X.env.scope n := by
  unfold Sc.sto at g
  unfold L2.Loc
  rw [h.sc]
  split at g
  · exact .inl (by assumption)
  · exact .inr (by assumption)
  · cases g
theorem nmOk_d {n : Str} (h : nmOk n = true) : (n == ("__debug__" : Str)) = false ∧ (n == ("__classdict__" : Str)) = false ∧ n ≠ "__name__" := by
  unfold nmOk at h
  simp only [Bool.and_eq_true, bne_iff_ne] at h
  exact ⟨beq_eq_false_iff_ne.mpr h.1.1, beq_eq_false_iff_ne.mpr h.1.2, h.2⟩
theorem Hy.nm (h : Hy G P W T X c) {i : Nat} {n : Str} (e : c.N[i]? = some n) : nmOk n = true := List.all_eq_true.mp h.nms n (List.mem_of_getElem? e)
theorem Hy.var (h : Hy G P W T X c) {i : Nat} {n : Str} {pos : Pos} (e : c.N[i]? = some n) (v : c.vis n = true) : PE X (.Name n pos) (TX G P W (.var i)) :=
  tx_var (by rw [h.N]; exact e) (h.vis v) (nmOk_d (h.nm e)).1 (nmOk_d (h.nm e)).2.1
theorem Hy.cst (h : Hy G P W T X c) {d : D} {x : Expr} (e : chC T d c x = true) : PE X x (TX G P W (.cst d)) := by
  unfold chC at e
  split at e
  · rw [of_decide_eq_true e]; exact tx_int
  · rw [of_decide_eq_true e]; exact tx_bl
  · rw [of_decide_eq_true e]; exact tx_non
  · split at e
    · simp only [Bool.and_eq_true, decide_eq_true_eq] at e
      exact tx_str e.1 e.2
    · cases e
  · rename_i n p
    simp only [Bool.and_eq_true] at e
    obtain ⟨e1, e2⟩ := e
    obtain ⟨⟨m, d'⟩, e3, e4⟩ := List.any_eq_true.mp e2
    simp only [Bool.and_eq_true, beq_iff_eq, decide_eq_true_eq] at e4
    obtain ⟨rfl, rfl⟩ := e4
    obtain ⟨u, v, h1, h2, h3⟩ := h.con _ _ e3
    have tb := h.tb
    unfold Tb.ok at tb
    simp only [Bool.and_eq_true] at tb
    have := List.all_eq_true.mp tb.2 _ e3
    exact tx_glob (h.gl e1) h1 h2 h3 (nmOk_d this).1
  · cases e
theorem Hy.nms_ok (h : Hy G P W T X c) : ∀ {l : List Nat} {es : List Expr}, chNs c l es = true → NmOk X es l
  | [], [], _ => .nil
  | i :: l, .Name n p :: es, e => by
    simp only [chNs, Bool.and_eq_true, beq_iff_eq] at e
    exact .cons (by rw [h.N]; exact e.1.1) (h.loc e.1.2) (h.fn _ e.1.2) (h.nms_ok e.2)
theorem Hy.tg (h : Hy G P W T X c) {t : Tg} {x : Expr} (e : chG c t x = true) : PG X x (gOf X.K t) := by
  cases t with
  | var i =>
    cases x <;> first | (exact Bool.noConfusion e) | skip
    simp only [chG, Bool.and_eq_true, beq_iff_eq] at e
    exact tg_var (by rw [h.N]; exact h.nd) (by rw [h.N]; exact e.1) (h.loc e.2) (h.fn _ e.2)
  | tup l =>
    cases x <;> first | (exact Bool.noConfusion e) | skip
    simp only [chG, Bool.and_eq_true] at e
    exact tg_tup (h.cm e.1).calm (by rw [h.N]; exact h.nd) (h.nms_ok e.2)
theorem Hy.fn_ok (h : Hy G P W T X c) {f : Nat} {n : Str} (e : T.fns[f]? = some n) : nmOk n = true := by
  have tb := h.tb
  unfold Tb.ok at tb
  simp only [Bool.and_eq_true] at tb
  exact List.all_eq_true.mp tb.1.1 _ (List.mem_of_getElem? e)
theorem Hy.cls_ok (h : Hy G P W T X c) {f : Nat} {n : Str} (e : T.cls[f]? = some n) : nmOk n = true := by
  have tb := h.tb
  unfold Tb.ok at tb
  simp only [Bool.and_eq_true] at tb
  exact List.all_eq_true.mp tb.1.2 _ (List.mem_of_getElem? e)
theorem boot_all : bootBuiltins "all" = some (.builtin "all") := by decide +kernel
theorem nm_bl (n : Str) (h : nmOk n = true) : n ≠ "__name__" ∧ (n == ("__debug__" : Str)) = false := ⟨(nmOk_d h).2.2, (nmOk_d h).1⟩
/-- a built-in function or type called -/
theorem Hy.blt (h : Hy G P W T X c) {b : Nat} {s : String} {t : Bool} {xs : List Expr} {es : Exs} {p pos : Pos} (hc : c.cm = true) (hg : c.gl (Str.ofString s) = true) (hb : bltN b = some (s, t)) (hp : allPlain xs = true) (ha : PA X xs (TAx G P W es)) :
    PE X (.Call (.Name (Str.ofString s) p) xs [] pos) (TX G P W (.blt b es)) := by
  have C := h.cm hc
  have g := h.gl hg
  have hu := h.un
  unfold bltN at hb
  split at hb <;> cases hb
  · exact tx_blt g (h.free _ (by decide)) boot_len (by decide) (by decide) hp (blt0 h.K) ha
  · exact tx_bty g (h.free _ (by decide)) PyProof.Rows.boot_int (by decide) (by decide) hp blt1 ha
  · exact tx_blt g (h.free _ (by decide)) PyProof.Rows.boot_repr (by decide) (by decide) hp (blt2 h.K hu C.gd) ha
  · exact tx_blt g (h.free _ (by decide)) PyProof.Rows.boot_min (by decide) (by decide) hp (blt3 C.calm) ha
  · exact tx_blt g (h.free _ (by decide)) PyProof.Rows.boot_max (by decide) (by decide) hp (blt4 C.calm) ha
  · exact tx_bty g (h.free _ (by decide)) PyProof.Rows.boot_list (by decide) (by decide) hp blt5 ha
  · exact tx_bty g (h.free _ (by decide)) PyProof.Rows.boot_tuple (by decide) (by decide) hp blt6 ha
  · exact tx_blt g (h.free _ (by decide)) boot_all (by decide) (by decide) hp (blt7 C.calm) ha
  · exact tx_blt g (h.free _ (by decide)) PyProof.Rows.boot_ord (by decide) (by decide) hp blt8 ha
  · exact tx_blt g (h.free _ (by decide)) PyProof.Rows.boot_sorted (by decide) (by decide) hp (blt9 h.K C.calm hu) ha
theorem ty_lst {S : Store} {H : Hp} {d : D} {v : V} (rs : RelS G S H) (rd : RepD G.K H d v) (k : kindAt S d = 2) : tyV X.K "list" v H := by
  obtain ⟨a, ds, rfl, e⟩ := kind_lst k
  obtain ⟨vs, h1, _⟩ := rs a _ e
  rw [rep_ref rd]
  exact .inl ⟨rfl, vs, .inl (.inl h1)⟩
theorem ty_dct {S : Store} {H : Hp} {d : D} {v : V} (rs : RelS G S H) (rd : RepD G.K H d v) (k : kindAt S d = 3) : tyV X.K "dict" v H := by
  obtain ⟨a, t, kvs, rfl, e⟩ := kind_dct k
  rw [rep_ref rd]
  have := rs a _ e
  cases t with
  | true => obtain ⟨ws, h1, _⟩ := this; exact .inr (.inr (.inl ⟨rfl, .inr ⟨ws, h1⟩⟩))
  | false => obtain ⟨ws, h1, _⟩ := this; exact .inr (.inr (.inl ⟨rfl, .inl ⟨ws, h1⟩⟩))
theorem ty_str {S : Store} {H : Hp} {d : D} {v : V} (rd : RepD G.K H d v) (k : kindAt S d = 0) : tyV X.K "str" v H := by
  cases d with
  | str s => rw [(rep_str rd).1]; exact rfl
  | ref a =>
    unfold kindAt at k
    dsimp only at k
    split at k <;> cases k
  | _ => cases k
theorem ty_tup {S : Store} {H : Hp} {d : D} {v : V} (hK : X.K = G.K) (rd : RepD G.K H d v) (k : kindAt S d = 1) : tyV X.K "tuple" v H := by
  cases d with
  | ktu s =>
    obtain ⟨a, vs, e, t, _⟩ := rep_ktu2 rd
    rw [e, hK]
    exact .inr (.inl ⟨rfl, t.od⟩)
  | ref a =>
    unfold kindAt at k
    dsimp only at k
    split at k <;> cases k
  | _ => cases k
theorem bm_ok (hK : X.K = G.K) (hu : X.A.units + 65 < cLine) {b : Nat} {s : String} (hb : bmtN b = some s) : ∀ k, mOk b k = true → ∃ T id, BmOk G X b k (Str.ofString s) T id := by
  intro k hk
  unfold bmtN at hb
  split at hb <;> cases hb
  · have : k = 2 := by simpa [mOk] using hk
    subst this
    exact ⟨_, _, F.plainAttrs_list, F.slot_list_append, F.type_list_append, bmt0, fun S H d v rs rd k => ty_lst rs rd k⟩
  · have : k = 2 := by simpa [mOk] using hk
    subst this
    exact ⟨_, _, F.plainAttrs_list, F.slot_list_insert, F.type_list_insert, bmt1, fun S H d v rs rd k => ty_lst rs rd k⟩
  · have : k = 2 := by simpa [mOk] using hk
    subst this
    exact ⟨_, _, F.plainAttrs_list, F.slot_list_pop, F.type_list_pop, bmt2, fun S H d v rs rd k => ty_lst rs rd k⟩
  · have : k = 3 := by simpa [mOk] using hk
    subst this
    exact ⟨_, _, F.plainAttrs_dict, F.slot_dict_get, F.type_dict_get, bmt3 (by omega), fun S H d v rs rd k => ty_dct rs rd k⟩
  · have : k = 0 := by simpa [mOk] using hk
    subst this
    exact ⟨_, _, F.plainAttrs_str, F.slot_str_split, F.type_str_split, bmt4, fun S H d v rs rd k => ty_str rd k⟩
  · have : k = 2 ∨ k = 1 := by simpa [mOk] using hk
    rcases this with rfl | rfl
    · exact ⟨_, _, F.plainAttrs_list, F.slot_list_index, F.type_list_index, bmt5l, fun S H d v rs rd k => ty_lst rs rd k⟩
    · exact ⟨_, _, F.plainAttrs_tuple, F.slot_tuple_index, F.type_tuple_index, bmt5t hK, fun S H d v rs rd k => ty_tup hK rd k⟩
end
end Fv

set_option Elab.async false
set_option linter.all false
set_option maxRecDepth 100000
set_option maxHeartbeats 4000000
/-! The checker is sound: expressions. -/
namespace Fv
open PySem PySem.Spec PyProof.Rows L2
theorem wpT_val {P : Pm} {a : Ex} (h : (match a with | .var _ => true | .cst _ => true | .fld _ _ => true | .idx _ _ => true | .cal _ _ => true | .met _ _ _ => true | .blt _ _ => true | _ => false) = true) :
    ∀ σ S (Q : Bool → Store → Prop) E, wpT P a σ S Q E → wpE P a σ S (fun d S1 => wpTru d S1 fun b => Q b S1) E := by
  intro σ S Q E w
  cases a <;> first | (exact Bool.noConfusion h) | (simp only [wpT] at w; simp only [wpE]; exact w)
theorem ops_eq {a b : Operator} (h : (a == b) = true) : a = b := by
  cases a <;> cases b <;> first | rfl | exact absurd h (by decide)
theorem cmp_eq {a b : CmpOp} (h : (a == b) = true) : a = b := by
  cases a <;> cases b <;> first | rfl | exact absurd h (by decide)
theorem own_map (c : Sc) (own : List Nat) : (ownN c own).map (·.2) = own := by
  unfold ownN
  rw [List.map_map]
  exact List.map_id' own
theorem pw_of {X : Cx} {op : BoolOp} {vs : List Expr} {p : Pos} {t : TT} (h : PT X (.BoolOp op vs p) t) : PW X (.BoolOp op vs p) t := ⟨fun _ pins s σ H Q I w => h.run pins s σ H Q I w⟩
section
variable {G : Gx} {P : Pm} {T : Tb}
mutual
theorem chE_ok : ∀ (e : Ex) (c : Sc) (x : Expr) (X : Cx) (W : WX), Hy G P W T X c → chE T e c x = true → PE X x (TX G P W e)
  | .var i, c, x, X, W, h, e => by
    simp only [chE] at e
    split at e
    · simp only [Bool.and_eq_true, beq_iff_eq] at e
      exact h.var e.1 e.2
    · cases e
  | .cst d, c, x, X, W, h, e => by
    simp only [chE] at e
    exact h.cst e
  | .tup es, c, x, X, W, h, e => by
    simp only [chE] at e
    split at e
    · exact tx_tup (chEs_ok es c _ X W h e)
    · cases e
  | .lst es, c, x, X, W, h, e => by
    simp only [chE] at e
    split at e
    · exact tx_lst (chEs_ok es c _ X W h e)
    · cases e
  | .bin o a b, c, x, X, W, h, e => by
    simp only [chE] at e
    split at e
    · simp only [Bool.and_eq_true] at e
      rw [ops_eq e.1]
      exact tx_bin h.K (chE_ok a c _ X W h e.2.1) (chE_ok b c _ X W h e.2.2)
    · cases e
  | .neg a, c, x, X, W, h, e => by
    simp only [chE] at e
    split at e
    · exact tx_neg (chE_ok a c _ X W h e)
    · cases e
  | .cmp o a b, c, x, X, W, h, e => by
    simp only [chE] at e
    split at e
    · simp only [Bool.and_eq_true, Bool.not_eq_true'] at e
      have e1 := cmp_eq e.1.1
      subst e1
      exact tx_cmp h.K h.un e.1.2 (chE_ok a c _ X W h e.2.1) (chE_ok b c _ X W h e.2.2)
    · cases e
  | .chn o p a b d, c, x, X, W, h, e => by
    simp only [chE] at e
    split at e
    · simp only [Bool.and_eq_true, Bool.not_eq_true'] at e
      have e1 := cmp_eq e.1.1.1
      have e2 := cmp_eq e.1.1.2
      subst e1
      subst e2
      exact tx_chn h.K h.un e.1.2 (chE_ok a c _ X W h e.2.1) (chE_ok b c _ X W h e.2.2.1) (chE_ok d c _ X W h e.2.2.2)
    · cases e
  | .ch3 _ _ _ _ _ _ _, _, _, _, _, _, e => Bool.noConfusion e
  | .nt a, c, x, X, W, h, e => by
    simp only [chE] at e
    split at e
    · exact tx_nt (chE_ok a c _ X W h e)
    · cases e
  | .an a b, c, x, X, W, h, e => by
    simp only [chE] at e
    split at e
    · simp only [Bool.and_eq_true] at e
      obtain ⟨e1, e2⟩ := e
      split at e2
      · exact tx_an (chE_ok a c _ X W h e1) (pe_one (chE_ok b c _ X W h e2))
      · exact tx_an (chE_ok a c _ X W h e1) (chE_ok b c _ X W h e2)
    · cases e
  | .or_ a b, c, x, X, W, h, e => by
    simp only [chE] at e
    split at e
    · simp only [Bool.and_eq_true] at e
      obtain ⟨e1, e2⟩ := e
      split at e2
      · exact tx_or (chE_ok a c _ X W h e1) (pe_one (chE_ok b c _ X W h e2))
      · exact tx_or (chE_ok a c _ X W h e1) (chE_ok b c _ X W h e2)
    · cases e
  | .ite d a b, c, x, X, W, h, e => by
    simp only [chE] at e
    split at e
    · simp only [Bool.and_eq_true] at e
      exact tx_ite (chT_ok d c _ X W h e.1) (chE_ok a c _ X W h e.2.1) (chE_ok b c _ X W h e.2.2)
    · cases e
  | .idx a i, c, x, X, W, h, e => by
    simp only [chE] at e
    split at e
    · simp only [Bool.and_eq_true] at e
      exact tx_idx h.K h.un e.1 (chE_ok a c _ X W h e.2.1) (chE_ok i c _ X W h e.2.2)
    · cases e
  | .sli a l u, c, x, X, W, h, e => by
    simp only [chE] at e
    split at e
    · simp only [Bool.and_eq_true] at e
      obtain ⟨e1, e2, e3⟩ := e
      have pl : ∀ (q : Option Expr), (match q with | none => isN l | some z => !isN l && chE T l c z) = true → ∃ t, PartOk G P W X q l t := by
        intro q e2
        cases q with
        | none =>
          have := isN_eq e2
          subst this
          exact ⟨_, part_none⟩
        | some z =>
          simp only [Bool.and_eq_true, Bool.not_eq_true'] at e2
          exact ⟨_, part_some e2.1 (chE_ok l c _ X W h e2.2)⟩
      have pu : ∀ (q : Option Expr), (match q with | none => isN u | some z => !isN u && chE T u c z) = true → ∃ t, PartOk G P W X q u t := by
        intro q e2
        cases q with
        | none =>
          have := isN_eq e2
          subst this
          exact ⟨_, part_none⟩
        | some z =>
          simp only [Bool.and_eq_true, Bool.not_eq_true'] at e2
          exact ⟨_, part_some e2.1 (chE_ok u c _ X W h e2.2)⟩
      obtain ⟨tl, hl⟩ := pl _ e2
      obtain ⟨tu, hu⟩ := pu _ e3
      exact tx_sli h.K (chE_ok a c _ X W h e1) hl hu
    · cases e
  | .fld a f, c, x, X, W, h, e => by
    simp only [chE] at e
    split at e
    · simp only [Bool.and_eq_true, beq_iff_eq] at e
      exact tx_fld h.K (h.fld _ _ e.1.1) e.1.2 (chE_ok a c _ X W h e.2)
    · cases e
  | .cal f es, c, x, X, W, h, e => by
    simp only [chE] at e
    split at e
    · simp only [Bool.and_eq_true, beq_iff_eq] at e
      obtain ⟨fa, h1, h2, h3⟩ := (h.cm e.1.1.1.1).cal f _ e.1.1.2
      exact tx_cal (h.gl e.1.1.1.2) h1 h2 (nmOk_d (h.fn_ok e.1.1.2)).1 e.1.2 (h3 X W (Like.refl X) h.tk) (chEs_ok es c _ X W h e.2)
    · cases e
  | .met a m es, c, x, X, W, h, e => by
    simp only [chE] at e
    split at e
    · simp only [Bool.and_eq_true, beq_iff_eq] at e
      refine tx_met h.K e.1.1.1.2 e.1.1.2 (beq_iff_eq.mpr e.1.2) (fun C f hf => ?_) (chE_ok a c _ X W h e.2.1) (chEs_ok es c _ X W h e.2.2)
      obtain ⟨fa, h1, h2⟩ := (h.cm e.1.1.1.1.1).met m _ C f e.1.1.1.1.2 hf
      exact ⟨fa, h1, h2 X W (Like.refl X) h.tk⟩
    · cases e
  | .mak C es, c, x, X, W, h, e => by
    simp only [chE] at e
    split at e
    · simp only [Bool.and_eq_true, beq_iff_eq] at e
      obtain ⟨h1, h2⟩ := (h.cm e.1.1.1.1).clg C _ e.1.1.2
      cases hi : P.ini C with
      | none =>
        exact ⟨fun pins s τ H VQ I ⟨σ, S, Q, E, r, rs, w, q, ex⟩ => by
          simp only [wpE, hi] at w⟩
      | some f => exact tx_mak (h.gl e.1.1.1.2) h1 h2 (nmOk_d (h.cls_ok e.1.1.2)).1 e.1.2 hi ((h.cm e.1.1.1.1).mak C f hi X W (Like.refl X) h.tk) (chEs_ok es c _ X W h e.2)
    · cases e
  | .blt b es, c, x, X, W, h, e => by
    simp only [chE] at e
    split at e
    · simp only [Bool.and_eq_true] at e
      obtain ⟨⟨⟨⟨e1, e2⟩, e3⟩, e4⟩, e5⟩ := e
      split at e3
      · rename_i s t hb
        have e6 := beq_iff_eq.mp e3
        subst e6
        exact h.blt e1 e2 hb e4 (chEs_ok es c _ X W h e5)
      · cases e3
    · cases e
  | .bmt b a es, c, x, X, W, h, e => by
    simp only [chE] at e
    split at e
    · simp only [Bool.and_eq_true] at e
      obtain ⟨⟨⟨⟨⟨e1, e2⟩, e3⟩, e4⟩, e5⟩, e6, e7⟩ := e
      split at e2
      · rename_i s hb
        have e8 := beq_iff_eq.mp e2
        subst e8
        exact tx_bmt e3 e4 e5 (bm_ok h.K h.un hb) (chE_ok a c _ X W h e6) (chEs_ok es c _ X W h e7)
      · cases e2
    · cases e
  | .dic t, c, x, X, W, h, e => by
    simp only [chE] at e
    split at e
    · exact tx_dic
    · cases e
  | .lcm d t i f own, c, x, X, W, h, e => by
    simp only [chE] at e
    split at e
    · rename_i elt tg it ifs scope p
      simp only [Bool.and_eq_true] at e
      obtain ⟨⟨⟨⟨⟨e1, e2⟩, e3⟩, e4⟩, e5⟩, e6, e7, e8⟩ := e
      have hc := h.cm e1
      have eo : (ownN c own).map (·.2) = own := own_map c own
      have ok : BlkOk X.N X.env.scope scope (ownN c own) := by rw [h.N, h.sc]; exact blkOk_by e2
      refine ((pe_lc (g := gOf X.K t) (tt := TTx G P W0 f) (te := TX G P W0 d) (wi := TIx G P W i) hc.calm (by rw [h.N]; exact h.nd) (chI_ok i c tg it X W h e6) ok (fun s H C cl fp => (h.blk scope s H C cl fp).tg e5) (fun s H C cl fp => ?_) (fun s H C cl fp => chE_ok d (c.blk scope) elt _ W0 (h.blk scope s H C cl fp) e7) (fold_of e4))).imp fun τ H VQ w => ?_
      · refine if_ok ?_
        split at e8
        · split at e8
          · exact .inl ⟨rfl, rfl⟩
          · cases e8
        · exact .inr ⟨_, rfl, chT_ok f (c.blk scope) _ _ W0 (h.blk scope s H C cl fp) e8⟩
        · cases e8
      · rw [eo, h.K]
        exact lcm_ok e3 w
    · cases e
  | .lc2 d t i t1 i1 own, c, x, X, W, h, e => by
    simp only [chE] at e
    split at e
    · rename_i elt tg it tg1 it1 scope p
      simp only [Bool.and_eq_true] at e
      obtain ⟨⟨⟨⟨⟨⟨⟨⟨e1, e2⟩, e3⟩, e4⟩, e5⟩, e6⟩, e7⟩, e8⟩, e9, e10, e11⟩ := e
      have hc := h.cm e1
      have eo : (ownN c own).map (·.2) = own := own_map c own
      have ok : BlkOk X.N X.env.scope scope (ownN c own) := by rw [h.N, h.sc]; exact blkOk_by e2
      have hv : ∀ j ∈ tgL t1, j ∈ (ownN c own).map (·.2) := by
        intro j hj
        rw [eo]
        cases t1 with
        | var k =>
          have : j = k := by simpa [tgL] using hj
          subst this
          simpa [tgIn] using e4
        | tup l => exact by simpa using List.all_eq_true.mp e4 j hj
      refine ((pe_lc2 (g := gOf X.K t) (tt := tYes) (te := TX G P W0 d) (wi := TIx G P W i) (wi1 := TIx G P W0 i1) (g1 := gOf X.K t1) (tt1 := tYes) (vs1 := tgL t1) hc.calm (by rw [h.N]; exact h.nd) (chI_ok i c tg it X W h e9) ok hv (fun s H C cl fp => (h.blk scope s H C cl fp).tg e7) (fun s H C cl fp => pts_nil)
        (fun s H C cl fp => chI_ok i1 (c.blk scope) tg1 it1 _ W0 (h.blk scope s H C cl fp) e10) (fun s H C cl fp => (h.blk scope s H C cl fp).tg e8) (fun s H C cl fp => pts_nil) (fun s H C cl fp => chE_ok d (c.blk scope) elt _ W0 (h.blk scope s H C cl fp) e11) (fold_of e5) (fun env => fold_of e6))).imp fun τ H VQ w => ?_
      rw [eo, h.K]
      exact lc2_ok e3 w
    · cases e
theorem chEs_ok : ∀ (es : Exs) (c : Sc) (xs : List Expr) (X : Cx) (W : WX), Hy G P W T X c → chEs T es c xs = true → PA X xs (TAx G P W es)
  | .nil, c, xs, X, W, h, e => by
    simp only [chEs] at e
    split at e
    · exact ta_nil
    · cases e
  | .cons a es, c, xs, X, W, h, e => by
    simp only [chEs] at e
    split at e
    · simp only [Bool.and_eq_true] at e
      exact ta_cons e.1 (chE_ok a c _ X W h e.2.1) (chEs_ok es c _ X W h e.2.2)
    · cases e
theorem chT_ok : ∀ (e : Ex) (c : Sc) (x : Expr) (X : Cx) (W : WX), Hy G P W T X c → chT T e c x = true → PT X x (TTx G P W e)
  | .nt a, c, x, X, W, h, e => by
    simp only [chT] at e
    split at e
    · exact tt_nt (chT_ok a c _ X W h e)
    · cases e
  | .an a b, c, x, X, W, h, e => by
    simp only [chT] at e
    split at e
    · simp only [Bool.and_eq_true] at e
      obtain ⟨e1, e2⟩ := e
      split at e2
      · exact (tw_an (chT_ok a c _ X W h e1) (pw_and1 (chT_ok b c _ X W h e2))).pt
      · rename_i q0 q
        have hb := chT_ok b c _ X W h e2
        exact (tw_an (chT_ok a c _ X W h e1) (pw_of hb)).pt
    · cases e
  | .or_ a b, c, x, X, W, h, e => by
    simp only [chT] at e
    split at e
    · simp only [Bool.and_eq_true] at e
      obtain ⟨e1, e2⟩ := e
      split at e2
      · exact (tw_or (chT_ok a c _ X W h e1) (pw_or1 (chT_ok b c _ X W h e2))).pt
      · have hb := chT_ok b c _ X W h e2
        exact (tw_or (chT_ok a c _ X W h e1) (pw_of hb)).pt
    · cases e
  | .cmp o a b, c, x, X, W, h, e => by
    simp only [chT] at e
    split at e
    · simp only [Bool.and_eq_true, Bool.not_eq_true'] at e
      have e1 := cmp_eq e.1.1
      subst e1
      exact tt_cmp h.K h.un e.1.2 (chE_ok a c _ X W h e.2.1) (chE_ok b c _ X W h e.2.2)
    · cases e
  | .chn o p a b d, c, x, X, W, h, e => by
    simp only [chT] at e
    split at e
    · simp only [Bool.and_eq_true, Bool.not_eq_true'] at e
      have e1 := cmp_eq e.1.1.1
      have e2 := cmp_eq e.1.1.2
      subst e1
      subst e2
      exact tt_chn h.K h.un e.1.2 (chE_ok a c _ X W h e.2.1) (chE_ok b c _ X W h e.2.2.1) (chE_ok d c _ X W h e.2.2.2)
    · cases e
  | .ch3 o p q a b d f, c, x, X, W, h, e => by
    simp only [chT] at e
    split at e
    · simp only [Bool.and_eq_true, Bool.not_eq_true'] at e
      have e1 := cmp_eq e.1.1.1.1
      have e2 := cmp_eq e.1.1.1.2
      have e3 := cmp_eq e.1.1.2
      subst e1
      subst e2
      subst e3
      exact tt_ch3 h.K h.un e.1.2 (chE_ok a c _ X W h e.2.1) (chE_ok b c _ X W h e.2.2.1) (chE_ok d c _ X W h e.2.2.2.1) (chE_ok f c _ X W h e.2.2.2.2)
    · cases e
  | .var i, c, x, X, W, h, e => by
    simp only [chT] at e
    split at e
    · simp only [Bool.and_eq_true, beq_iff_eq] at e
      exact tt_val h.K rfl (h.var e.1 e.2) (wpT_val rfl)
    · cases e
  | .cst d, c, x, X, W, h, e => by
    simp only [chT] at e
    have hv : valHead x = true := by
      unfold chC at e
      split at e <;> first | rfl | cases e
    exact tt_val h.K hv (h.cst e) (wpT_val rfl)
  | .fld a f, c, x, X, W, h, e => by
    simp only [chT] at e
    split at e
    · simp only [Bool.and_eq_true, beq_iff_eq] at e
      exact tt_val h.K rfl (tx_fld h.K (h.fld _ _ e.1.1) e.1.2 (chE_ok a c _ X W h e.2)) (wpT_val rfl)
    · cases e
  | .idx a i, c, x, X, W, h, e => by
    simp only [chT] at e
    split at e
    · simp only [Bool.and_eq_true] at e
      exact tt_val h.K rfl (tx_idx h.K h.un e.1 (chE_ok a c _ X W h e.2.1) (chE_ok i c _ X W h e.2.2)) (wpT_val rfl)
    · cases e
  | .cal f es, c, x, X, W, h, e => by
    simp only [chT] at e
    split at e
    · simp only [Bool.and_eq_true, beq_iff_eq] at e
      obtain ⟨fa, h1, h2, h3⟩ := (h.cm e.1.1.1.1).cal f _ e.1.1.2
      exact tt_val h.K rfl (tx_cal (h.gl e.1.1.1.2) h1 h2 (nmOk_d (h.fn_ok e.1.1.2)).1 e.1.2 (h3 X W (Like.refl X) h.tk) (chEs_ok es c _ X W h e.2)) (wpT_val rfl)
    · cases e
  | .met a m es, c, x, X, W, h, e => by
    simp only [chT] at e
    split at e
    · simp only [Bool.and_eq_true, beq_iff_eq] at e
      refine tt_val h.K rfl (tx_met h.K e.1.1.1.2 e.1.1.2 (beq_iff_eq.mpr e.1.2) (fun C f hf => ?_) (chE_ok a c _ X W h e.2.1) (chEs_ok es c _ X W h e.2.2)) (wpT_val rfl)
      obtain ⟨fa, h1, h2⟩ := (h.cm e.1.1.1.1.1).met m _ C f e.1.1.1.1.2 hf
      exact ⟨fa, h1, h2 X W (Like.refl X) h.tk⟩
    · cases e
  | .blt b es, c, x, X, W, h, e => by
    simp only [chT] at e
    split at e
    · simp only [Bool.and_eq_true] at e
      obtain ⟨⟨⟨⟨e1, e2⟩, e3⟩, e4⟩, e5⟩ := e
      split at e3
      · rename_i s t hb
        have e6 := beq_iff_eq.mp e3
        subst e6
        exact tt_val h.K rfl (h.blt e1 e2 hb e4 (chEs_ok es c _ X W h e5)) (wpT_val rfl)
      · cases e3
    · cases e
  | .tup _, _, _, _, _, _, e => Bool.noConfusion e
  | .lst _, _, _, _, _, _, e => Bool.noConfusion e
  | .bin _ _ _, _, _, _, _, _, e => Bool.noConfusion e
  | .neg _, _, _, _, _, _, e => Bool.noConfusion e
  | .ite _ _ _, _, _, _, _, _, e => Bool.noConfusion e
  | .sli _ _ _, _, _, _, _, _, e => Bool.noConfusion e
  | .mak _ _, _, _, _, _, _, e => Bool.noConfusion e
  | .bmt _ _ _, _, _, _, _, _, e => Bool.noConfusion e
  | .dic _, _, _, _, _, _, e => Bool.noConfusion e
  | .lcm _ _ _ _ _, _, _, _, _, _, e => Bool.noConfusion e
  | .lc2 _ _ _ _ _ _, _, _, _, _, _, e => Bool.noConfusion e
theorem chI_ok : ∀ (i : Itr) (c : Sc) (tg x : Expr) (X : Cx) (W : WX), Hy G P W T X c → chI T i c tg x = true → PI X tg x (TIx G P W i)
  | .sq a, c, tg, x, X, W, h, e => by
    simp only [chI] at e
    exact ti_sq h.K (chE_ok a c x X W h e)
  | .rg1 a, c, tg, x, X, W, h, e => by
    simp only [chI] at e
    split at e
    · simp only [Bool.and_eq_true, beq_iff_eq] at e
      rw [e.1.1.1]
      exact ti_rg1 (h.gl e.1.1.2) (h.free _ (by decide)) e.1.2 (chE_ok a c _ X W h e.2)
    · cases e
  | .rg2 a b, c, tg, x, X, W, h, e => by
    simp only [chI] at e
    split at e
    · simp only [Bool.and_eq_true, beq_iff_eq] at e
      rw [e.1.1.1.1]
      exact ti_rg2 (h.gl e.1.1.1.2) (h.free _ (by decide)) e.1.1.2 e.1.2 (chE_ok a c _ X W h e.2.1) (chE_ok b c _ X W h e.2.2)
    · cases e
  | .zip a b, c, tg, x, X, W, h, e => by
    simp only [chI] at e
    split at e
    · simp only [Bool.and_eq_true, beq_iff_eq] at e
      rw [e.1.1.1.1.1]
      cases tg <;> first | (exact Bool.noConfusion e.1.1.1.2) | skip
      exact ti_zip h.K (h.gl e.1.1.1.1.2) (h.free _ (by decide)) e.1.1.2 e.1.2 (chE_ok a c _ X W h e.2.1) (chE_ok b c _ X W h e.2.2)
    · cases e
  | .enm a, c, tg, x, X, W, h, e => by
    simp only [chI] at e
    split at e
    · simp only [Bool.and_eq_true, beq_iff_eq] at e
      rw [e.1.1.1.1]
      cases tg <;> first | (exact Bool.noConfusion e.1.1.2) | skip
      exact ti_enm h.K (h.gl e.1.1.1.2) (h.free _ (by decide)) e.1.2 (chE_ok a c _ X W h e.2)
    · cases e
end
end
end Fv

set_option Elab.async false
set_option linter.all false
set_option maxRecDepth 100000
set_option maxHeartbeats 4000000
/-! Statements. -/
namespace Fv
open PySem PySem.Spec PyProof.Rows L2
/-- the plain wants of a statement are those of the heap -/
structure KOk (G : Gx) (H : Hp) (K : Ks) (D : Ends) (W : WX) : Prop where
  nx : ∀ σ S τ H1, Stab H H1 → RelS G S H1 → RepE G H1 σ τ → K.nx σ S → D.nx τ H1
  rt : QOk G H K.rt D.rt
  bk : ∀ σ S τ H1, Stab H H1 → RelS G S H1 → RepE G H1 σ τ → K.bk σ S → D.bk τ H1
  ct : ∀ σ S τ H1, Stab H H1 → RelS G S H1 → RepE G H1 σ τ → K.ct σ S → D.ct τ H1
  ex : ∀ x σ S c dd τ H1, Stab H H1 → RelS G S H1 → RepE G H1 σ τ → XnR G H1 x c dd → K.ex x σ S → W c dd τ H1
theorem KOk.stab {G : Gx} {H H1 : Hp} {K : Ks} {D : Ends} {W : WX} (k : KOk G H K D W) (s : Stab H H1) : KOk G H1 K D W :=
  ⟨fun σ S τ H2 s2 => k.nx σ S τ H2 (s.trans s2), k.rt.stab s, fun σ S τ H2 s2 => k.bk σ S τ H2 (s.trans s2), fun σ S τ H2 s2 => k.ct σ S τ H2 (s.trans s2), fun x σ S c dd τ H2 s2 => k.ex x σ S c dd τ H2 (s.trans s2)⟩
theorem KOk.xok {G : Gx} {H : Hp} {K : Ks} {D : Ends} {W : WX} {σ : Ev} {τ : L2.St} (k : KOk G H K D W) (r : RepE G H σ τ) : XOk G H (fun x S1 => K.ex x σ S1) (fun c d H' => W c d τ H') :=
  fun x S c dd H1 s rs xr h => k.ex x σ S c dd τ H1 s rs (r.stab s) xr h
section
variable (G : Gx) (P : Pm) (W : WX)
def TS1 (s : Sm) : TS := fun D τ H => ∃ σ S K, RepE G H σ τ ∧ RelS G S H ∧ wpS P s σ S K ∧ KOk G H K D W
def TSs (b : Sms) : TS := fun D τ H => ∃ σ S K, RepE G H σ τ ∧ RelS G S H ∧ wpSs P b σ S K ∧ KOk G H K D W
end
theorem _root_.L2.PS.imp {X : Cx} {x : Stmt} {t t' : TS} (h : PS X x t) (i : ∀ D τ H, t' D τ H → t D τ H) : PS X x t' := ⟨fun pins s τ H D I w => h.run pins s τ H D I (i _ _ _ w)⟩
theorem _root_.L2.PSs.imp {X : Cx} {x : List Stmt} {t t' : TS} (h : PSs X x t) (i : ∀ D τ H, t' D τ H → t D τ H) : PSs X x t' := ⟨fun pins s τ H D I w => h.run pins s τ H D I (i _ _ _ w)⟩

/-! ### a dict's entry is set -/
section
variable {G : Gx} {H : Hp}
theorem any_KK : ∀ {kvs : List (D × D)} {ws : List (Key × V)} {k : D}, isFlat k = true → RepKK G H kvs ws → (kvs.any fun p => decide (p.1 = k)) = (ws.any fun kv => decide (kv.1 = keyD k))
  | [], ws, k, f, r => by
    have e : ws = [] := r
    subst e
    rfl
  | (i, x) :: kvs, _, k, f, r => by
    obtain ⟨v, q, rfl, h1, h2, h3, h4⟩ := r
    have e : decide (i = k) = decide (keyD i = keyD k) := by
      by_cases z : i = k
      · simp [z]
      · have : ¬ keyD i = keyD k := fun w => z (keyD_inj h1 f w)
        simp [z, this]
    simp only [List.any_cons, any_KK f h4, e]
theorem put_KK {kvs : List (D × D)} {ws : List (Key × V)} {k d : D} {v : V} (f : isFlat k = true) (rk : RepD G.K H k (kV (keyD k))) (rd : RepD G.K H d v) (r : RepKK G H kvs ws) : RepKK G H (dput kvs k d) (putK ws (keyD k) v) := by
  have mp : ∀ {kvs : List (D × D)} {ws : List (Key × V)}, RepKK G H kvs ws → RepKK G H (kvs.map fun p => if p.1 = k then (p.1, d) else p) (ws.map fun kv => if kv.1 = keyD k then (kv.1, v) else kv) := by
    intro kvs
    induction kvs with
    | nil =>
      intro ws r
      have e : ws = [] := r
      subst e
      exact rfl
    | cons p kvs ih =>
      intro ws r
      obtain ⟨i, x⟩ := p
      obtain ⟨u, q, rfl, h1, h2, h3, h4⟩ := r
      by_cases z : i = k
      · subst z
        simp only [List.map_cons, if_true]
        exact ⟨v, _, rfl, h1, h2, rd, ih h4⟩
      · have z' : ¬ keyD i = keyD k := fun w => z (keyD_inj h1 f w)
        simp only [List.map_cons, if_neg z, if_neg z']
        exact ⟨u, _, rfl, h1, h2, h3, ih h4⟩
  have ap : ∀ {kvs : List (D × D)} {ws : List (Key × V)}, RepKK G H kvs ws → RepKK G H (kvs ++ [(k, d)]) (ws ++ [(keyD k, v)]) := by
    intro kvs
    induction kvs with
    | nil =>
      intro ws r
      have e : ws = [] := r
      subst e
      exact ⟨v, [], rfl, f, rk, rd, rfl⟩
    | cons p kvs ih =>
      intro ws r
      obtain ⟨i, x⟩ := p
      obtain ⟨u, q, rfl, h1, h2, h3, h4⟩ := r
      exact ⟨u, _, rfl, h1, h2, h3, ih h4⟩
  unfold dput putK
  rw [any_KK f r]
  split
  · exact mp r
  · exact ap r
theorem any_KT : ∀ {kvs : List (D × D)} {ws : List (List Key × V)} {k : D}, isTupK k = true → RepKT G H kvs ws → (kvs.any fun p => decide (p.1 = k)) = (ws.any fun kv => decide (kv.1 = keysD k))
  | [], ws, k, f, r => by
    have e : ws = [] := r
    subst e
    rfl
  | (i, x) :: kvs, _, k, f, r => by
    obtain ⟨v, q, rfl, h1, h2, h3, h4⟩ := r
    have e : decide (i = k) = decide (keysD i = keysD k) := by
      by_cases z : i = k
      · simp [z]
      · have : ¬ keysD i = keysD k := fun w => z (keysD_inj h1 f w)
        simp [z, this]
    simp only [List.any_cons, any_KT f h4, e]
theorem put_KT {kvs : List (D × D)} {ws : List (List Key × V)} {k d : D} {v : V} (f : isTupK k = true) (ok : okT k = true) (rd : RepD G.K H d v) (r : RepKT G H kvs ws) : RepKT G H (dput kvs k d) (putK ws (keysD k) v) := by
  have mp : ∀ {kvs : List (D × D)} {ws : List (List Key × V)}, RepKT G H kvs ws → RepKT G H (kvs.map fun p => if p.1 = k then (p.1, d) else p) (ws.map fun kv => if kv.1 = keysD k then (kv.1, v) else kv) := by
    intro kvs
    induction kvs with
    | nil =>
      intro ws r
      have e : ws = [] := r
      subst e
      exact rfl
    | cons p kvs ih =>
      intro ws r
      obtain ⟨i, x⟩ := p
      obtain ⟨u, q, rfl, h1, h2, h3, h4⟩ := r
      by_cases z : i = k
      · subst z
        simp only [List.map_cons, if_true]
        exact ⟨v, _, rfl, h1, h2, rd, ih h4⟩
      · have z' : ¬ keysD i = keysD k := fun w => z (keysD_inj h1 f w)
        simp only [List.map_cons, if_neg z, if_neg z']
        exact ⟨u, _, rfl, h1, h2, h3, ih h4⟩
  have ap : ∀ {kvs : List (D × D)} {ws : List (List Key × V)}, RepKT G H kvs ws → RepKT G H (kvs ++ [(k, d)]) (ws ++ [(keysD k, v)]) := by
    intro kvs
    induction kvs with
    | nil =>
      intro ws r
      have e : ws = [] := r
      subst e
      exact ⟨v, [], rfl, f, ok, rd, rfl⟩
    | cons p kvs ih =>
      intro ws r
      obtain ⟨i, x⟩ := p
      obtain ⟨u, q, rfl, h1, h2, h3, h4⟩ := r
      exact ⟨u, _, rfl, h1, h2, h3, ih h4⟩
  unfold dput putK
  rw [any_KT f r]
  split
  · exact mp r
  · exact ap r
theorem len_KK : ∀ {kvs : List (D × D)} {ws : List (Key × V)}, RepKK G H kvs ws → kvs.length = ws.length
  | [], ws, r => by
    have e : ws = [] := r
    subst e
    rfl
  | (i, x) :: kvs, _, r => by
    obtain ⟨v, q, rfl, _, _, _, h4⟩ := r
    simp [len_KK h4]
theorem len_KT : ∀ {kvs : List (D × D)} {ws : List (List Key × V)}, RepKT G H kvs ws → kvs.length = ws.length
  | [], ws, r => by
    have e : ws = [] := r
    subst e
    rfl
  | (i, x) :: kvs, _, r => by
    obtain ⟨v, q, rfl, _, _, _, h4⟩ := r
    simp [len_KT h4]
end
/-- x[k] = d -/
def setW (x k d : D) (S : Store) (N : Store → Prop) : Prop := match x with
  | .ref a => (match S a with
    | some (.lst ds) => (match k with
      | .int j => (match L2.ixN ds.length j with
        | some n => N (su S a (.lst (ds.set n d)))
        | none => False)
      | _ => False)
    | some (.dct t kvs) => (fitsK t k = true ∧ kvs.length < LIM) ∧ N (su S a (.dct t (dput kvs k d)))
    | _ => False)
  | _ => False
def SetV (G : Gx) : TSet := fun o i v H Q => ∃ x k d S N, RepD G.K H x o ∧ RepD G.K H k i ∧ RepD G.K H d v ∧ RelS G S H ∧ setW x k d S N ∧ ∀ S' H', Stab H H' → RelS G S' H' → N S' → Q H'
theorem set_ok {G : Gx} {X : Cx} (hu : X.A.units + 1 < cLine) : PSet X (SetV G) := by
  intro pins s σ H o i v ov iv u Q I ro ri rv ⟨x, k, d, S, N, rx, rk, rd, rs, w, q⟩
  unfold setW at w
  cases x with
  | ref a =>
    have ev := rep_ref rx
    subst ev
    dsimp only at w
    split at w
    · rename_i ds hS
      obtain ⟨vs, h1, h2⟩ := rs a _ hS
      cases k with
      | int j =>
        have ek := rep_int rk
        subst ek
        dsimp only at w
        split at w
        · rename_i n hn
          refine set_list pins s σ H (.ref a) (.int j) v ov iv u Q I ro ri rv ⟨a, vs, j, n, rfl, rfl, h1, by rw [← h2.len]; exact hn, ?_⟩
          have st : Stab H (upd H a (.lst (vs.set n v))) := Stab.put h1 trivial
          exact q _ _ st (rs.put (c := .lst (ds.set n d)) h1 trivial ⟨_, upd_same, (h2.stab st).set (rd.stab st) n⟩) w
        · exact w.elim
      | _ => exact w.elim
    · rename_i t kvs hS
      have hc := rs a _ hS
      cases t with
      | false =>
        obtain ⟨ws, h1, h2⟩ := hc
        have f : isFlat k = true := w.1.1
        have ek := rep_key f rk
        have st : Stab H (upd H a (.dK (putK ws (keyD k) v))) := Stab.put h1 trivial
        refine set_dict hu pins s σ H (.ref a) i v ov iv u Q I ro ri rv ⟨a, _, rfl, by rw [ek]; exact DPut.k h1 (by rw [← len_KK h2]; exact LIM_lt w.1.2), ?_⟩
        refine q _ _ st (rs.put (c := .dct false (dput kvs k d)) h1 trivial ⟨_, upd_same, put_KK f (by rw [← ek]; exact rk.stab st) (rd.stab st) (h2.stab st)⟩) w.2
      | true =>
        obtain ⟨ws, h1, h2⟩ := hc
        have f : isTupK k = true := w.1.1
        cases k with
        | tup ks =>
          obtain ⟨b, us, eb, hb, rl⟩ := rep_tup rk
          subst eb
          obtain ⟨e1, e2⟩ := rep_keys (K := G.K) f rl
          have st : Stab H (upd H a (.dT (putK ws (keysD (.tup ks)) v))) := Stab.put h1 trivial
          refine set_dict hu pins s σ H (.ref a) (.ref b) v ov iv u Q I ro ri rv ⟨a, _, rfl, DPut.t (k := keysD (.tup ks)) h1 (by rw [hb, e1]; rfl) (by rw [← len_KT h2]; exact LIM_lt w.1.2), ?_⟩
          exact q _ _ st (rs.put (c := .dct true (dput kvs (.tup ks) d)) h1 trivial ⟨_, upd_same, put_KT f e2 (rd.stab st) (h2.stab st)⟩) w.2
        | _ => cases f
    · exact w.elim
  | _ => exact w.elim

section
variable {G : Gx} {P : Pm} {W : WX} {X : Cx} {x y z : Expr} {a b c : Ex} {pos : Pos} {st : Stmt} {sts sts2 : List Stmt} {s : Sm} {r ss ss2 : Sms}
theorem tss_nil : PSs X [] (TSs G P W .nil) := pss_nil.imp fun D τ H ⟨σ, S, K, re, rs, w, k⟩ => by
  simp only [wpSs] at w
  exact k.nx σ S τ H (Stab.refl H) rs re w
theorem tss_cons (h1 : PS X st (TS1 G P W s)) (h2 : PSs X sts (TSs G P W r)) : PSs X (st :: sts) (TSs G P W (.cons s r)) :=
  (pss_cons h1 h2).imp fun D τ H ⟨σ, S, K, re, rs, w, k⟩ => by
    simp only [wpSs] at w
    exact ⟨σ, S, _, re, rs, w, fun σ' S' τ' H' s' rs' re' w' => ⟨σ', S', K, re', rs', w', k.stab s'⟩, k.rt, k.bk, k.ct, k.ex⟩
theorem ts_pass : PS X (.Pass pos) (TS1 G P W .pass) := ps_pass.imp fun D τ H ⟨σ, S, K, re, rs, w, k⟩ => by
  simp only [wpS] at w
  exact k.nx σ S τ H (Stab.refl H) rs re w
theorem ts_expr (hn : notComp x = true) (ha : PE X x (TX G P W a)) : PS X (.Expr x pos) (TS1 G P W (.expr a)) :=
  (ps_expr ha (swaps_of hn)).imp fun D τ H ⟨σ, S, K, re, rs, w, k⟩ => by
    simp only [wpS] at w
    exact ⟨σ, S, _, _, re, rs, w, fun d S1 v H1 s1 rs1 rd w1 => k.nx σ S1 τ H1 s1 rs1 (re.stab s1) w1, k.xok re⟩
theorem ts_ret (ha : PE X x (TX G P W a)) : PS X (.Return (some x) pos) (TS1 G P W (.ret a)) :=
  (ps_ret ha).imp fun D τ H ⟨σ, S, K, re, rs, w, k⟩ => by
    simp only [wpS] at w
    exact ⟨σ, S, _, _, re, rs, w, k.rt, k.xok re⟩
theorem ts_ret0 : PS X (.Return none pos) (TS1 G P W (.ret (.cst .non))) :=
  ps_retN.imp fun D τ H ⟨σ, S, K, re, rs, w, k⟩ => by
    simp only [wpS, wpE] at w
    exact k.rt.here rs mk_non w
/-- an assignment, by its target's way -/
theorem asg_ok {t : Tg} {D : Ends} {τ : L2.St} {H : Hp} (h : TS1 G P W (.asg t a) D τ H) : tAsg (TX G P W a) (gOf G.K t) D τ H := by
  obtain ⟨σ, S, K, re, rs, w, k⟩ := h
  simp only [wpS] at w
  exact ⟨σ, S, _, _, re, rs, w, fun d S1 v H1 s1 rs1 rd w1 => g_ok rd (re.stab s1) w1 fun σ' τ' r' w2 _ => k.nx σ' S1 τ' H1 s1 rs1 r' w2, k.xok re⟩
theorem ts_if {tt : Ex} (hc : PT X z (TTx G P W tt)) (ha : PSs X sts (TSs G P W ss)) (hb : PSs X sts2 (TSs G P W ss2)) : PS X (.If z sts sts2 pos) (TS1 G P W (.ite tt ss ss2)) :=
  (ps_if hc ha hb).imp fun D τ H ⟨σ, S, K, re, rs, w, k⟩ => by
    simp only [wpS] at w
    refine ⟨σ, S, _, _, re, rs, w, fun b S1 H1 s1 rs1 w1 => ?_, k.xok re⟩
    dsimp only at w1 ⊢
    by_cases z : b = true
    · rw [if_pos z] at w1 ⊢
      exact ⟨σ, S1, K, re.stab s1, rs1, w1, k.stab s1⟩
    · rw [if_neg z] at w1 ⊢
      exact ⟨σ, S1, K, re.stab s1, rs1, w1, k.stab s1⟩
def hdHas : Hds → Nat → Bool
  | .nil, _ => false
  | .cons C _ r, D => C == D || hdHas r D
theorem ts_fset {f : Nat} {n : Str} {p' : Pos} (hK : X.K = G.K) (hn : G.fnm f = n) (hna : ∀ C, P.fok C f = true → NoAttr G.K (G.cls C) n) (hy : PE X y (TX G P W b)) (hx : PE X x (TX G P W a)) (hs : notComp x = true) :
    PS X (.Assign [.Attribute y n p'] x pos) (TS1 G P W (.fset b f a)) :=
  (ps_fld hy hx (swaps_of hs)).imp fun DD τ H ⟨σ, S, K, re, rs, w, k⟩ => by
    simp only [wpS] at w
    refine ⟨σ, S, _, _, re, rs, w, fun d S1 v H1 s1 rs1 rd w1 => ⟨σ, S1, _, _, re.stab s1, rs1, w1, fun d2 S2 v2 H2 s2 rs2 rd2 w2 => ?_, (k.stab s1).xok (re.stab s1)⟩, k.xok re⟩
    subst hn
    dsimp only at w2
    split at w2
    · rename_i p
      split at w2
      · rename_i C fs hS
        obtain ⟨dx, ws, h1, h2, h3, h4⟩ := rs2 p _ hS
        have st : Stab H2 (upd H2 p (.ins (G.cls C) dx (putF (G.fnm f) v ws))) := Stab.put h1 trivial
        refine ⟨p, G.cls C, dx, ws, rep_ref rd2, h1, by rw [hK]; exact h3, by rw [hK]; exact hna C w2.1.2, ?_, ?_⟩
        · rw [← h2.len]
          exact Nat.lt_trans w2.1.1 (by decide)
        · refine k.nx σ _ τ _ ((s1.trans s2).trans st) (rs2.put (c := .ins C (fput f d fs)) h1 trivial ⟨dx, _, upd_same, (h2.stab st).put ((rd.stab s2).stab st), h3, fun p hp => ?_⟩) (((re.stab s1).stab s2).stab st) w2.2
          have : ∀ (fs : List (Nat × D)) (p : Nat × D), p ∈ fput f d fs → p.1 = f ∨ ∃ q ∈ fs, q.1 = p.1 := by
            intro fs
            induction fs with
            | nil =>
              intro p hp
              have : p = (f, d) := by simpa [fput] using hp
              exact .inl (by rw [this])
            | cons q fs ih =>
              intro p hp
              obtain ⟨g, y⟩ := q
              unfold fput at hp
              split at hp
              · rename_i e
                rcases List.mem_cons.mp hp with z | z
                · exact .inr ⟨(g, y), List.mem_cons_self, by rw [z]⟩
                · exact .inr ⟨p, List.mem_cons_of_mem _ z, rfl⟩
              · rcases List.mem_cons.mp hp with z | z
                · exact .inr ⟨(g, y), List.mem_cons_self, by rw [z]⟩
                · rcases ih p z with z | ⟨q, h1, h2⟩
                  · exact .inl z
                  · exact .inr ⟨q, List.mem_cons_of_mem _ h1, h2⟩
          rcases this fs p hp with e | ⟨q, h5, h6⟩
          · rw [e]; exact hna C w2.1.2
          · rw [← h6]; exact h4 q h5
      · exact w2.elim
    · exact w2.elim
theorem ts_sset {p' : Pos} (hz' : notSlice z = true) (hu : X.A.units + 65 < cLine) (hy : PE X y (TX G P W b)) (hz : PE X z (TX G P W c)) (hx : PE X x (TX G P W a)) (hs : notComp x = true) :
    PS X (.Assign [.Subscript y z p'] x pos) (TS1 G P W (.sset b c a)) :=
  (ps_asg hx (pg_sub hy hz (set_ok (G := G) (by omega)) (fun v => by cases z <;> first | rfl | exact Bool.noConfusion hz')) (by show swapsWith x (some (.Subscript y z p')) pos.line X.env = pure false; exact swaps_of hs) rfl).imp fun D τ H ⟨σ, S, K, re, rs, w, k⟩ => by
    simp only [wpS] at w
    refine ⟨σ, S, _, _, re, rs, w, fun d S1 v H1 s1 rs1 rd w1 => ⟨σ, S1, _, _, re.stab s1, rs1, w1, fun d2 S2 v2 H2 s2 rs2 rd2 w2 => ⟨σ, S2, _, _, (re.stab s1).stab s2, rs2, w2, fun d3 S3 v3 H3 s3 rs3 rd3 w3 => ?_, ((k.stab s1).stab s2).xok ((re.stab s1).stab s2)⟩, (k.stab s1).xok (re.stab s1)⟩, k.xok re⟩
    refine ⟨d2, d3, d, S3, fun S' => K.nx σ S', rd2.stab s3, rd3, (rd.stab s2).stab s3, rs3, ?_, fun S' H' s' rs' h => k.nx σ S' τ H' (((s1.trans s2).trans s3).trans s') rs' ((((re.stab s1).stab s2).stab s3).stab s') h⟩
    unfold setW
    exact w3

/-! loops -/
theorem ts_whl {tt : Ex} (hp : PassesOwn (model X.prog X.w) X.A X.env X.xe) (hc : PT X z (TTx G P W tt)) (hb : PSs X sts (TSs G P W ss)) : PS X (.While z sts [] pos) (TS1 G P W (.whl tt ss)) :=
  (ps_while hp hc hb).imp fun D τ H ⟨σ, S, K, re, rs, w, k⟩ => by
    simp only [wpS] at w
    obtain ⟨n, w⟩ := w
    refine ⟨fun m τ' H' => ∃ σ' S', Stab H H' ∧ RelS G S' H' ∧ RepE G H' σ' τ' ∧ whlW (fun σ S Q => wpT P tt σ S Q (fun x S1 => K.ex x σ S1)) (fun σ S N B => wpSs P ss σ S { K with nx := N, ct := N, bk := B }) m σ' S' K.nx, ⟨n, σ, S, Stab.refl H, rs, re, w⟩, ?_⟩
    rintro m τ1 H1 ⟨σ1, S1, s1, rs1, re1, w1⟩
    cases m with
    | zero => exact w1.elim
    | succ m =>
      unfold whlW at w1
      refine ⟨σ1, S1, _, _, re1, rs1, w1, fun b S2 H2 s2 rs2 w2 => ?_, (k.stab s1).xok re1⟩
      dsimp only at w2 ⊢
      by_cases z : b = true
      · rw [if_pos z] at w2 ⊢
        refine ⟨fun τ' H' => ∃ σ' S', Stab H H' ∧ RelS G S' H' ∧ RepE G H' σ' τ' ∧ whlW _ _ m σ' S' K.nx, fun τ' H' h => ⟨m, Nat.lt_succ_self m, h⟩, ?_⟩
        have k2 := (k.stab s1).stab s2
        exact ⟨σ1, S2, _, re1.stab s2, rs2, w2, fun σ' S' τ' H' s' rs' re' h => ⟨σ', S', (s1.trans s2).trans s', rs', re', h⟩, k2.rt, fun σ' S' τ' H' s' rs' re' h => k2.nx σ' S' τ' H' s' rs' re' h, fun σ' S' τ' H' s' rs' re' h => ⟨σ', S', (s1.trans s2).trans s', rs', re', h⟩, k2.ex⟩
      · rw [if_neg z] at w2 ⊢
        exact k.nx σ1 S2 τ1 H2 (s1.trans s2) rs2 (re1.stab s2) w2
theorem forW_st {st : Store → Prop} {step : D → Ev → Store → (Ev → Store → Prop) → (Ev → Store → Prop) → Prop} : ∀ {ds : List D} {σ : Ev} {S : Store} {N : Ev → Store → Prop}, forW st step ds σ S N → st S
  | [], _, _, _, w => w.1
  | _ :: _, _, _, _, w => w.1
theorem ts_for {t : Tg} {i : Itr} {tg : Expr} (hp : PassesOwn (model X.prog X.w) X.A X.env X.xe) (hc : X.calm = true) (hK : X.K = G.K) (hi : PI X tg x (TIx G P W i)) (hg : PG X tg (gOf X.K t)) (hn : notSet x = true) (hb : PSs X sts (TSs G P W ss)) :
    PS X (.For tg x sts [] pos) (TS1 G P W (.for_ t i ss)) :=
  (ps_for hp hc hi hg hb (fold_of hn)).imp fun D τ H ⟨σ, S, K, re, rs, w, k⟩ => by
    simp only [wpS] at w
    refine ⟨σ, S, _, _, re, rs, w, fun ds st S1 J H1 s1 rs1 ito w1 => ?_, k.xok re⟩
    refine ⟨fun j m τ' H' => m = ds.length - j ∧ ∃ σ' S', Stab H1 H' ∧ RelS G S' H' ∧ RepE G H' σ' τ' ∧ forW st _ (ds.drop j) σ' S' K.nx, ⟨_, rfl, σ, S1, Stab.refl H1, rs1, re.stab s1, w1⟩, ?_⟩
    rintro j m τ1 H2 ⟨rfl, σ1, S2, s2, rs2, re2, w2⟩
    have hst := forW_st w2
    by_cases hj : j < ds.length
    · right
      obtain ⟨go, yl⟩ := ito.go j S2 H2 s2 rs2 hst hj
      refine ⟨go, fun τ' H' => ∃ σ' S', Stab H1 H' ∧ RelS G S' H' ∧ RepE G H' σ' τ' ∧ forW st _ (ds.drop (j + 1)) σ' S' K.nx, fun τ' H' ⟨σ', S', a1, a2, a3, a4⟩ => ⟨_, by omega, rfl, σ', S', a1, a2, a3, a4⟩, fun v H3 hy => ?_⟩
      obtain ⟨s3, rs3, d, hd, rd⟩ := yl v H3 hy
      obtain ⟨hl, he⟩ := List.getElem?_eq_some_iff.mp hd
      rw [List.drop_eq_getElem_cons hl, he] at w2
      rw [hK]
      refine g_ok rd (re2.stab s3) w2.2 fun σ2 τ2 r2 w3 _ => ?_
      have k3 := ((k.stab s1).stab s2).stab s3
      exact ⟨σ2, S2, _, r2, rs3, w3, fun σ' S' τ' H' s' rs' re' h => ⟨σ', S', (s2.trans s3).trans s', rs', re', h⟩, k3.rt, fun σ' S' τ' H' s' rs' re' h => k3.nx σ' S' τ' H' s' rs' re' h, fun σ' S' τ' H' s' rs' re' h => ⟨σ', S', (s2.trans s3).trans s', rs', re', h⟩, k3.ex⟩
    · left
      rw [List.drop_of_length_le (by omega)] at w2
      exact ⟨ito.stop j S2 H2 s2 rs2 hst (by omega), k.nx σ1 S2 τ1 H2 (s1.trans s2) rs2 re2 w2.2⟩

/-! errors -/
theorem ts_rse {C : Nat} {n : Str} {xs : List Expr} {es : Exs} {p p2 : Pos} (hc : X.calm = true) (tk : Takes X W) (hm : XMk G P X W C n) (ha : PA X xs (TAx G P W es)) (hp : allPlain xs = true) (hn : xs ≠ []) (hg : Gl X n) :
    PS X (.Raise (some (.Call (.Name n p) xs [] p2)) none pos) (TS1 G P W (.rse C es)) :=
  (ps_raise hc tk (hm xs es p p2 ha hp hn hg)).imp fun D τ H ⟨σ, S, K, re, rs, w, k⟩ => by
    simp only [wpS] at w
    exact ⟨σ, S, fun x S1 => K.ex x σ S1, _, re, rs, w, k.xok re, k.xok re⟩
/-- the handlers' readings -/
def hdl (G : Gx) (P : Pm) : Hds → List (Value × (Addr → Value → Option Addr → TS))
  | .nil => []
  | .cons C b r => (.ref (G.cls C), fun _ _ _ => TSs G P W0 b) :: hdl G P r
theorem hd_ok {K : Ks} {D : Ends} {x : Xn} {cc : Value} {dd : Option Addr} {σ : Ev} {S : Store} {τ : L2.St} {H H1 : Hp} (k : KOk G H K D W) (s : Stab H H1) (rs : RelS G S H1) (re : RepE G H1 σ τ) (xr : XnR G H1 x cc dd) :
    ∀ {hs : Hds}, (∀ C, hdHas hs C = true → PySem.W.exmOne X.K (.ref (G.cls x.cls)) (.ref (G.cls C)) = some (P.sub x.cls C)) → wpH P hs x σ S K → wMany X.K W D (hdl G P hs) cc dd τ H1
  | .nil, _, w => by
    simp only [wpH] at w
    exact k.ex x σ S cc dd τ H1 s rs re xr w
  | .cons C b r, hm, w => by
    simp only [wpH] at w
    refine ⟨P.sub x.cls C, by rw [xr.1]; exact hm C (by simp [hdHas]), fun z a _ => ?_, fun z => ?_⟩
    · rw [if_pos z] at w
      have k1 := k.stab s
      exact ⟨σ, S, _, re, rs, w, k1.nx, k1.rt, k1.bk, k1.ct, fun _ _ _ _ _ _ _ _ _ _ _ h => h.elim⟩
    · rw [if_neg (by rw [z]; decide)] at w
      exact hd_ok k s rs re xr (fun C' h' => hm C' (by simp [hdHas, h'])) w
theorem ts_try {hs : Hds} {h0 : ExceptHandler} {hds : List ExceptHandler} {bs : Sms} (hst : X.stack = X.env :: X.outer) (hf : X.env.frame = some X.env.locals) (tk : Takes X W)
    (hb : ∀ (W' : WX) (pn : List (Addr × Obj)) (xe : Value → Shared → Prop), Takes (X.tr pn xe) W' → PassesOwn (model X.prog X.w) X.A X.env xe → PSs (X.tr pn xe) sts (TSs G P W' bs))
    (hm : ∀ C C', G.isX C = true → hdHas hs C' = true → PySem.W.exmOne X.K (.ref (G.cls C)) (.ref (G.cls C')) = some (P.sub C C'))
    (hh : HdsOk X (h0 :: hds) (hdl G P hs)) : PS X (.Try sts (h0 :: hds) [] [] pos) (TS1 G P W (.try_ bs hs)) :=
  (ps_try_many (tb := fun W' => TSs G P W' bs) hst hf tk hb hh).imp fun D τ H ⟨σ, S, K, re, rs, w, k⟩ => by
    simp only [wpS] at w
    exact ⟨σ, S, _, re, rs, w, k.nx, k.rt, k.bk, k.ct, fun x σ' S' c dd τ' H' s' rs' re' xr h => hd_ok (X := X) k s' rs' re' xr (fun C hC => hm _ C xr.2.1 hC) h⟩
end
end Fv

set_option Elab.async false
set_option linter.all false
set_option maxRecDepth 100000
set_option maxHeartbeats 4000000
/-! The checker is sound: statements. -/
namespace Fv
open PySem PySem.Spec PyProof.Rows L2
def Sc.cold (c : Sc) : Sc := { c with cm := false }
def isLC : Expr → Bool
  | .ListComp _ _ _ _ => true
  | _ => false
/-- name = [..] stores within the comprehension -/
def swB (c : Sc) (n : Str) (np : Pos) : Expr → Bool
  | .ListComp _ _ s pos => c.sc.names.lookup n == some .local && np.line == pos.line && !(s.names.any fun (m, k) => m == n && (k == .local || k == .cell))
  | _ => false
mutual
def chS (T : Tb) : Sm → Sc → Stmt → Bool
  | .pass, _, st => (match st with
    | .Pass _ => true
    | _ => false)
  | .expr a, c, st => (match st with
    | .Expr x _ => notComp x && chE T a c x
    | _ => false)
  | .asg t a, c, st => (match st with
    | .Assign [tg] x _ => chG c t tg && chE T a c x && (match tg with
      | .Name n np => notComp x || (isLC x && c.cm && (swB c n np x || (match c.sc.names.lookup n with
        | some .local => false
        | _ => true)))
      | _ => notComp x && !isTup x)
    | _ => false)
  | .sset o i a, c, st => (match st with
    | .Assign [.Subscript y z _] x _ => notSlice z && notComp x && (chE T a c x && (chE T o c y && chE T i c z))
    | _ => false)
  | .fset o f a, c, st => (match st with
    | .Assign [.Attribute y n _] x _ => T.fld[f]? == some n && notComp x && (chE T a c x && chE T o c y)
    | _ => false)
  | .ret a, c, st => (match st with
    | .Return (some x) _ => chE T a c x
    | .Return none _ => isN a
    | _ => false)
  | .ite e a b, c, st => (match st with
    | .If z l r _ => chT T e c z && (chSs T a c l && chSs T b c r)
    | _ => false)
  | .whl e b, c, st => (match st with
    | .While z l [] _ => c.cm && (chT T e c z && chSs T b c l)
    | _ => false)
  | .for_ t i b, c, st => (match st with
    | .For tg x l [] _ => c.cm && notSet x && chG c t tg && (chI T i c tg x && chSs T b c l)
    | _ => false)
  | .rse C es, c, st => (match st with
    | .Raise (some (.Call (.Name n _) xs [] _)) none _ => c.cm && c.gl n && T.cls[C]? == some n && T.xcl.contains C && allPlain xs && !xs.isEmpty && chEs T es c xs
    | _ => false)
  | .try_ b hs, c, st => (match st with
    | .Try body hds [] [] _ => c.cm && !hds.isEmpty && (chSs T b c body && chH T hs c hds)
    | _ => false)
def chSs (T : Tb) : Sms → Sc → List Stmt → Bool
  | .nil, _, l => (match l with
    | [] => true
    | _ => false)
  | .cons s r, c, l => (match l with
    | st :: q => chS T s c st && chSs T r c q
    | _ => false)
def chH (T : Tb) : Hds → Sc → List ExceptHandler → Bool
  | .nil, _, l => (match l with
    | [] => true
    | _ => false)
  | .cons C b r, c, l => (match l with
    | .ExceptHandler (some (.Name n _)) none (s0 :: su) _ :: q => c.gl n && T.cls[C]? == some n && T.xcl.contains C && (chSs T b c.cold (s0 :: su) && chH T r c q)
    | _ => false)
end
structure Hs (G : Gx) (P : Pm) (W : WX) (T : Tb) (X : Cx) (c : Sc) : Prop extends Hy G P W T X c where
  kd : X.env.scope.kind = .function
  st : c.cm = true → PassesOwn (model X.prog X.w) X.A X.env X.xe ∧ X.stack = X.env :: X.outer ∧ X.env.frame = some X.env.locals
  fok : ∀ C f n, P.fok C f = true → T.fld[f]? = some n → NoAttr G.K (G.cls C) n
section
variable {G : Gx} {P : Pm} {W : WX} {T : Tb} {X : Cx} {c : Sc}
theorem Hs.tr (h : Hs G P W T X c) {W' : WX} {pn : List (Addr × Obj)} {xe : Value → Shared → Prop} (tk : Takes (X.tr pn xe) W') (po : PassesOwn (model X.prog X.w) X.A X.env xe) : Hs G P W' T (X.tr pn xe) c where
  toHy := h.toHy.tr tk
  kd := h.kd
  st := fun z => ⟨po, (h.st z).2.1, (h.st z).2.2⟩
  fok := h.fok
theorem Hs.suite (h : Hs G P W T X c) (a : Addr) (pn : List (Addr × Obj)) : Hs G P W0 T (X.suite a pn) c.cold where
  K := h.K
  N := h.N
  nd := h.nd
  sc := h.sc
  un := h.un
  fn := h.fn
  con := h.con
  free := h.free
  nms := h.nms
  tb := h.tb
  fld := h.fld
  cm := fun z => Bool.noConfusion z
  tk := takes0
  kd := h.kd
  st := fun z => Bool.noConfusion z
  fok := h.fok
theorem sw_lc (h : Hs G P W T X c) {n : Str} {np : Pos} {x : Expr} {l : Nat} (hx : isLC x = true) (hn : (match c.sc.names.lookup n with | some .local => false | _ => true) = true) : swapsWith x (some (.Name n np)) l X.env = pure false := by
  cases x <;> first | (exact Bool.noConfusion hx) | skip
  rename_i e g s p
  have e1 : (X.env.kindOf n == some NameKind.local) = false := by
    show (X.env.scope.names.lookup n == some NameKind.local) = false
    rw [h.sc]
    cases q : c.sc.names.lookup n with
    | none => rfl
    | some k =>
      rw [q] at hn
      cases k <;> first | rfl | exact Bool.noConfusion hn
  show (pure (X.env.blockKind == .function && X.env.kindOf n == some .local && np.line == p.line && !(s.names.any fun (m, k) => m == n && (k == .local || k == .cell))) : Sem Bool) = pure false
  rw [e1]
  simp
/-- name = [..] -/
theorem ts_lc (h : Hs G P W T X c) {i : Nat} {n : Str} {np pos : Pos} {a : Ex} {x : Expr} (hc : c.cm = true) (hi : c.N[i]? = some n) (hx : isLC x = true) (hb : swB c n np x = true) (e : chE T a c x = true) : PS X (.Assign [.Name n np] x pos) (TS1 G P W (.asg (.var i) a)) := by
  cases x <;> first | (exact Bool.noConfusion hx) | skip
  rename_i elt gs s p
  have C := h.cm hc
  simp only [swB, Bool.and_eq_true, Bool.not_eq_true', beq_iff_eq] at hb
  obtain ⟨⟨b1, b2⟩, b3⟩ := hb
  have hl : X.env.scope.names.lookup n = some .local := by rw [h.sc]; exact b1
  have sw : swapsWith (.ListComp elt gs s p) (some (.Name n np)) pos.line X.env = pure true := sw_true h.kd hl (beq_iff_eq.mpr b2) b3
  have hy : X.N[i]? = some n := by rw [h.N]; exact hi
  have nd : X.N.Nodup := by rw [h.N]; exact h.nd
  cases a with
  | lcm d t it f own =>
    simp only [chE] at e
    split at e
    · rename_i elt' tg iter ifs scope p' hq
      cases hq
      simp only [Bool.and_eq_true] at e
      obtain ⟨⟨⟨⟨⟨e1, e2⟩, e3⟩, e4⟩, e5⟩, e6, e7, e8⟩ := e
      have ok : BlkOk X.N X.env.scope s (ownN c own) := by rw [h.N, h.sc]; exact blkOk_by e2
      refine ((ps_setLc (g := gOf X.K t) (tt := TTx G P W0 f) (te := TX G P W0 d) (wi := TIx G P W it) C.calm nd hy hl sw (chI_ok it c tg iter X W h.toHy e6) ok (fun s H C cl fp => (h.toHy.blk _ s H C cl fp).tg e5) (fun s H C cl fp => ?_) (fun s H C cl fp => chE_ok d _ _ _ W0 (h.toHy.blk _ s H C cl fp) e7) (fold_of e4))).imp fun Dn τ H w => ?_
      · refine if_ok ?_
        split at e8
        · split at e8
          · exact .inl ⟨rfl, rfl⟩
          · cases e8
        · exact .inr ⟨_, rfl, chT_ok f _ _ _ W0 (h.toHy.blk _ s H C cl fp) e8⟩
        · cases e8
      · rw [own_map, h.K]
        have w2 := asg_ok w
        exact lcm_ok e3 w2
    · cases e
  | lc2 d t it t1 it1 own =>
    simp only [chE] at e
    split at e
    · rename_i elt' tg iter tg1 iter1 scope p' hq
      cases hq
      simp only [Bool.and_eq_true] at e
      obtain ⟨⟨⟨⟨⟨⟨⟨⟨e1, e2⟩, e3⟩, e4⟩, e5⟩, e6⟩, e7⟩, e8⟩, e9, e10, e11⟩ := e
      have ok : BlkOk X.N X.env.scope s (ownN c own) := by rw [h.N, h.sc]; exact blkOk_by e2
      have hv : ∀ j ∈ tgL t1, j ∈ (ownN c own).map (·.2) := by
        intro j hj
        rw [own_map]
        cases t1 with
        | var k =>
          have : j = k := by simpa [tgL] using hj
          subst this
          simpa [tgIn] using e4
        | tup l => exact by simpa using List.all_eq_true.mp e4 j hj
      refine ((ps_setLc2 (g := gOf X.K t) (tt := tYes) (te := TX G P W0 d) (wi := TIx G P W it) (wi1 := TIx G P W0 it1) (g1 := gOf X.K t1) (tt1 := tYes) (vs1 := tgL t1) C.calm nd hy hl sw (chI_ok it c tg iter X W h.toHy e9) ok hv (fun s H C cl fp => (h.toHy.blk _ s H C cl fp).tg e7) (fun s H C cl fp => pts_nil)
        (fun s H C cl fp => chI_ok it1 _ tg1 iter1 _ W0 (h.toHy.blk _ s H C cl fp) e10) (fun s H C cl fp => (h.toHy.blk _ s H C cl fp).tg e8) (fun s H C cl fp => pts_nil) (fun s H C cl fp => chE_ok d _ _ _ W0 (h.toHy.blk _ s H C cl fp) e11) (fold_of e5) (fun env => fold_of e6))).imp fun Dn τ H w => ?_
      rw [own_map, h.K]
      have w2 := asg_ok w
      exact lc2_ok e3 w2
    · cases e
  | cst d => simp [chE, chC] at e
  | _ => simp [chE] at e
end
theorem hd_has {T : Tb} : ∀ {hs : Hds} {c : Sc} {l : List ExceptHandler}, chH T hs c l = true → ∀ C, hdHas hs C = true → T.xcl.contains C = true
  | .nil, _, _, _, C, h => by simp [hdHas] at h
  | .cons D b r, c, l, e, C, h => by
    simp only [chH] at e
    split at e
    · simp only [Bool.and_eq_true] at e
      simp only [hdHas, Bool.or_eq_true, beq_iff_eq] at h
      rcases h with rfl | h
      · exact e.1.2
      · exact hd_has e.2.2 C h
    · cases e
section
variable {G : Gx} {P : Pm} {T : Tb}
mutual
theorem chS_ok : ∀ (s : Sm) (c : Sc) (st : Stmt) (X : Cx) (W : WX), Hs G P W T X c → chS T s c st = true → PS X st (TS1 G P W s)
  | .pass, c, st, X, W, h, e => by
    simp only [chS] at e
    split at e
    · exact ts_pass
    · cases e
  | .expr a, c, st, X, W, h, e => by
    simp only [chS] at e
    split at e
    · simp only [Bool.and_eq_true] at e
      exact ts_expr e.1 (chE_ok a c _ X W h.toHy e.2)
    · cases e
  | .asg t a, c, st, X, W, h, e => by
    simp only [chS] at e
    split at e
    · rename_i tg x pos
      simp only [Bool.and_eq_true] at e
      obtain ⟨⟨e1, e2⟩, e3⟩ := e
      have hx := chE_ok a c x X W h.toHy e2
      have hg := h.toHy.tg e1
      split at e3
      · rename_i n np
        cases t with
        | tup l => exact Bool.noConfusion e1
        | var i =>
          simp only [chG, Bool.and_eq_true, beq_iff_eq] at e1
          have hy : X.N[i]? = some n := by rw [h.N]; exact e1.1
          have nd : X.N.Nodup := by rw [h.N]; exact h.nd
          have plain : swapsWith x (some (.Name n np)) pos.line X.env = pure false → PS X (.Assign [.Name n np] x pos) (TS1 G P W (.asg (.var i) a)) := fun sw =>
            (ps_set nd hy (h.loc e1.2) hx sw (h.fn _ e1.2)).imp fun Dn τ H w => asg_ok w
          by_cases hn : notComp x = true
          · exact plain (swaps_of hn)
          · simp only [Bool.or_eq_true, Bool.and_eq_true] at e3
            rcases e3 with e3 | ⟨⟨e3, e4⟩, e5 | e5⟩
            · exact absurd e3 hn
            · exact ts_lc h e4 e1.1 e3 e5 e2
            · exact plain (sw_lc h e3 e5)
      · rename_i hne
        simp only [Bool.and_eq_true, Bool.not_eq_true'] at e3
        obtain ⟨e3, e4⟩ := e3
        cases t with
        | var i => cases tg <;> first | (exact Bool.noConfusion e1) | (exact (hne _ _ rfl).elim)
        | tup l =>
          cases tg with
          | Tuple es k tp =>
          refine (ps_asg hx hg (by show swapsWith x (some (.Tuple es k tp)) pos.line X.env = pure false; exact swaps_of e3) ?_ rfl).imp fun Dn τ H w => by rw [h.K]; exact asg_ok w
          cases x <;> first | rfl | (exact Bool.noConfusion e4)
          | _ => exact Bool.noConfusion e1
    · cases e
  | .sset o i a, c, st, X, W, h, e => by
    simp only [chS] at e
    split at e
    · simp only [Bool.and_eq_true] at e
      exact ts_sset e.1.1 h.un (chE_ok o c _ X W h.toHy e.2.2.1) (chE_ok i c _ X W h.toHy e.2.2.2) (chE_ok a c _ X W h.toHy e.2.1) e.1.2
    · cases e
  | .fset o f a, c, st, X, W, h, e => by
    simp only [chS] at e
    split at e
    · simp only [Bool.and_eq_true, beq_iff_eq] at e
      exact ts_fset h.K (h.fld _ _ e.1.1) (fun C hC => h.fok C f _ hC e.1.1) (chE_ok o c _ X W h.toHy e.2.2) (chE_ok a c _ X W h.toHy e.2.1) e.1.2
    · cases e
  | .ret a, c, st, X, W, h, e => by
    simp only [chS] at e
    split at e
    · exact ts_ret (chE_ok a c _ X W h.toHy e)
    · rw [isN_eq e]
      exact ts_ret0
    · cases e
  | .ite d a b, c, st, X, W, h, e => by
    simp only [chS] at e
    split at e
    · simp only [Bool.and_eq_true] at e
      exact ts_if (chT_ok d c _ X W h.toHy e.1) (chSs_ok a c _ X W h e.2.1) (chSs_ok b c _ X W h e.2.2)
    · cases e
  | .whl d b, c, st, X, W, h, e => by
    simp only [chS] at e
    split at e
    · simp only [Bool.and_eq_true] at e
      exact ts_whl (h.st e.1).1 (chT_ok d c _ X W h.toHy e.2.1) (chSs_ok b c _ X W h e.2.2)
    · cases e
  | .for_ t i b, c, st, X, W, h, e => by
    simp only [chS] at e
    split at e
    · simp only [Bool.and_eq_true] at e
      exact ts_for (h.st e.1.1.1).1 (h.cm e.1.1.1).calm h.K (chI_ok i c _ _ X W h.toHy e.2.1) (h.toHy.tg e.1.2) e.1.1.2 (chSs_ok b c _ X W h e.2.2)
    · cases e
  | .rse C es, c, st, X, W, h, e => by
    simp only [chS] at e
    split at e
    · simp only [Bool.and_eq_true, beq_iff_eq, Bool.not_eq_true'] at e
      obtain ⟨⟨⟨⟨⟨⟨e1, e2⟩, e3⟩, e4⟩, e5⟩, e6⟩, e7⟩ := e
      refine ts_rse (h.cm e1).calm h.tk ((h.cm e1).xmk C _ e3 e4 X W (Like.refl X) h.tk) (chEs_ok es c _ X W h.toHy e7) e5 (fun z => ?_) (h.gl e2)
      rw [z] at e6
      cases e6
    · cases e
  | .try_ b hs, c, st, X, W, h, e => by
    simp only [chS] at e
    split at e
    · rename_i body hds pos
      simp only [Bool.and_eq_true, Bool.not_eq_true'] at e
      obtain ⟨⟨e1, e2⟩, e3, e4⟩ := e
      cases hds with
      | nil => cases e2
      | cons h0 hds =>
        exact ts_try (h.st e1).2.1 (h.st e1).2.2 h.tk (fun W' pn xe tk po => chSs_ok b c body _ W' (h.tr tk po) e3) (fun C C' h1 h2 => (h.cm e1).exm C C' h1 (hd_has e4 C' h2)) (chH_ok hs c _ X W h e1 e4)
    · cases e
theorem chSs_ok : ∀ (s : Sms) (c : Sc) (l : List Stmt) (X : Cx) (W : WX), Hs G P W T X c → chSs T s c l = true → PSs X l (TSs G P W s)
  | .nil, c, l, X, W, h, e => by
    simp only [chSs] at e
    split at e
    · exact tss_nil
    · cases e
  | .cons s r, c, l, X, W, h, e => by
    simp only [chSs] at e
    split at e
    · simp only [Bool.and_eq_true] at e
      exact tss_cons (chS_ok s c _ X W h e.1) (chSs_ok r c _ X W h e.2)
    · cases e
theorem chH_ok : ∀ (hs : Hds) (c : Sc) (l : List ExceptHandler) (X : Cx) (W : WX), Hs G P W T X c → c.cm = true → chH T hs c l = true → HdsOk X l (hdl G P hs)
  | .nil, c, l, X, W, h, hc, e => by
    simp only [chH] at e
    split at e
    · exact .nil
    · cases e
  | .cons C b r, c, l, X, W, h, hc, e => by
    simp only [chH] at e
    split at e
    · simp only [Bool.and_eq_true, beq_iff_eq] at e
      obtain ⟨⟨⟨e1, e2⟩, e3⟩, e4, e5⟩ := e
      exact .cons ⟨h.gl e1, (nmOk_d (h.cls_ok e2)).1, .inl ((h.cm hc).clg C _ e2).1⟩ (fun a oe cls d pn _ _ => chSs_ok b c.cold _ _ W0 (h.suite a _) e4) (chH_ok r c _ X W h hc e5)
    · cases e
end
end
end Fv

set_option Elab.async false
set_option linter.all false
set_option maxRecDepth 100000
set_option maxHeartbeats 4000000
/-! Binding the parameters. -/
namespace Fv
open PySem PySem.Spec PyProof.Rows L2
theorem lookup_zip {β : Type} : ∀ {ps : List Str} {us : List β} {n : Str}, us.length = ps.length → n ∈ ps → ∃ v, (ps.zip us).lookup n = some v
  | p :: ps, u :: us, n, h, m => by
    by_cases z : n = p
    · subst z; exact ⟨u, by simp⟩
    · have hb : (n == p) = false := by simpa using z
      rw [List.zip_cons_cons, List.lookup_cons, hb]
      exact lookup_zip (by simpa using h) ((List.mem_cons.mp m).resolve_left z)
theorem fm_zip {β : Type} : ∀ {ps : List Str} {us : List β} (pre : List (Str × β)), ps.Nodup → us.length = ps.length → (∀ p ∈ pre, p.1 ∉ ps) → (ps.filterMap fun n => ((pre ++ ps.zip us).lookup n).map (n, ·)) = ps.zip us
  | [], us, pre, _, h, _ => by simp
  | p :: ps, u :: us, pre, nd, h, hp => by
    have h1 : (pre ++ (p, u) :: ps.zip us).lookup p = some u := by
      rw [List.lookup_append]
      have : pre.lookup p = none := by
        rw [List.lookup_eq_none_iff]
        intro q hq
        have := hp q hq
        simp only [List.mem_cons, not_or] at this
        simpa using fun z => this.1 z.symm
      simp [this]
    rw [List.zip_cons_cons, List.filterMap_cons, h1]
    simp only [Option.map_some]
    congr 1
    have := fm_zip (ps := ps) (us := us) (pre ++ [(p, u)]) (List.nodup_cons.mp nd).2 (by simpa using h) fun q hq => by
      rcases List.mem_append.mp hq with z | z
      · exact fun m => hp q z (List.mem_cons_of_mem _ m)
      · have : q = (p, u) := by simpa using z
        subst this
        exact (List.nodup_cons.mp nd).1
    simpa using this
theorem bind_gen {x qual : Str} {as : List Arg} {dl : List Expr} {body : List Stmt} {scope : Scope} {kV doc pm : Value} {an : Option Addr} {cdv ct : Value} {us : List Value} (nd : (as.map (·.arg)).Nodup) (hl : us.length = (as.map (·.arg)).length) :
    bindArgs (PySem.W.fnOf x qual ⟨[], as, none, [], [], none, dl⟩ body scope .none kV doc pm an cdv ct) ⟨us, []⟩ = pure ((as.map (·.arg)).zip us) := by
  generalize hps : as.map (·.arg) = ps at nd hl
  unfold bindArgs
  simp only [PySem.W.fnOf, hps]
  have e1 : seqItems? .none = (pure none : Sem _) := rfl
  simp only [List.map_nil, List.nil_append, e1, List.forIn_nil, pure_bind, Option.getD_none]
  have hgt : ¬ (us.length > ps.length) := by omega
  have hm : (ps.filter fun n => ((ps.zip us).lookup n).isNone) = [] := by
    rw [List.filter_eq_nil_iff]
    intro n hn
    obtain ⟨v, e⟩ := lookup_zip hl hn
    simp [e]
  simp [hgt, hm]
  have := fm_zip (β := Value) [] nd hl (fun p hp => by cases hp)
  simp only [List.nil_append] at this
  rw [this]
theorem fold_slots {β : Type} : ∀ {ps : List Str} {us : List β} (pre : List (Str × β)), ps.Nodup → us.length = ps.length → (∀ p ∈ pre, p.1 ∉ ps) →
    (ps.zip us).foldl (fun sl q => if (sl.lookup q.1).isNone = true then sl ++ [q] else sl) pre = pre ++ ps.zip us
  | [], us, pre, _, h, _ => by simp
  | p :: ps, u :: us, pre, nd, h, hp => by
    have : pre.lookup p = none := by
      rw [List.lookup_eq_none_iff]
      intro q hq
      have := hp q hq
      simp only [List.mem_cons, not_or] at this
      simpa using fun z => this.1 z.symm
    rw [List.zip_cons_cons, List.foldl_cons]
    dsimp only
    rw [this]
    simp only [Option.isNone_none, if_true]
    have := fold_slots (ps := ps) (us := us) (pre ++ [(p, u)]) (List.nodup_cons.mp nd).2 (by simpa using h) fun q hq => by
      rcases List.mem_append.mp hq with z | z
      · exact fun m => hp q z (List.mem_cons_of_mem _ m)
      · have : q = (p, u) := by simpa using z
        subst this
        exact (List.nodup_cons.mp nd).1
    rw [this]
    simp
theorem fold_have {β : Type} : ∀ (l : List (Str × β)) (pre : List (Str × β)), (∀ q ∈ l, ∃ v, pre.lookup q.1 = some v) → l.foldl (fun sl q => if (sl.lookup q.1).isNone = true then sl ++ [q] else sl) pre = pre
  | [], _, _ => rfl
  | q :: l, pre, h => by
    obtain ⟨v, e⟩ := h q List.mem_cons_self
    rw [List.foldl_cons, e]
    simp only [Option.isNone_some, Bool.false_eq_true, if_false]
    exact fold_have l pre fun p hp => h p (List.mem_cons_of_mem _ hp)
theorem zip_short {β : Type} (ps : List Str) (us : List β) (h : us.length ≤ ps.length) : ps.zip us = (ps.take us.length).zip us := by
  have e : ps = ps.take us.length ++ ps.drop us.length := (List.take_append_drop _ _).symm
  conv => lhs; rw [e]
  have : (ps.take us.length ++ ps.drop us.length).zip (us ++ []) = (ps.take us.length).zip us ++ (ps.drop us.length).zip [] := List.zip_append (by simp; omega)
  simpa using this
theorem lookup_short {β : Type} {ps : List Str} {us : List β} (h : us.length ≤ ps.length) {n : Str} (m : n ∈ ps.take us.length) : ∃ v, (ps.zip us).lookup n = some v := by
  rw [zip_short ps us h]
  exact lookup_zip (by simp; omega) m
theorem slots_dfl {β : Type} {ps : List Str} {us its : List β} (nd : ps.Nodup) (hl : us.length ≤ ps.length) (h2 : its.length ≤ ps.length) (h3 : ps.length ≤ us.length + its.length) :
    ((ps.drop (ps.length - its.length)).zip its).foldl (fun sl q => if (sl.lookup q.1).isNone = true then sl ++ [q] else sl) (ps.zip us) = ps.zip (us ++ its.drop (its.length - (ps.length - us.length))) := by
  have hr : its.length - (ps.length - us.length) = us.length - (ps.length - its.length) := by omega
  rw [hr]
  generalize hrr : us.length - (ps.length - its.length) = r
  have hrl : r ≤ its.length := by omega
  have e1 : ps.drop (ps.length - its.length) = (ps.drop (ps.length - its.length)).take r ++ ps.drop us.length := by
    have : ps.drop us.length = (ps.drop (ps.length - its.length)).drop r := by
      rw [List.drop_drop]
      congr 1
      omega
    rw [this, List.take_append_drop]
  have e2 : its = its.take r ++ its.drop r := (List.take_append_drop _ _).symm
  have e3 : (ps.drop (ps.length - its.length)).zip its = ((ps.drop (ps.length - its.length)).take r).zip (its.take r) ++ (ps.drop us.length).zip (its.drop r) := by
    have := List.zip_append (l₁ := (ps.drop (ps.length - its.length)).take r) (l₂ := its.take r) (r₁ := ps.drop us.length) (r₂ := its.drop r) (by simp; omega)
    rw [← e1, List.take_append_drop] at this
    exact this
  have h1 := fold_have (((ps.drop (ps.length - its.length)).take r).zip (its.take r)) (ps.zip us) fun q hq => by
    have h5 := (List.of_mem_zip hq).1
    refine lookup_short hl ?_
    have : (ps.drop (ps.length - its.length)).take r = (ps.take us.length).drop (ps.length - its.length) := by
      rw [List.take_drop]
      by_cases z : ps.length - its.length ≤ us.length
      · congr 2; omega
      · have : r = 0 := by omega
        subst this
        rw [List.drop_of_length_le (by simp <;> omega), List.drop_of_length_le (by simp; omega)]
    rw [this] at h5
    exact List.mem_of_mem_drop h5
  rw [e3, List.foldl_append, h1]
  rw [fold_slots (ps.zip us) (nd.sublist (List.drop_sublist _ _)) (by simp; omega)]
  · have e4 : ps.zip (us ++ its.drop r) = (ps.take us.length ++ ps.drop us.length).zip (us ++ its.drop r) := by rw [List.take_append_drop]
    rw [e4, List.zip_append (by simp; omega), ← zip_short ps us hl]
  · intro p hp hq
    rw [zip_short ps us hl] at hp
    have h5 := (List.of_mem_zip hp).1
    have : (ps.take us.length ++ ps.drop us.length).Nodup := by rw [List.take_append_drop]; exact nd
    exact (List.nodup_append.mp this).2.2 _ h5 _ hq rfl
theorem bind_dfl {x qual : Str} {as : List Arg} {dl : List Expr} {body : List Stmt} {scope : Scope} {T : Addr} {kV doc pm : Value} {an : Option Addr} {cdv ct : Value} {us its : List Value} (nd : (as.map (·.arg)).Nodup) (hl : us.length ≤ (as.map (·.arg)).length) (h2 : its.length ≤ (as.map (·.arg)).length) (h3 : (as.map (·.arg)).length ≤ us.length + its.length) :
    ∃ k, bindArgs (PySem.W.fnOf x qual ⟨[], as, none, [], [], none, dl⟩ body scope (.ref T) kV doc pm an cdv ct) ⟨us, []⟩ = seqItems? (.ref T) >>= k ∧ k (some its.toArray) = pure ((as.map (·.arg)).zip (us ++ its.drop (its.length - ((as.map (·.arg)).length - us.length)))) := by
  generalize hps : as.map (·.arg) = ps at nd hl h2 h3
  refine ⟨?k, ?e, ?f⟩
  case e =>
    unfold bindArgs
    simp only [PySem.W.fnOf, hps, List.map_nil, List.nil_append, List.forIn_nil, pure_bind]
    exact rfl
  case f =>
    have hgt : ¬ (us.length > ps.length) := by omega
    have e3 : its.length - ps.length = 0 := by omega
    have hm : ((ps.take (ps.length - its.length)).filter fun n => ((ps.zip us).lookup n).isNone) = [] := by
      rw [List.filter_eq_nil_iff]
      intro n hn
      have : n ∈ ps.take us.length := by
        have e : ps.take (ps.length - its.length) = (ps.take us.length).take (ps.length - its.length) := by rw [List.take_take]; congr 1; omega
        rw [e] at hn
        exact List.mem_of_mem_take hn
      obtain ⟨v, e⟩ := lookup_short hl this
      simp [e]
    have hf : ∀ (x : Str × Value) (sl : List (Str × Value)), (if (List.lookup x.fst sl).isNone = true then (pure (ForInStep.yield (sl ++ [(x.fst, x.snd)])) : Sem _) else pure (ForInStep.yield sl)) = pure (ForInStep.yield (if (List.lookup x.fst sl).isNone = true then sl ++ [x] else sl)) := by
      intro x sl
      split <;> rfl
    have hf2 : its.drop (its.length - ps.length) = its := by rw [e3]; rfl
    simp only [List.toList_toArray, Option.getD_some, hf2, hm, hgt, hf, List.forIn_pure_yield_eq_foldl]
    simp [slots_dfl nd hl h2 h3]
    have := fm_zip (β := Value) (ps := ps) (us := us ++ its.drop (its.length - (ps.length - us.length))) [] nd (by simp; omega) (fun p hp => by cases hp)
    simp only [List.nil_append] at this
    rw [this]
end Fv

set_option Elab.async false
set_option linter.all false
set_option maxRecDepth 100000
set_option maxHeartbeats 4000000
/-! Functions, by levels of calls. -/
namespace Fv
open PySem PySem.Spec PyProof.Rows L2
/-- a def: its slots (the parameters first), its arity, its last defaults, its body -/
structure Fd where
  N : List Str
  ar : Nat
  dfl : List D
  body : Sms
/-- a program's defs and classes -/
structure Pr where
  fns : List Fd
  mth : Nat → Nat → Option Nat
  ini : Nat → Option Nat
  sub : Nat → Nat → Bool
  fok : Nat → Nat → Bool
  xfs : Nat → List Nat
def Fd.start (d : Fd) (ds : List D) : Ev := ds.map some ++ List.replicate (d.N.length - ds.length) none
def Fd.full (d : Fd) (vs : List D) : List D := vs ++ d.dfl.drop (d.dfl.length - (d.ar - vs.length))
def kBody (Q : QD) (E : QX) : Ks := ⟨fun _ S => Q .non S, Q, fun _ _ => False, fun _ _ => False, fun x _ S => E x S⟩
def Pr.at (p : Pr) : Nat → Pm
  | 0 => ⟨fun _ _ _ _ _ => False, p.mth, p.ini, p.sub, p.fok, p.xfs⟩
  | n + 1 => ⟨fun f vs S Q E => match p.fns[f]? with
    | some d => (vs.length ≤ d.ar ∧ d.ar ≤ vs.length + d.dfl.length) ∧ wpSs (p.at n) d.body (d.start (d.full vs)) S (kBody Q E)
    | none => False, p.mth, p.ini, p.sub, p.fok, p.xfs⟩
theorem Pr.at_mth (p : Pr) (n : Nat) : (p.at n).mth = p.mth := by cases n <;> rfl
theorem Pr.at_ini (p : Pr) (n : Nat) : (p.at n).ini = p.ini := by cases n <;> rfl
theorem Pr.at_sub (p : Pr) (n : Nat) : (p.at n).sub = p.sub := by cases n <;> rfl
theorem Pr.at_fok (p : Pr) (n : Nat) : (p.at n).fok = p.fok := by cases n <;> rfl
theorem Pr.at_xfs (p : Pr) (n : Nat) : (p.at n).xfs = p.xfs := by cases n <;> rfl
/-- the promise of a def's body, the parameters given in full -/
def spB (G : Gx) (p : Pr) (n : Nat) (d : Fd) : Sp := fun vs H VQ EX => ∃ ds S Q E, ds.length = d.ar ∧ RepL G.K H ds vs ∧ RelS G S H ∧ wpSs (p.at n) d.body (d.start ds) S (kBody Q E) ∧ QOk G H Q VQ ∧ XOk G H E EX
/-- a def's promise, where no repr is on its way -/
structure FnG (P : Program) (w : World) (K : PySem.W.Frag) (mg : Str → Option Value) (base : Heap) (k : Nat) (f : Addr) (fd : FuncData) (ps : List Str) (sp : Sp) : Prop where
  len : ∀ vs H Q E, sp vs H Q E → vs.length = ps.length
  run : ∀ (A : Around) (outer : List Env) (s : Shared) (H : Hp) (args : Args) (us : List Value) (vs : List V) (Q : VK) (E : XK), Room k A → A.guards = some [] → Env0 P w K mg base A outer s H → BindsTo s fd args (ps.zip us) → Vals vs us → sp vs H Q E →
    codeAny (model P w) A (.call (.ref f) args) (CR (L2.CX P w) outer P w H s Q E) s
theorem fnG_of {P : Program} {w : World} {K : PySem.W.Frag} {mg : Str → Option Value} {base : Heap} {k : Nat} {f : Addr} {name qual : Str} {params : Arguments} {body : List Stmt} {scope : Scope} {dV kV doc pm cdv ct oc : Value} {an od : Option Addr}
    {osl : Array (Option Value)} {N ps : List Str} {sp : Sp} (lk : K.lookup f = some ⟨oc, od, .func (PySem.W.fnOf name qual params body scope dV kV doc pm an cdv ct), osl⟩) (hcd : PySem.W.codeIn K cdv qual = true) (S : FnScope N ps scope)
    (len : ∀ vs H Q E, sp vs H Q E → vs.length = ps.length)
    (hbody : ∀ (A : Around) (outer : List Env) (s : Shared) (H : Hp) (vs : List V) (Q : VK) (E : XK), Room k (A.deeper (envOfC qual scope s.heap.objs.size f cdv)) → A.guards = some [] → A.frames = some outer → sp vs H Q E →
      ∃ t, PSs (cxOf (L2.CX P w) P w K mg base N qual scope f cdv A outer s H E) body t ∧ t { nx := fun _ H' => Q .non H', rt := Q } (start N vs) H) :
    FnG P w K mg base (k + 1) f (PySem.W.fnOf name qual params body scope dV kV doc pm an cdv ct) ps sp := by
  refine ⟨len, fun A outer s H args us vs Q E hr hgd e0 hb r hsp => ?_⟩
  have hl := len _ _ _ _ hsp
  have KX : K.In s.heap := e0.mod.kin.keeps fun b o e => (e0.bs b o e).1
  have lim : s.heap.NoLimit := e0.mod.nolimit.keeps fun b o e => (e0.bs b o e).1
  have hkind : ∀ y ∈ ps.zip us, scope.names.lookup y.1 = some .local ∨ (scope.names.lookup y.1 = some .cell ∧ ((cellsFrom (s.heap.objs.size + 1) scope.names []).lookup y.1).isSome = true) := fun ⟨n, v⟩ hy => by
    rcases S.par n (List.of_mem_zip hy).1 with q | q
    · exact .inl q
    · exact .inr ⟨q, PySem.W.cellsFrom_some _ _ _ (.inl q)⟩
  refine codeAny_call_function hr.depth (KX _ _ lk) rfl S.co S.gen rfl (PySem.W.codeRec_of KX hcd) (hb _ _ _ _ ?_)
  refine wpAny_newFunctionEnv_cells S.kind hkind fun env he s1 x => ?_
  subst he
  refine ⟨lim.keeps x.toInCall.keep, codeAny_func ?_⟩
  obtain ⟨t, ht, hq⟩ := hbody A outer s H vs Q E (hr.deeper _) hgd e0.frames hsp
  have I : Inv (cxOf (L2.CX P w) P w K mg base N qual scope f cdv A outer s H E) [] (start N vs) H s1 := inv_start S hr.hd e0 hl r x
  refine wpAny_mono (ht.run [] s1 (start N vs) H _ I hq) (fun fl s' hs => ?_) fun e s' hs => hs
  have fin : ∀ {σ' : L2.St} {H' : Hp} {v : V} {u : Value}, Inv (cxOf (L2.CX P w) P w K mg base N qual scope f cdv A outer s H E) [] σ' H' s' → RelV v u → Q v H' → CE outer P w H s Q u s' :=
    fun {σ' H' v u} J rv q => ⟨v, H', J.os, J.bare, J.base, J.hok, rv, q⟩
  cases fl with
  | ret u =>
    obtain ⟨v, σ', H', J, rv, q⟩ := hs
    exact fin J rv q
  | next =>
    obtain ⟨σ', H', J, q⟩ := hs
    exact fin (v := V.non) (u := Value.none) J rfl q
  | brk =>
    obtain ⟨_, _, _, q⟩ := hs
    exact False.elim q
  | cont =>
    obtain ⟨_, _, _, q⟩ := hs
    exact False.elim q
/-- how n written arguments and the last defaults bind -/
theorem binds_of {K : PySem.W.Frag} {x qual : Str} {as : List Arg} {dl : List Expr} {body : List Stmt} {scope : Scope} {dvs : List V} {kws : List (Str × V)} {f : Addr} {fd : FuncData} (F : FunD K x qual ⟨[], as, none, [], [], none, dl⟩ body scope dvs kws f fd)
    (nd : (as.map (·.arg)).Nodup) (hd : dvs.length ≤ (as.map (·.arg)).length) (n : Nat) (h1 : n ≤ (as.map (·.arg)).length) (h2 : (as.map (·.arg)).length ≤ n + dvs.length) :
    ∃ ds, Vals (dvs.drop (dvs.length - ((as.map (·.arg)).length - n))) ds ∧ Binds K fd (as.map (·.arg)) ds := by
  by_cases z : dvs = []
  · subst z
    have e : n = (as.map (·.arg)).length := by simp at h2 ⊢; simp at h1; omega
    subst e
    refine ⟨[], by simpa using Paired.nil, ?_⟩
    have F' : FunD K x qual ⟨[], as, none, [], [], none, dl⟩ body scope [] kws f fd := F
    obtain ⟨oc, od, dV, kV, doc, pm, an, cdv, ct, osl, rfl, lk, hcd, hD, hK⟩ := F'.ex
    rcases hD with ⟨_, rfl⟩ | ⟨e, _⟩
    · exact .all fun us hl => bind_gen nd hl
    · exact absurd rfl e
  · exact F.binds1 n (dvs.length - ((as.map (·.arg)).length - n)) z (by omega) fun T kV doc pm an cdv ct us its hu hi => by
      have := bind_dfl (x := x) (qual := qual) (dl := dl) (body := body) (scope := scope) (T := T) (kV := kV) (doc := doc) (pm := pm) (an := an) (cdv := cdv) (ct := ct) (us := us) (its := its) nd (by omega) (by omega) (by omega)
      rw [hu, hi] at this
      exact this
/-! ### the whole program -/
/-- def f of the text is this tree -/
structure FdOk (T : Tb) (d : Fd) (params : Arguments) (body : List Stmt) (scope : Scope) : Prop where
  sh : ∃ as dl, params = ⟨[], as, none, [], [], none, dl⟩ ∧ as.map (·.arg) = d.N.take d.ar
  ar : d.ar ≤ d.N.length
  dl : d.dfl.length ≤ d.ar
  sc : FnScope d.N (d.N.take d.ar) scope
  nm : d.N.all nmOk = true
  ch : chSs T d.body ⟨d.N, scope, none, true⟩ body = true
structure Rt (P : Program) (w : World) (mg : Str → Option Value) (base : Heap) (G : Gx) (p : Pr) (T : Tb) (fad : Nat → Addr) : Prop where
  fnd : ∀ f d, p.fns[f]? = some d → ∃ name qual params body scope dvs kws fd, FunD G.K name qual params body scope dvs kws (fad f) fd ∧ FdOk T d params body scope ∧ ∀ H, RepL G.K H d.dfl dvs
  con : ∀ n d, (n, d) ∈ T.con → ∃ u v, mg n = some u ∧ RelV v u ∧ ∀ H, RepD G.K H d v
  free : ∀ n ∈ bltNames, mg (Str.ofString n) = none
  tb : T.ok = true
  fld : ∀ f n, T.fld[f]? = some n → G.fnm f = n
  cal : ∀ f n, T.fns[f]? = some n → (∃ d, p.fns[f]? = some d) ∧ mg n = some (.ref (fad f)) ∧ PySem.W.keepIn G.K (.ref (fad f)) = true
  met : ∀ m n C f, T.mts[m]? = some n → p.mth C m = some f → (∃ d, p.fns[f]? = some d) ∧ Meth G.K (G.cls C) n (fad f)
  clg : ∀ C n, T.cls[C]? = some n → mg n = some (.ref (G.cls C)) ∧ PySem.W.keepIn G.K (.ref (G.cls C)) = true
  mak : ∀ C f, p.ini C = some f → (∃ d, p.fns[f]? = some d) ∧ Mk G.K (G.cls C) (fad f) ∧ Cls G.K (G.cls C)
  xmk : ∀ C n, T.cls[C]? = some n → T.xcl.contains C = true → ∀ (X : Cx) (W : WX) (P' : Pm), X.prog = P → X.w = w → X.K = G.K → X.mg = mg → X.base = base → X.calm = true → Room 3 X.A → P'.xfs = p.xfs → Takes X W → XMk G P' X W C n
  exm : ∀ C C', G.isX C = true → T.xcl.contains C' = true → PySem.W.exmOne G.K (.ref (G.cls C)) (.ref (G.cls C')) = some (p.sub C C')
  fok : ∀ C f n, p.fok C f = true → T.fld[f]? = some n → NoAttr G.K (G.cls C) n
section
variable {P : Program} {w : World} {mg : Str → Option Value} {base : Heap} {G : Gx} {p : Pr} {T : Tb} {fad : Nat → Addr}
/-- all defs keep their promises at the level n -/
def AllG (P : Program) (w : World) (mg : Str → Option Value) (base : Heap) (G : Gx) (p : Pr) (fad : Nat → Addr) (n : Nat) : Prop := ∀ f d, p.fns[f]? = some d → ∃ fd dvs, (∀ H, RepL G.K H d.dfl dvs) ∧
  (∀ m, m ≤ d.ar → d.ar ≤ m + d.dfl.length → ∃ ds, Vals (dvs.drop (d.dfl.length - (d.ar - m))) ds ∧ Binds G.K fd (d.N.take d.ar) ds) ∧ (0 < n → FnG P w G.K mg base (2 * n + 3) (fad f) fd (d.N.take d.ar) (spB G p (n - 1) d)) ∧ d.ar ≤ d.N.length ∧ ∃ oc od osl, G.K.lookup (fad f) = some ⟨oc, od, .func fd, osl⟩
/-- a call, from the body's promise -/
theorem cal_of {n : Nat} (h : AllG P w mg base G p fad n) {f : Nat} {d : Fd} (hf : p.fns[f]? = some d) {X : Cx} {W : WX} (e1 : X.prog = P) (e2 : X.w = w) (e3 : X.K = G.K) (e4 : X.mg = mg) (e5 : X.base = base) (hr : Room (2 * n + 3) X.A) (hgd : X.A.guards = some []) (tk : Takes X W) :
    CalW G X W (.ref (fad f)) ((p.at n).call f) := by
  subst e1 e2 e4 e5
  intro pins s τ H vs us VQ I rv ⟨ds, S, Q, E, rl, rs, w1, q, e⟩
  cases n with
  | zero => exact w1.elim
  | succ n =>
    unfold Pr.at at w1
    dsimp only at w1
    rw [hf] at w1
    dsimp only at w1
    obtain ⟨⟨l1, l2⟩, w2⟩ := w1
    obtain ⟨fd, dvs, hd, hb, hF, har, _⟩ := h f d hf
    have F := hF (Nat.succ_pos n)
    rw [Nat.add_sub_cancel] at F
    obtain ⟨dss, r2, hbb⟩ := hb ds.length l1 l2
    have hlen : ds.length = us.length := by rw [rl.len, rv.length]
    have rd2 : RepL G.K H (d.full ds) (vs ++ dvs.drop (d.dfl.length - (d.ar - ds.length))) := rl.app ((hd H).drop _)
    have rv2 : Vals (vs ++ dvs.drop (d.dfl.length - (d.ar - ds.length))) (us ++ dss) := rv.append r2
    have hfl : (d.full ds).length = d.ar := by
      unfold Fd.full
      rw [List.length_append, List.length_drop]
      omega
    have hl : (us ++ dss).length = (d.N.take d.ar).length := by
      rw [← rv2.length, ← rd2.len, hfl, List.length_take]
      omega
    refine wpAny_call (codeAny_mono (F.run X.A X.stack s H ⟨us, []⟩ (us ++ dss) _ VQ (fun c d H' => W c d τ H') hr hgd (by have := I.env0; rw [e3] at this; exact this) (hbb s us (by have := I.kIn; rw [e3] at this; exact this) hl) rv2 ⟨d.full ds, S, Q, E, hfl, rd2, rs, w2, q, e⟩) fun r s' hq => ?_)
    cases r with
    | error er => exact passAt tk τ pins H s er s' I hq
    | ok fl =>
      cases fl with
      | ret u => exact I.after hq
      | next => exact False.elim hq
      | brk => exact False.elim hq
      | cont => exact False.elim hq
theorem mak_of {n : Nat} (h : AllG P w mg base G p fad n) {f C : Nat} {d : Fd} (hf : p.fns[f]? = some d) (M : Mk G.K (G.cls C) (fad f)) (cl : Cls G.K (G.cls C)) {X : Cx} {W : WX} (e1 : X.prog = P) (e2 : X.w = w) (e3 : X.K = G.K) (e4 : X.mg = mg) (e5 : X.base = base) (hr : Room (2 * n + 4) X.A) (hgd : X.A.guards = some []) (tk : Takes X W) :
    MakW G (p.at n) X W (G.cls C) C f := by
  subst e1 e2 e4 e5
  intro pins s τ H vs us VQ I rv ⟨ds, S, Q, E, rl, rs, w1, q, e⟩
  cases n with
  | zero =>
    have := w1 s.heap.objs.size (rs.free (I.hok.fresh (Nat.le_refl _)))
    exact this.elim
  | succ n =>
    have fx : H (s.heap.objs.size + 1) = none := I.hok.fresh (Nat.le_succ _)
    have fdx : H s.heap.objs.size = none := I.hok.fresh (Nat.le_refl _)
    have w1 := w1 (s.heap.objs.size + 1) (rs.free fx)
    unfold Pr.at at w1
    dsimp only at w1
    rw [hf] at w1
    dsimp only at w1
    obtain ⟨⟨l1, l2⟩, w2⟩ := w1
    obtain ⟨fd, dvs, hd, hb, hF, har, _⟩ := h f d hf
    have F := hF (Nat.succ_pos n)
    rw [Nat.add_sub_cancel] at F
    obtain ⟨dss, r2, hbb⟩ := hb _ l1 l2
    have I2 := Inv.made (C := G.cls C) I
    have n2 : upd H s.heap.objs.size (.own (s.heap.objs.size + 1)) (s.heap.objs.size + 1) = none := by rw [upd_ne (Nat.succ_ne_self _)]; exact fx
    have st1 : Stab H (upd H s.heap.objs.size (.own (s.heap.objs.size + 1))) := Stab.new fdx
    have st2 : Stab (upd H s.heap.objs.size (.own (s.heap.objs.size + 1))) (upd (upd H s.heap.objs.size (.own (s.heap.objs.size + 1))) (s.heap.objs.size + 1) (.ins (G.cls C) s.heap.objs.size [])) := Stab.new n2
    have st := st1.trans st2
    have rs2 : RelS G (su S (s.heap.objs.size + 1) (.ins C [])) (upd (upd H s.heap.objs.size (.own (s.heap.objs.size + 1))) (s.heap.objs.size + 1) (.ins (G.cls C) s.heap.objs.size [])) :=
      (rs.new fdx).newC (c := .ins C []) n2 ⟨s.heap.objs.size, [], upd_same, rfl, cl, fun p hp => by cases hp⟩
    have rl2 : RepL G.K (upd (upd H s.heap.objs.size (.own (s.heap.objs.size + 1))) (s.heap.objs.size + 1) (.ins (G.cls C) s.heap.objs.size [])) (.ref (s.heap.objs.size + 1) :: ds) (.ref (s.heap.objs.size + 1) :: vs) := .cons mk_ref (rl.stab st)
    have rd2 := rl2.app ((hd (upd (upd H s.heap.objs.size (.own (s.heap.objs.size + 1))) (s.heap.objs.size + 1) (.ins (G.cls C) s.heap.objs.size []))).drop (d.dfl.length - (d.ar - (D.ref (s.heap.objs.size + 1) :: ds).length)))
    have rv2 : Vals ((.ref (s.heap.objs.size + 1) :: vs) ++ dvs.drop (d.dfl.length - (d.ar - (D.ref (s.heap.objs.size + 1) :: ds).length))) ((Value.ref (s.heap.objs.size + 1) :: us) ++ dss) := L2.Vals.append (.cons rfl rv) r2
    have hfl : (d.full (D.ref (s.heap.objs.size + 1) :: ds)).length = d.ar := by
      unfold Fd.full
      rw [List.length_append, List.length_drop]
      omega
    have hl : ((Value.ref (s.heap.objs.size + 1) :: us) ++ dss).length = (d.N.take d.ar).length := by
      rw [← rv2.length, ← rd2.len]
      show (d.full (D.ref (s.heap.objs.size + 1) :: ds)).length = _
      rw [hfl, List.length_take]
      omega
    have hE := I2.env0.make (G.cls C) us []
    rw [e3] at hE
    refine wpAny_call (make_map (f := fad f) (K := G.K) (by have := I.kIn; rw [e3] at this; exact this) M.makes M.init (beq_iff_eq.mp M.fn) (codeAny_mono (F.run _ X.stack _ _ ⟨Value.ref (s.heap.objs.size + 1) :: us, []⟩ ((Value.ref (s.heap.objs.size + 1) :: us) ++ dss) _ (fun v H2 => v = .non ∧ VQ (.ref (s.heap.objs.size + 1)) H2) (fun c d H' => W c d τ H') (hr.make (G.cls C) us [])
      ?gd hE (hbb _ (Value.ref (s.heap.objs.size + 1) :: us) (by have := I2.kIn; rw [e3] at this; exact this) hl) rv2 ⟨_, _, _, _, hfl, rd2, rs2, w2, ?qq, e.stab st⟩) fun r s' hq' => ?_))
    case gd =>
      have hb : ∀ a : Args, Code.guards (.builtin "type.__call__" a) = [] := fun a => by
        have h : Code.isGuard (.builtin "type.__call__" a) = false := by
          show guardIds.contains "type.__call__" = false
          decide
        unfold Code.guards
        rw [h]
        rfl
      show pushGuards (Code.guards (.builtin "type.__call__" ⟨Value.ref (G.cls C) :: us, []⟩)) X.A.guards = some []
      rw [hb, hgd]
      rfl
    case qq =>
      intro d' S' v' H' s' rs' rd' ⟨z1, z2⟩
      subst z1
      exact ⟨rep_non rd', q (.ref (s.heap.objs.size + 1)) S' (.ref (s.heap.objs.size + 1)) H' (st.trans s') rs' mk_ref z2⟩
    cases r with
    | error er => exact passAt tk τ pins _ _ er s' I2 hq'
    | ok fl =>
      cases fl with
      | ret u =>
        obtain ⟨v, H', I3, rv', ev, q3⟩ := I2.after hq'
        subst ev
        exact ⟨rv', ⟨V.ref (s.heap.objs.size + 1), H', I3, rfl, q3⟩⟩
      | next => exact False.elim hq'
      | brk => exact False.elim hq'
      | cont => exact False.elim hq'
/-- what is known in a body at the level n + 1 -/
theorem hs_of (R : Rt P w mg base G p T fad) {n : Nat} (h : AllG P w mg base G p fad n) {d : Fd} {params : Arguments} {body : List Stmt} {scope : Scope} (ok : FdOk T d params body scope) {qual : Str} {f : Addr} {cdv : Value} {A : Around} {outer : List Env} {s : Shared} {H : Hp} {E : XK}
    (hr : Room (2 * n + 4) (A.deeper (envOfC qual scope s.heap.objs.size f cdv))) (hgd : A.guards = some []) :
    Hs G (p.at n) (fun c d _ H => E c d H) T (cxOf (L2.CX P w) P w G.K mg base d.N qual scope f cdv A outer s H E) ⟨d.N, scope, none, true⟩ where
  K := rfl
  N := rfl
  nd := ok.sc.nd
  sc := rfl
  un := by have := hr.un; show (A.deeper (envOfC qual scope s.heap.objs.size f cdv)).units + 65 < cLine; omega
  fn := fun _ _ => .inl rfl
  con := R.con
  free := R.free
  nms := ok.nm
  tb := R.tb
  fld := R.fld
  cm := fun _ => {
    calm := rfl
    gd := hgd
    cal := fun f n' e => by
      obtain ⟨⟨d', hd⟩, h1, h2⟩ := R.cal f n' e
      exact ⟨_, h1, h2, fun X' W' l tk => cal_of h hd l.prog l.w l.K l.mg l.base (by rw [l.A]; exact hr.mono (by omega)) (by rw [l.A]; exact hgd) tk⟩
    met := fun m n' C f e1 e2 => by
      rw [Pr.at_mth] at e2
      obtain ⟨⟨d', hd⟩, h1⟩ := R.met m n' C f e1 e2
      exact ⟨_, h1, fun X' W' l tk => cal_of h hd l.prog l.w l.K l.mg l.base (by rw [l.A]; exact hr.mono (by omega)) (by rw [l.A]; exact hgd) tk⟩
    clg := R.clg
    mak := fun C f e => by
      rw [Pr.at_ini] at e
      obtain ⟨⟨d', hd⟩, h1, h2⟩ := R.mak C f e
      exact fun X' W' l tk => mak_of h hd h1 h2 l.prog l.w l.K l.mg l.base (by rw [l.A]; exact hr) (by rw [l.A]; exact hgd) tk
    xmk := fun C n' h1 h2 X' W' l tk => R.xmk C n' h1 h2 X' W' (p.at n) l.prog l.w l.K l.mg l.base (l.calm.trans rfl) (by rw [l.A]; exact hr.mono (by omega)) (Pr.at_xfs p n) tk
    exm := fun C C' h1 h2 => by rw [Pr.at_sub]; exact R.exm C C' h1 h2 }
  tk := takes_of rfl rfl rfl rfl
  kd := ok.sc.kind
  st := fun _ => ⟨passes_of rfl, rfl, rfl⟩
  fok := fun C f n' h1 h2 => R.fok C f n' (by rw [Pr.at_fok] at h1; exact h1) h2
theorem start_rep {K : PySem.W.Frag} {H : Hp} (hK : K = G.K) {d : Fd} {ds : List D} {vs : List V} (rl : RepL K H ds vs) : RepE G H (d.start ds) (L2.start d.N vs) := by
  subst hK
  refine ⟨by simp [Fd.start, L2.start, rl.len], fun i x e => ?_⟩
  unfold Fd.start at e
  unfold L2.start
  by_cases hi : i < ds.length
  · rw [List.getElem?_append_left (by simpa using hi), List.getElem?_map] at e
    have hi2 : i < vs.length := by rw [← rl.len]; exact hi
    rw [List.getElem?_append_left (by simpa using hi2), List.getElem?_map]
    cases q : ds[i]? with
    | none => rw [q] at e; cases e
    | some y =>
      rw [q] at e
      have : y = x := by simpa using e
      subst this
      obtain ⟨v, h1, h2⟩ := rl.get q
      exact ⟨v, by rw [h1]; rfl, h2⟩
  · rw [List.getElem?_append_right (by simpa using hi), List.getElem?_replicate] at e
    split at e <;> cases e
theorem allG (R : Rt P w mg base G p T fad) : ∀ n, AllG P w mg base G p fad n
  | 0 => fun f d hf => by
    obtain ⟨name, qual, params, body, scope, dvs, kws, fd, F, ok, hd⟩ := R.fnd f d hf
    obtain ⟨as, dl, rfl, ha⟩ := ok.sh
    have hl : dvs.length = d.dfl.length := ((hd fun _ => none).len).symm
    have hps : (d.N.take d.ar).length = d.ar := by rw [List.length_take]; have := ok.ar; omega
    have nd : (as.map (·.arg)).Nodup := by rw [ha]; exact ok.sc.nd.sublist (List.take_sublist _ _)
    refine ⟨fd, dvs, hd, fun m h1 h2 => ?_, fun z => absurd z (Nat.lt_irrefl 0), ok.ar, by obtain ⟨oc, od, dV, kV, doc, pm, an, cdv, ct, osl, rfl, lk, _⟩ := F.ex; exact ⟨oc, od, osl, lk⟩⟩
    have := binds_of F nd (by rw [ha, hps, hl]; exact ok.dl) m (by rw [ha, hps]; exact h1) (by rw [ha, hps, hl]; exact h2)
    rw [ha, hps, hl] at this
    exact this
  | n + 1 => fun f d hf => by
    have ih := allG R n
    obtain ⟨name, qual, params, body, scope, dvs, kws, fd, F, ok, hd⟩ := R.fnd f d hf
    obtain ⟨as, dl, rfl, ha⟩ := ok.sh
    have hl : dvs.length = d.dfl.length := ((hd fun _ => none).len).symm
    have hps : (d.N.take d.ar).length = d.ar := by rw [List.length_take]; have := ok.ar; omega
    have nd : (as.map (·.arg)).Nodup := by rw [ha]; exact ok.sc.nd.sublist (List.take_sublist _ _)
    refine ⟨fd, dvs, hd, fun m h1 h2 => ?_, fun _ => ?_, ok.ar, by obtain ⟨oc, od, dV, kV, doc, pm, an, cdv, ct, osl, rfl, lk, _⟩ := F.ex; exact ⟨oc, od, osl, lk⟩⟩
    · have := binds_of F nd (by rw [ha, hps, hl]; exact ok.dl) m (by rw [ha, hps]; exact h1) (by rw [ha, hps, hl]; exact h2)
      rw [ha, hps, hl] at this
      exact this
    · rw [Nat.add_sub_cancel]
      obtain ⟨oc, od, dV, kV, doc, pm, an, cdv, ct, osl, rfl, lk, hcd, _, _⟩ := F.ex
      refine fnG_of (k := 2 * n + 4) lk hcd ok.sc (fun vs H Q E ⟨ds, S, Q', E', h1, h2, _⟩ => by rw [← h2.len, h1, hps]) fun A outer s H vs Q E hr hgd hfr ⟨ds, S, Q', E', h1, h2, rs, w1, q, e⟩ => ?_
      refine ⟨_, chSs_ok d.body _ body _ _ (hs_of R ih ok hr hgd) ok.ch, d.start ds, S, _, start_rep rfl h2, rs, w1, fun σ S' τ H' s' rs' re' h => ?_, q, fun _ _ _ _ _ _ _ h => h.elim, fun _ _ _ _ _ _ _ h => h.elim, fun x σ S' c dd τ H' s' rs' re' xr h => e x S' c dd H' s' rs' xr h⟩
      exact q .non S' .non H' s' rs' mk_non h
end
end Fv

set_option Elab.async false
set_option linter.all false
set_option maxRecDepth 100000
set_option maxHeartbeats 4000000
/-! Errors are made. -/
namespace Fv
open PySem PySem.Spec PyProof.Rows L2
theorem same_stab {G : Gx} {S : Store} {H H' : Hp} (rs : RelS G S H) (h : ∀ b o, H b = some o → H' b = some o) : Stab H H' ∧ RelS G S H' := by
  have st : Stab H H' := ⟨fun b xs e => h b _ e, fun b o u e => h b _ e, fun b fs e => h b _ e⟩
  refine ⟨st, fun a c e => ?_⟩
  obtain ⟨u, h1, _⟩ := (rs a c e).there
  exact (rs a c e).stab st (by rw [h1, h a u h1])
section
variable {G : Gx} {P : Pm} {W : WX} {X : Cx} {C : Nat} {n : Str}
theorem xmk_plain (hK : X.K = G.K) (q : PySem.W.excIn G.K (G.cls C) He.veBase "ValueError.__new__" = true) (gC : X.mg n = some (.ref (G.cls C))) (kC : PySem.W.keepIn G.K (.ref (G.cls C)) = true)
    (h1 : PySem.W.subIn G.K (.ref (G.cls C)) (.type "BaseException") = some true) (h2 : PySem.W.typeIn G.K (.ref (G.cls C)) = some (.type "type")) (hd : (n == ("__debug__" : Str)) = false) (hx : P.xfs C = []) (hi : G.isX C = true) : XMk G P X W C n := by
  intro xs es p pos ha hp hne hg
  cases xs with
  | nil => exact absurd rfl hne
  | cons x xs =>
    have r : Raises X (.ref (G.cls C)) := raises_own (by rw [hK]; exact h1) (by rw [hK]; exact h2)
    intro pins s τ H XQ I ⟨σ, S, Qx, E, re, rs, w, qx, e⟩
    refine pmk_ownA (p := p) (pos := pos) PySem.F.excBase_ValueError (by rw [hK]; exact q) gC (by rw [hK]; exact kC) r hg ha hd (plain_star hp) (plain_any (plain_cons hp).2) pins s τ H XQ I ?_
    refine ⟨σ, S, _, E, re, rs, w, fun ds S1 vs H1 s1 rs1 rl ⟨w1, w2⟩ => ⟨?_, ?_⟩, e⟩
    · rw [← rl.len]
      unfold xarg at w1
      simp only [Bool.and_eq_true, decide_eq_true_eq] at w1
      exact Nat.le_trans w1.2 (by rw [sizeLine_eq]; decide)
    · refine qx ⟨C, (P.xfs C).zip ds⟩ S1 (.ref (G.cls C)) none H1 s1 rs1 ⟨rfl, hi, fun f d hf => ?_⟩ w2
      rw [hx] at hf
      simp [fget] at hf
end

/-! ### an own __init__: the arguments become fields -/
def chX (N : List Str) (sc : Scope) : Nat → List Str → List Stmt → Bool
  | _, [], [] => true
  | i, f :: fs, .Assign [.Attribute (.Name s _) m _] (.Name v _) _ :: r => m == f && N[0]? == some s && N[i]? == some v && (⟨N, sc, none, false⟩ : Sc).vis s && (⟨N, sc, none, false⟩ : Sc).vis v && nmOk s && nmOk v && chX N sc (i + 1) fs r
  | _, _, _ => false
def tX (K : PySem.W.Frag) : Nat → List Str → TS
  | _, [] => tNext
  | i, f :: fs => tSeq (tOst K f (tVar 0) (tVar i)) (tX K (i + 1) fs)
theorem vis_of {X : Cx} {N : List Str} {sc : Scope} {fs : Option Scope} {c : Bool} {n : Str} (hs : X.env.scope = sc) (h : (⟨N, sc, fs, c⟩ : Sc).vis n = true) : Vis X.env.scope n := by
  unfold Sc.vis at h
  unfold Vis
  rw [hs]
  dsimp only at h
  split at h
  · exact .inl (by assumption)
  · exact .inr (.inl (by assumption))
  · exact .inr (.inr (by assumption))
  · cases h
theorem chX_ok {X : Cx} {N : List Str} {sc : Scope} (hN : X.N = N) (hs : X.env.scope = sc) : ∀ {i : Nat} {fs : List Str} {l : List Stmt}, chX N sc i fs l = true → PSs X l (tX X.K i fs)
  | _, [], [], _ => pss_nil
  | i, f :: fs, st :: r, h => by
    unfold chX at h
    split at h
    · rename_i e1 e2; cases e1
    · rename_i f' fs' s p m p2 v p3 p4 r' e1 e2
      cases e1
      cases e2
      simp only [Bool.and_eq_true, beq_iff_eq] at h
      obtain ⟨⟨⟨⟨⟨⟨⟨rfl, h1⟩, h2⟩, h3⟩, h4⟩, h5⟩, h6⟩, h7⟩ := h
      exact pss_cons (ps_ost (pe_var (by rw [hN]; exact h1) (vis_of hs h3) (nmOk_d h5).1 (nmOk_d h5).2.1) (pe_var (by rw [hN]; exact h2) (vis_of hs h4) (nmOk_d h6).1 (nmOk_d h6).2.1)) (chX_ok hN hs h7)
    · cases h
  | _, [], _ :: _, h => by cases h
  | _, _ :: _, [], h => by cases h
/-- behind the first store -/
theorem tX_go {K : PySem.W.Frag} {C : Addr} (T : OexC K C) {a dx : Addr} {H0 : Hp} : ∀ (l : List Str) (i : Nat) (ys : List V) (fs : List (Str × V)) (σ : L2.St) (H : Hp) (D : Ends), (∀ f ∈ l, PySem.W.findIn K (.ref C) f = some none) → fs.length + l.length ≤ 900 → ys.length = l.length →
    σ[0]? = some (some (.ref a)) → (∀ (j : Nat) (y : V), ys[j]? = some y → σ[i + j]? = some (some y)) → H a = some (exo a C (some dx)) → H dx = some (exd dx fs) → (∀ b, b ≠ a → b ≠ dx → H b = H0 b) → dx ≠ a →
    (∀ H', H' a = some (exo a C (some dx)) → H' dx = some (exd dx ((l.zip ys).reverse ++ fs)) → (∀ b, b ≠ a → b ≠ dx → H' b = H0 b) → D.nx σ H') → tX K i l D σ H
  | [], i, ys, fs, σ, H, D, _, _, hy, h0, hj, ea, ed, hb, ne, k => k H ea (by simpa using ed) hb
  | f :: l, i, [], fs, σ, H, D, _, _, hy, _, _, _, _, _, _, _ => by cases hy
  | f :: l, i, y :: ys, fs, σ, H, D, hf, hl, hy, h0, hj, ea, ed, hb, ne, k => by
    refine ⟨y, hj 0 y rfl, .ref a, h0, a, C, rfl, T, hf f List.mem_cons_self, .inr ⟨dx, fs, ea, ed, by simp at hl; omega, ?_⟩⟩
    refine tX_go T (H0 := H0) l (i + 1) ys ((f, y) :: fs) σ _ D (fun g hg => hf g (List.mem_cons_of_mem _ hg)) (by simp at hl ⊢; omega) (by simpa using hy) h0 (fun j z hz => by
      have := hj (j + 1) z (by simpa using hz)
      rwa [show i + (j + 1) = i + 1 + j by omega] at this) (by rw [upd_ne (Ne.symm ne)]; exact ea) upd_same (fun b h1 h2 => by rw [upd_ne h2]; exact hb b h1 h2) ne fun H' e1 e2 e3 => k H' e1 (by simpa using e2) e3
def spX (C : Addr) (l : List Str) : Sp := fun vs H Q _ => ∃ (a : Addr) (ys : List V), vs = .ref a :: ys ∧ ys.length = l.length ∧ H a = some (exo a C none) ∧
  ∀ dx H', H dx = none → dx ≠ a → H' a = some (exo a C (some dx)) → H' dx = some (exd dx (l.zip ys).reverse) → (∀ b, b ≠ a → b ≠ dx → H' b = H b) → Q .non H'
theorem tX_run {K : PySem.W.Frag} {C : Addr} (T : OexC K C) {l : List Str} {N : List Str} {H : Hp} {vs : List V} {Q : VK} {E : XK} (hne : l ≠ []) (hf : ∀ f ∈ l, PySem.W.findIn K (.ref C) f = some none) (hl : l.length ≤ 900) (h : spX C l vs H Q E) :
    tX K 1 l { nx := fun _ H' => Q .non H', rt := Q } (L2.start N vs) H := by
  obtain ⟨a, ys, rfl, hy, ea, k⟩ := h
  cases l with
  | nil => exact absurd rfl hne
  | cons f l =>
    cases ys with
    | nil => cases hy
    | cons y ys =>
      have h0 : (L2.start N (V.ref a :: y :: ys))[0]? = some (some (.ref a)) := by simp [L2.start]
      have hj : ∀ (j : Nat) (z : V), (y :: ys)[j]? = some z → (L2.start N (V.ref a :: y :: ys))[1 + j]? = some (some z) := fun j z hz => by
        unfold L2.start
        have hlt := (List.getElem?_eq_some_iff.mp hz).1
        rw [List.getElem?_append_left (by simp at hlt ⊢; omega), List.getElem?_map, Nat.add_comm, List.getElem?_cons_succ, hz]
        rfl
      refine ⟨y, hj 0 y rfl, .ref a, h0, a, C, rfl, T, hf f List.mem_cons_self, .inl ⟨ea, fun dx hdx ne => ?_⟩⟩
      refine tX_go T (H0 := H) l 2 ys [(f, y)] _ _ _ (fun g hg => hf g (List.mem_cons_of_mem _ hg)) (by simp at hl ⊢; omega) (by simpa using hy) h0 (fun j z hz => by
        have := hj (j + 1) z (by simpa using hz)
        rwa [show 1 + (j + 1) = 2 + j by omega] at this) upd_same (by rw [upd_ne ne, upd_same]) (fun b h1 h2 => by rw [upd_ne h1, upd_ne h2]) ne fun H' e1 e2 e3 => k dx H' hdx ne e1 (by simpa using e2) e3
/-- a later entry does not matter where names differ -/
theorem look_rev {G : Gx} {H : Hp} : ∀ {l : List Nat} {ds : List D} {ys : List V}, l.Nodup → RepL G.K H ds ys → ys.length = l.length → ∀ (f : Nat) (d : D), fget (l.zip ds) f = some d → ∃ v, ((l.map G.fnm).zip ys).reverse.lookup (G.fnm f) = some v ∧ RepD G.K H d v
  | [], ds, ys, _, _, _, f, d, e => by simp [fget] at e
  | i :: l, [], ys, _, _, _, f, d, e => by simp [fget] at e
  | i :: l, d0 :: ds, ys, nd, rl, hl, f, d, e => by
    obtain ⟨v0, yr, rfl, h1, h2⟩ := rl.cons_inv
    have hl' : yr.length = l.length := by simpa using hl
    rw [List.map_cons, List.zip_cons_cons, List.reverse_cons, List.lookup_append]
    by_cases z : f = i
    · subst z
      have e2 : d0 = d := by simpa [fget] using e
      subst e2
      have : ((l.map G.fnm).zip yr).reverse.lookup (G.fnm f) = none := by
        rw [List.lookup_eq_none_iff]
        intro q hq
        have hq' := (List.of_mem_zip (List.mem_reverse.mp hq)).1
        obtain ⟨j, hj, ej⟩ := List.mem_map.mp hq'
        have : f ≠ j := by rintro rfl; exact (List.nodup_cons.mp nd).1 hj
        simpa using fun w => this (G.inj _ _ (w.trans ej.symm))
      refine ⟨v0, ?_, h1⟩
      rw [this]
      simp
    · have hb : (f == i) = false := by simpa using z
      have e2 : fget (l.zip ds) f = some d := by simpa [fget, List.lookup_cons, hb] using e
      obtain ⟨v, h3, h4⟩ := look_rev (List.nodup_cons.mp nd).2 h2 hl' f d e2
      exact ⟨v, by rw [h3]; rfl, h4⟩
section
variable {G : Gx} {P : Pm} {W : WX} {X : Cx} {C : Nat} {n : Str}
theorem xmk_init {N : List Str} {fI : Addr} {name qual : Str} {as : List Arg} {dl : List Expr} {body : List Stmt} {scope : Scope} {kws : List (Str × V)} {fd : FuncData} (hK : X.K = G.K) (T : OexC G.K (G.cls C)) (iC : PySem.W.findIn G.K (.ref (G.cls C)) "__init__" = some (some (.ref fI)))
    (tI : PySem.W.typeIn G.K (.ref fI) = some (.type "function")) (F : FunD G.K name qual ⟨[], as, none, [], [], none, dl⟩ body scope [] kws fI fd) (S : FnScope N (as.map (·.arg)) scope) (hch : chX N scope 1 ((P.xfs C).map G.fnm) body = true)
    (hf : ∀ f ∈ P.xfs C, PySem.W.findIn G.K (.ref (G.cls C)) (G.fnm f) = some none) (hne : P.xfs C ≠ []) (hl : (P.xfs C).length ≤ 900) (nd : (P.xfs C).Nodup) (har : as.length = (P.xfs C).length + 1) (hr : Room 3 X.A) (gC : X.mg n = some (.ref (G.cls C)))
    (hd : (n == ("__debug__" : Str)) = false) (hi : G.isX C = true) : XMk G P X W C n := by
  intro xs es p pos ha hp hxs hg
  cases xs with
  | nil => exact absurd rfl hxs
  | cons x xs =>
    have F1 : FnOk X.prog X.w X.K X.mg X.base (L2.CX X.prog X.w) 1 fI fd (as.map (·.arg)) (spX (G.cls C) ((P.xfs C).map G.fnm)) := by
      rw [hK]
      refine F.ok (k := 0) S (fun vs H Q E ⟨a, ys, e1, e2, _⟩ => by rw [e1]; simp [e2, har]) fun cdv A outer s H vs Q E hr h => ⟨_, chX_ok rfl rfl hch, ?_⟩
      exact tX_run T (by simpa using hne) (fun f hf' => by obtain ⟨j, h1, h2⟩ := List.mem_map.mp hf'; rw [← h2]; exact hf j h1) (by simpa using hl) h
    have hb : Binds X.K fd (as.map (·.arg)) [] := by
      have ndp : (as.map (·.arg)).Nodup := by rw [← S.pre]; exact S.nd.sublist (List.take_sublist _ _)
      obtain ⟨ds, r1, r2⟩ := binds_of F ndp (by simp) (as.map (·.arg)).length (Nat.le_refl _) (by simp)
      have : ds = [] := by
        have := r1.length
        simp at this
        exact List.length_eq_zero_iff.mp this.symm
      subst this
      rw [hK]
      exact r2
    intro pins s τ H XQ I ⟨σ, S0, Qx, E, re, rs, w, qx, e⟩
    refine pmk_oex (p := p) (pos := pos) (by rw [hK]; exact T) (by rw [hK]; exact iC) (by rw [hK]; exact tI) F1 (hr.mono (by decide)) hb .nil passL hg gC ha hd (plain_star hp) (plain_any (plain_cons hp).2) pins s τ H XQ I ?_
    refine ⟨σ, S0, _, E, re, rs, w, fun ds S1 vs H1 s1 rs1 rl ⟨w1, w2⟩ => ?_, e⟩
    unfold xarg at w1
    simp only [Bool.and_eq_true, decide_eq_true_eq, Bool.or_eq_true, beq_iff_eq] at w1
    have hlen : ds.length = (P.xfs C).length := by
      rcases w1.1 with z | z
      · exact absurd (List.isEmpty_iff.mp z) hne
      · exact z
    refine ⟨by rw [← rl.len]; omega, fun a hna => ⟨a, vs ++ [], rfl, by rw [List.append_nil, ← rl.len, hlen]; simp, upd_same, fun dx H' h1 h2 e1 e2 e3 => ⟨rfl, dx, _, e1, e2, ?_, ?_⟩⟩⟩
    · rw [upd_ne h2] at h1
      exact h1
    · have hdx : H1 dx = none := by rw [upd_ne h2] at h1; exact h1
      have keep : ∀ b o, H1 b = some o → (upd (del H' a) dx (.xd (((P.xfs C).map G.fnm).zip (vs ++ [])).reverse)) b = some o := fun b o hb => by
        have b1 : b ≠ a := by rintro rfl; rw [hna] at hb; cases hb
        have b2 : b ≠ dx := by rintro rfl; rw [hdx] at hb; cases hb
        rw [upd_ne b2, del_ne b1, e3 b b1 b2, upd_ne b1]
        exact hb
      obtain ⟨st, rs2⟩ := same_stab rs1 keep
      refine qx ⟨C, (P.xfs C).zip ds⟩ S1 (.ref (G.cls C)) (some dx) _ (s1.trans st) rs2 ⟨rfl, hi, fun f d hfd => ?_⟩ w2
      rw [List.append_nil]
      obtain ⟨v, h3, h4⟩ := look_rev (G := G) nd rl (by rw [← rl.len]; exact hlen) f d hfd
      exact ⟨dx, _, v, rfl, upd_same, h3, h4.stab (by rw [List.append_nil] at st; exact st)⟩
end
end Fv

set_option Elab.async false
set_option linter.all false
set_option maxRecDepth 100000
set_option maxHeartbeats 4000000
/-! The law's head. -/
namespace Fv
open PySem PySem.Spec PyProof.Rows L2
theorem law_callG {P : Program} {w : World} {K : PySem.W.Frag} {mg mb : Str → Option Value} {k : Nat} {fa a : Addr} {fd : FuncData} {x : Str} {sp : Sp} {s₁ : Shared} {vs : List Value} {ns : List Int}
    (KX : K.In s₁.heap) (hns : s₁.heap.Ns mainGlobals mg) (hb : s₁.heap.Ns builtinsNs mb) (hbb : ∀ x : Str, x ≠ "__name__" → mb x = bootBuiltins x) (hlim : s₁.heap.NoLimit) (hg : s₁.gens = #[])
    (ha : s₁.heap.get? a = some { cls := .type "list", data := .seq vs.toArray }) (hi : IntsAre vs ns) (hl : ns.length ≤ sizeLine) (hr : Room k callerA)
    (F : ∀ base : Heap, K.In base → base.Ns mainGlobals mg → FnG P w K mg base k fa fd [x] sp) (hbind : ∀ (s : Shared) (u : Value), BindsTo s fd ⟨[u], []⟩ [(x, u)])
    (hsp : ∀ H : Hp, Only H → SqL K H a (ns.map V.int) → sp [.ref a] H (fun v _ => v = .bl true) fun _ _ _ => False) :
    codeAny (model P w) callerA (.call (.ref fa) ⟨[.ref a], []⟩) (fun r s' => r = .ok (.ret (.bool true)) ∧ OldK s₁.heap s'.heap ∧ s'.os = s₁.os ∧ AllBare s'.gens) s₁ := by
  have rv := vals_ints hi
  have lenV := hi.length
  -- from an abstract heap in which nothing but the script may be tracked
  have core : ∀ H : Hp, Only H → SqL K H a (ns.map V.int) → HOk P w H s₁.heap → (∀ b, H b ≠ none → b = a) → (H a ≠ none → K.lookup a = none) →
      codeAny (model P w) callerA (.call (.ref fa) ⟨[.ref a], []⟩) (fun r s' => r = .ok (.ret (.bool true)) ∧ OldK s₁.heap s'.heap ∧ s'.os = s₁.os ∧ AllBare s'.gens) s₁ := by
    intro H hO hS hok hA hK
    have base_of : ∀ {b : Addr} {o : Obj}, s₁.heap.get? b = some o → H b = none → (hidT s₁.heap H).get? b = some o := fun e n => hidT_get e n
    have noA : ∀ {b : Addr} {o : Obj} {es : Array DictEntry} {ep : Nat}, s₁.heap.get? b = some o → o.data = .dict es ep → H b = none := fun {b o es ep} e d => by
      cases q : H b with
      | none => rfl
      | some u =>
        have e' : b = a := hA b (by rw [q]; simp)
        subst e'
        rw [ha] at e; cases e
        have d' : Data.seq vs.toArray _ = Data.dict es ep := d
        cases d'
    have nsK : ∀ {b : Addr} {m : Str → Option Value}, s₁.heap.Ns b m → (hidT s₁.heap H).Ns b m := fun {b m} ⟨o, es, ep, e, d, r⟩ => ⟨o, es, ep, base_of e (noA e d), d, r⟩
    have hKb : K.In (hidT s₁.heap H) := fun b o e => base_of (KX b o e) (by
      cases q : H b with
      | none => rfl
      | some u =>
        have e' : b = a := hA b (by rw [q]; simp)
        subst e'
        rw [hK (by rw [q]; simp)] at e; cases e)
    have hM : Mod K mg (hidT s₁.heap H) := ⟨hKb, nsK hns, ⟨mb, nsK hb, hbb⟩, let ⟨mc, h1, h2⟩ := hlim; ⟨mc, nsK h1, h2⟩⟩
    have e0 : Env0 P w K mg (hidT s₁.heap H) callerA [] s₁ H := ⟨rfl, hM, fun b o e => of_hidT e, Nat.le_of_eq (hidT_size _ _), trivial, fun b hb => absurd (show b ∈ ([] : List Addr) from hb) (by simp), hok, .of_eq hg⟩
    refine codeAny_mono ((F _ hKb (nsK hns)).run callerA [] s₁ H ⟨[.ref a], []⟩ [.ref a] [.ref a] _ _ hr rfl e0 (hbind s₁ (.ref a)) (.cons rfl .nil) (hsp H hO hS)) fun r s' h => ?_
    cases r with
    | error e =>
      obtain ⟨_, _, _, _, _, _, _, _, _, _, _, _, z⟩ := h
      exact z.elim
    | ok fl =>
      cases fl with
      | next => exact False.elim h
      | brk => exact False.elim h
      | cont => exact False.elim h
      | ret u =>
        obtain ⟨v, H', os, bare, un, hok', r', q⟩ := h
        have q' : v = .bl true := q
        subst q'
        obtain rfl : u = Value.bool true := r'
        refine ⟨rfl, OldK.of_keep fun b o e => ?_, os, bare⟩
        cases q : H b with
        | none => exact un.keep b o e q (by intro z; exact absurd (show b ∈ ([] : List Addr) from z) (by simp)) (by simp)
        | some u =>
          rcases hO b with z | ⟨ob, xs, z⟩
          · rw [q] at z; cases z
          · have z2 := un.frzs b ob _ z
            obtain ⟨e1, _⟩ := hok b _ z
            obtain ⟨e2, _⟩ := hok' b _ z2
            rw [e] at e1; cases e1
            exact e2
  cases hk : K.lookup a with
  | some o =>
    -- the script is one of the module's own objects
    have e := KX a o hk
    rw [ha] at e
    cases e
    refine core (fun _ => none) (fun _ => .inl rfl) (.inr ⟨_, vs.toArray, _, hk, rfl, rfl, rfl, by rw [List.size_toArray, lenV]; exact hl, by simpa using rv⟩) (fun b u z => by have z' : (none : Option HO) = some u := z; cases z') (fun b z => absurd rfl z) fun z => absurd rfl z
  | none =>
    refine core (fun b => if b = a then some (.frz { cls := .type "list", data := .seq vs.toArray } (.lst (ns.map V.int))) else none) (fun b => ?_) (.inl (.inr ⟨{ cls := .type "list", data := .seq vs.toArray }, if_pos rfl⟩)) (fun b u z => ?_) (fun b z => ?_) fun _ => hk
    · by_cases hb : b = a
      · exact .inr ⟨_, _, if_pos hb⟩
      · exact .inl (if_neg hb)
    · by_cases hb : b = a
      · have z' := (if_pos hb).symm.trans z
        cases z'
        subst hb
        exact ⟨ha, by rw [List.length_map]; exact hl, vs, _, rv, ha⟩
      · have z' := (if_neg hb).symm.trans z
        cases z'
    · by_cases hb : b = a
      · exact hb
      · exact absurd (if_neg hb) z

theorem walk_ofG {l : PySem.W.OpenLaw} {n k : Nat} {q : Program} {loose : List Str} {XP : (Str → Option Value) → Heap → Prop} {YP : World → Heap → Prop} {d : DefRec} {x : Str}
    (hn : l.most = some n) (hn2 : n ≤ sizeLine) (hdf : d.params.defaults = []) (hr : Room k callerA)
    (F : ∀ (w : World) (mg : Str → Option Value) (fa : Addr) (h : Heap), YP w h → h.Ns mainGlobals mg → mg d.name = some (.ref fa) →
      ∃ (K : PySem.W.Frag) (fd : FuncData) (sp : Sp), K.In h ∧ (∀ (s : Shared) (u : Value), BindsTo s fd ⟨[u], []⟩ [(x, u)]) ∧
        (∀ (H : Hp) (a : Addr) (ns : List Int), ns.length ≤ n → Only H → SqL K H a (ns.map V.int) → sp [.ref a] H (fun v _ => v = .bl true) fun _ _ _ => False) ∧
        ∀ base : Heap, K.In base → base.Ns mainGlobals mg → FnG l.prog w K mg base k fa fd [x] sp) :
    PySem.W.WalkO q loose XP YP l.row.toRowW d [] (fun f vs => PySem.call f vs) := by
  refine Att.attach_call hn hdf fun w s₀ s₁ mg mb fa o pm cd doc a vs ns G Y ho hd hcd hmg hobj hints hlen hg => ?_
  obtain ⟨K, fd, sp, KX, hb, hsp, hF⟩ := F w mg fa _ Y G.T.g hmg
  exact law_callG KX G.T.g G.T.b G.T.builtins G.T.nolimit hg hobj hints (Nat.le_trans hlen hn2) hr hF hb fun H hO hS => hsp H a ns hlen hO hS
end Fv

set_option Elab.async false
set_option linter.all false
set_option maxRecDepth 100000
set_option maxHeartbeats 4000000
/-! A program's data, what is checked of it, the Hook. -/
namespace Fv
open PySem PySem.Spec PyProof.Rows L2
structure PD where
  T : Tb
  fds : List Fd
  fn : List He.DefD
  mthL : List (Nat × Nat × Nat)
  iniL : List (Nat × Nat)
  subL : List (Nat × Nat)
  fokL : List (Nat × Nat)
  xfsL : List (Nat × List Nat)
  xin : List (Nat × He.DefD)
def PD.pr (q : PD) : Pr := ⟨q.fds, fun C m => (q.mthL.find? fun t => t.1 == C && t.2.1 == m).map (·.2.2), fun C => q.iniL.lookup C, fun C D => q.subL.contains (C, D), fun C f => q.fokL.contains (C, f), fun C => (q.xfsL.lookup C).getD []⟩
def fnmOf (l : List Str) (i : Nat) : Str := match l[i]? with
  | some s => s
  | none => ⟨#[1114112 + i]⟩
def fldOk (l : List Str) : Bool := decide l.Nodup && l.all fun s => s.cps.toList.all fun c => decide (c < 1114112)
theorem fnm_inj {l : List Str} (h : fldOk l = true) : ∀ i j, fnmOf l i = fnmOf l j → i = j := by
  unfold fldOk at h
  simp only [Bool.and_eq_true, decide_eq_true_eq] at h
  obtain ⟨nd, hc⟩ := h
  have far : ∀ (i j : Nat) (s : Str), l[i]? = some s → s ≠ ⟨#[1114112 + j]⟩ := fun i j s e z => by
    have h1 := List.all_eq_true.mp hc s (List.mem_of_getElem? e)
    rw [z] at h1
    have : (1114112 + j) < 1114112 := by simpa using h1
    omega
  intro i j e
  unfold fnmOf at e
  cases hi : l[i]? with
  | some s =>
    cases hj : l[j]? with
    | some t =>
      rw [hi, hj] at e
      dsimp only at e
      subst e
      exact nodup_ix nd hi hj
    | none =>
      rw [hi, hj] at e
      exact absurd e (far i j s hi)
  | none =>
    cases hj : l[j]? with
    | some t =>
      rw [hi, hj] at e
      exact absurd e.symm (far j i t hj)
    | none =>
      rw [hi, hj] at e
      dsimp only at e
      injection e with e
      have : (1114112 + i) = 1114112 + j := by simpa using e
      omega
def PD.clsN (q : PD) (C : Nat) : Str := q.T.cls.getD C Str.empty
def PD.gx (q : PD) (h : fldOk q.T.fld = true) (K : PySem.W.Frag) : Gx := ⟨K, fun C => He.ga K (q.clsN C), fnmOf q.T.fld, fun C => q.T.xcl.contains C, fnm_inj h⟩
def PD.fad (q : PD) (K : PySem.W.Frag) (f : Nat) : Addr := match q.fn[f]? with
  | some d => He.fAd K d.at_
  | none => 0
/-! ### the text's side -/
def relDv : D → He.Dv → Bool
  | .int i, .int j => decide (i = j)
  | .str s, .str u => decide (u.cps.toList = s) && okS s
  | .bl a, .bl b => a == b
  | .non, .non => true
  | _, _ => false
def relDvs : List D → List He.Dv → Bool
  | [], [] => true
  | d :: r, v :: q => relDv d v && relDvs r q
  | _, _ => false
def shB (p : Arguments) (ps : List Str) : Bool := match p with
  | ⟨[], as, none, [], [], none, _⟩ => decide (as.map (·.arg) = ps)
  | _ => false
def fdB (T : Tb) (d : Fd) (e : He.DefD) : Bool := shB e.params (d.N.take d.ar) && decide (d.ar ≤ d.N.length) && decide (d.dfl.length ≤ d.ar) && C8.scC d.N (d.N.take d.ar) e.scope && d.N.all nmOk && relDvs d.dfl e.dfl && chSs T d.body ⟨d.N, e.scope, none, true⟩ e.body
def xiB (q : PD) (C : Nat) (e : He.DefD) : Bool := (match e.params with
  | ⟨[], as, none, [], [], none, _⟩ => C8.scC (as.map (·.arg)) (as.map (·.arg)) e.scope && chX (as.map (·.arg)) e.scope 1 (((q.xfsL.lookup C).getD []).map (fnmOf q.T.fld)) e.body && (as.length == ((q.xfsL.lookup C).getD []).length + 1)
  | _ => false) && e.dfl.isEmpty && decide ((q.xfsL.lookup C).getD []).Nodup && decide (((q.xfsL.lookup C).getD []).length ≤ 900) && !((q.xfsL.lookup C).getD []).isEmpty
def PD.stat (q : PD) : Bool := q.T.ok && fldOk q.T.fld && (q.fds.length == q.fn.length) && ((q.fds.zip q.fn).all fun p => fdB q.T p.1 p.2) && (q.xin.all fun p => xiB q p.1 p.2) && decide (q.T.fns.length ≤ q.fds.length) && (q.mthL.all fun t => decide (t.2.2 < q.fds.length)) && (q.iniL.all fun t => decide (t.2 < q.fds.length))
/-! ### the heap's side -/
mutual
def relDK (K : PySem.W.Frag) : D → Value → Bool
  | .non, u => (match u with
    | .none => true
    | _ => false)
  | .bl b, u => (match u with
    | .bool c => b == c
    | _ => false)
  | .int i, u => (match u with
    | .int j _ => decide (j = i)
    | _ => false)
  | .str s, u => (match u with
    | .str x _ => decide (x.cps.toList = s) && okS s
    | _ => false)
  | .ktu ds, u => (match u with
    | .ref a => (match K.lookup a with
      | some ⟨.type c, none, .seq its _, _⟩ => decide (c = "tuple") && (decide (its.size ≤ sizeLine) && relDKs K ds its.toList)
      | _ => false)
    | _ => false)
  | _, _ => false
def relDKs (K : PySem.W.Frag) : List D → List Value → Bool
  | [], us => us.isEmpty
  | d :: r, us => (match us with
    | u :: q => relDK K d u && relDKs K r q
    | _ => false)
end
def oexB (K : PySem.W.Frag) (C : Addr) : Bool := (match K.lookup C with
  | some ⟨.type "type", _, .cls cd, sl⟩ => (match cd.mro, sl.toList with
    | .ref C' :: bm, [_, _, _, _, some (.builtin n), _] => C' == C && n == "ValueError.__new__" && !cd.hasDel && cd.hasDict && PySem.HandSPX.refsVE bm
    | _, _ => false)
  | _ => false) && He.eqO (PySem.W.findIn K (.ref C) "__setattr__") (some (some (.builtin "object.__setattr__"))) && decide (PySem.W.subIn K (.ref C) (.type "BaseException") = some true) && decide (PySem.W.typeIn K (.ref C) = some (.type "type")) && PySem.W.keepIn K (.ref C)
def PD.heap (q : PD) (K : PySem.W.Frag) : Bool :=
  (bltNames.all fun s => He.eqO (PySem.W.nsIn K mainGlobals (Str.ofString s)) (some none)) &&
  (q.T.con.all fun p => match PySem.W.nsIn K mainGlobals p.1 with
    | some (some u) => relDK K p.2 u
    | _ => false) &&
  (q.fn.all fun d => d.ok K) && (q.xin.all fun p => p.2.ok K) &&
  (q.T.fns.zipIdx.all fun p => He.eqO (PySem.W.nsIn K mainGlobals p.1) (some (some (.ref (q.fad K p.2)))) && PySem.W.keepIn K (.ref (q.fad K p.2))) &&
  (q.mthL.all fun t => decide (q.fad K t.2.2 = He.ma K (He.ga K (q.clsN t.1)) (q.T.mts.getD t.2.1 Str.empty)) && (He.Fa.meth (q.clsN t.1) (q.T.mts.getD t.2.1 Str.empty)).ok K) &&
  (q.iniL.all fun t => decide (q.fad K t.2 = He.ma K (He.ga K (q.clsN t.1)) "__init__") && (He.Fa.mkr (q.clsN t.1)).ok K && (He.Fa.cls (q.clsN t.1)).ok K) &&
  (q.T.cls.all fun n => He.eqO (PySem.W.nsIn K mainGlobals n) (some (some (.ref (He.ga K n)))) && PySem.W.keepIn K (.ref (He.ga K n))) &&
  (q.fokL.all fun t => (He.Fa.noat (q.clsN t.1) (fnmOf q.T.fld t.2)).ok K) &&
  (q.T.xcl.all fun C => (match q.xfsL.lookup C with
    | none => (He.Fa.exc (q.clsN C)).ok K
    | some l => oexB K (He.ga K (q.clsN C)) && (match q.xin.lookup C with
      | some d => He.eqO (PySem.W.findIn K (.ref (He.ga K (q.clsN C))) "__init__") (some (some (.ref (He.fAd K d.at_)))) && decide (PySem.W.typeIn K (.ref (He.fAd K d.at_)) = some (.type "function"))
      | none => false) && (l.all fun f => (He.Fa.noat (q.clsN C) (fnmOf q.T.fld f)).ok K)) && (q.T.xcl.all fun D => (He.Fa.exm (q.clsN C) (q.clsN D) (q.subL.contains (C, D))).ok K))
def PD.defs (q : PD) : List He.DefD := q.fn ++ q.xin.map (·.2)
def PD.obs (q : PD) (K : PySem.W.Frag) : He.AlD := (q.heap K, q.defs.map fun d => He.fnW K d.at_)
def PD.val (q : PD) : He.AlD := (true, q.defs.map He.DefD.val)
def PD.says (q : PD) (K : PySem.W.Frag) : Prop := q.obs K = q.val
def PD.hook (q : PD) (n : Nat) : PySem.W.Hook where
  α := He.AlD
  obs := fun s => q.obs (He.frG s.heap.get? (He.asD s.heap.get? n))
  val := fun _ => q.val
  says := fun _ h => ∃ K : PySem.W.Frag, K.In h ∧ q.says K
  of := fun _ _ e => ⟨_, He.frG_in, e⟩
  keeps := fun _ _ _ ⟨K, hK, c⟩ k => ⟨K, PySem.W.Frag.In.keeps hK k, c⟩
def PD.ob (q : PD) (n : Nat) (s : PySem.W.SharedT) : He.AlD := q.obs (He.frG (HandSHeadRun.getT s) (He.asD (HandSHeadRun.getT s) n))
theorem PD.ob_eq (q : PD) (n : Nat) (s : PySem.W.SharedT) : q.ob n s = (q.hook n).obs s.abs := by
  have e : HandSHeadRun.getT s = s.abs.heap.get? := funext (HandSHeadRun.getT_eq s)
  show q.obs (He.frG (HandSHeadRun.getT s) (He.asD (HandSHeadRun.getT s) n)) = _
  rw [e]
  rfl
section
variable {K : PySem.W.Frag}
theorem rep_Dv {d : D} {v : He.Dv} (h : relDv d v = true) (H : Hp) : RepD K H d (v.v K) := by
  cases d <;> cases v <;> first | (exact Bool.noConfusion h) | skip
  · exact mk_non
  · rw [eq_of_beq h]; exact mk_bl
  · rw [of_decide_eq_true h]; exact mk_int
  · rename_i s u
    simp only [relDv, Bool.and_eq_true, decide_eq_true_eq] at h
    have e : u = ⟨s.toArray⟩ := by
      cases u with
      | mk a => cases a with
        | mk l => have := h.1; simp at this; subst this; rfl
    show RepD K H (.str s) (.str u)
    rw [e]
    exact mk_str h.2
theorem rep_Dvs : ∀ {ds : List D} {vs : List He.Dv}, relDvs ds vs = true → ∀ H : Hp, RepL K H ds (vs.map (He.Dv.v K))
  | [], [], _, H => .nil
  | d :: r, v :: q, h, H => by
    simp only [relDvs, Bool.and_eq_true] at h
    exact .cons (rep_Dv h.1 H) (rep_Dvs h.2 H)
  | [], _ :: _, h, _ => by cases h
  | _ :: _, [], h, _ => by cases h
/-- the abstract value of a module's constant -/
def vOf : Value → V
  | .none => .non
  | .bool b => .bl b
  | .int i _ => .int i
  | .str x _ => .str x
  | .ref a => .ref a
  | _ => .non
mutual
theorem relDK_ok : ∀ (d : D) (u : Value), relDK K d u = true → RelV (vOf u) u ∧ ∀ H : Hp, RepD K H d (vOf u)
  | .non, u, h => by
    simp only [relDK] at h
    split at h
    · exact ⟨rfl, fun H => mk_non⟩
    · cases h
  | .bl b, u, h => by
    simp only [relDK] at h
    split at h
    · rw [eq_of_beq h]; exact ⟨rfl, fun H => mk_bl⟩
    · cases h
  | .int i, u, h => by
    simp only [relDK] at h
    split at h
    · rw [← of_decide_eq_true h]; exact ⟨⟨_, rfl⟩, fun H => mk_int⟩
    · cases h
  | .str s, u, h => by
    simp only [relDK] at h
    split at h
    · rename_i x t
      simp only [Bool.and_eq_true, decide_eq_true_eq] at h
      have e : x = ⟨s.toArray⟩ := by
        cases x with
        | mk a => cases a with
          | mk l => have := h.1; simp at this; subst this; rfl
      subst e
      exact ⟨⟨_, rfl⟩, fun H => mk_str h.2⟩
    · cases h
  | .ktu ds, u, h => by
    simp only [relDK] at h
    split at h
    · rename_i a
      split at h
      · rename_i c its n sl hk
        simp only [Bool.and_eq_true, decide_eq_true_eq] at h
        obtain ⟨h1, h2, h3⟩ := h
        obtain ⟨r1, r2⟩ := relDKs_ok ds its.toList h3
        subst h1
        refine ⟨rfl, fun H => ?_⟩
        simp only [RepD]
        exact ⟨a, its.toList.map vOf, rfl, ⟨fun H' => .inr ⟨_, its, n, hk, rfl, rfl, h2, r1⟩, _, hk, rfl, rfl⟩, r2 H⟩
      · cases h
    · cases h
  | .tup _, _, h => by simp [relDK] at h
  | .ref _, _, h => by simp [relDK] at h
  | .rl _, _, h => by simp [relDK] at h
  | .rtx _, _, h => by simp [relDK] at h
theorem relDKs_ok : ∀ (ds : List D) (us : List Value), relDKs K ds us = true → Vals (us.map vOf) us ∧ ∀ H : Hp, RepL K H ds (us.map vOf)
  | [], us, h => by
    simp only [relDKs] at h
    have := List.isEmpty_iff.mp h
    subst this
    exact ⟨.nil, fun H => .nil⟩
  | d :: r, us, h => by
    simp only [relDKs] at h
    split at h
    · simp only [Bool.and_eq_true] at h
      obtain ⟨h1, h2⟩ := relDK_ok d _ h.1
      obtain ⟨h3, h4⟩ := relDKs_ok r _ h.2
      exact ⟨.cons h1 h3, fun H => .cons (h2 H) (h4 H)⟩
    · cases h
end
theorem oex_ok {C : Addr} (h : oexB K C = true) : OexC K C := by
  unfold oexB at h
  simp only [Bool.and_eq_true, decide_eq_true_eq] at h
  obtain ⟨⟨⟨⟨h1, h2⟩, h3⟩, h4⟩, h5⟩ := h
  refine ⟨?_, He.eqO_ok h2, h3, h4, h5⟩
  split at h1
  · rename_i dd cd sl ho
    split at h1
    · rename_i C' bm k0 k1 k2 k3 n k5 hm hs
      simp only [Bool.and_eq_true, beq_iff_eq, Bool.not_eq_true'] at h1
      obtain ⟨⟨⟨⟨rfl, rfl⟩, hdel⟩, hd⟩, ht⟩ := h1
      obtain ⟨nm, bs, mro, ns, qn, hdct, sn, sub, ab, col, del⟩ := cd
      dsimp only at hm hdel hd
      subst hm hdel hd
      have hsl : sl = #[k0, k1, k2, k3, some (.builtin "ValueError.__new__"), k5] := by
        obtain ⟨l⟩ := sl
        simp only at hs
        rw [hs]
      subst hsl
      exact ⟨nm, qn, ns, bs, bm, sn, sub, ab, col, dd, k0, k1, k2, k3, k5, ho, ht⟩
    · cases h1
  · cases h1
end
theorem mem_lookN {β : Type} : ∀ {l : List (Nat × β)} {k : Nat} {v : β}, l.lookup k = some v → (k, v) ∈ l
  | [], _, _, h => by cases h
  | (a, b) :: r, k, v, h => by
    by_cases z : k = a
    · subst z
      have : b = v := by simpa using h
      subst this
      exact List.mem_cons_self
    · have hb : (k == a) = false := by simpa using z
      rw [List.lookup_cons, hb] at h
      exact List.mem_cons_of_mem _ (mem_lookN h)
theorem zipIdx_get {α : Type} {l : List α} {i : Nat} {x : α} (h : l[i]? = some x) : (x, i) ∈ l.zipIdx := by
  rw [List.mem_zipIdx_iff_getElem?]
  exact h
theorem getD_of {l : List Str} {i : Nat} {n : Str} (h : l[i]? = some n) : l.getD i Str.empty = n := by
  rw [List.getD_eq_getElem?_getD, h]
  rfl
theorem find_mth {l : List (Nat × Nat × Nat)} {C m f : Nat} (h : (l.find? fun t => t.1 == C && t.2.1 == m).map (·.2.2) = some f) : (C, m, f) ∈ l := by
  obtain ⟨t, h1, h2⟩ := Option.map_eq_some_iff.mp h
  have h3 := List.find?_some h1
  have h4 := List.mem_of_find?_eq_some h1
  obtain ⟨a, b, c⟩ := t
  simp only [Bool.and_eq_true, beq_iff_eq] at h3
  obtain ⟨rfl, rfl⟩ := h3
  dsimp only at h2
  rw [← h2]
  exact h4
/-- the program's facts, from the checks -/
theorem PD.rt {q : PD} {P : Program} {w : World} {mg : Str → Option Value} {base h : Heap} {K : PySem.W.Frag} (st : q.stat = true) (sy : q.says K) (KX : K.In h) (ns : h.Ns mainGlobals mg) (hf : fldOk q.T.fld = true) : Rt P w mg base (q.gx hf K) q.pr q.T (q.fad K) := by
  have hp : q.heap K = true := congrArg (fun z : He.AlD => z.1) sy
  have hw : q.defs.map (fun d => He.fnW K d.at_) = q.defs.map He.DefD.val := congrArg (fun z : He.AlD => z.2) sy
  unfold PD.heap at hp
  simp only [Bool.and_eq_true] at hp
  obtain ⟨⟨⟨⟨⟨⟨⟨⟨⟨p1, p2⟩, p3⟩, p4⟩, p5⟩, p6⟩, p7⟩, p8⟩, p9⟩, p10⟩ := hp
  unfold PD.stat at st
  simp only [Bool.and_eq_true, beq_iff_eq, decide_eq_true_eq] at st
  obtain ⟨⟨⟨⟨⟨⟨⟨s1, s2⟩, s3⟩, s4⟩, s5⟩, s6⟩, s7⟩, s8⟩ := st
  have fw : ∀ d ∈ q.defs, He.fnW K d.at_ = d.val := fun d hd => by
    obtain ⟨i, hi⟩ := List.mem_iff_getElem?.mp hd
    have e2 : (q.defs.map fun d => He.fnW K d.at_)[i]? = (q.defs.map He.DefD.val)[i]? := by rw [hw]
    rw [List.getElem?_map, List.getElem?_map, hi] at e2
    exact Option.some.inj e2
  have inF : ∀ {f : Nat}, f < q.fds.length → ∃ d, q.pr.fns[f]? = some d := fun h => ⟨_, List.getElem?_eq_getElem h⟩
  refine ⟨?fnd, ?con, ?free, s1, ?fld, ?cal, ?met, ?clg, ?mak, ?xmk, ?exm, ?fok⟩
  case fnd =>
    intro f d hd
    have hd' : q.fds[f]? = some d := hd
    have hlt : f < q.fn.length := by rw [← s3]; exact (List.getElem?_eq_some_iff.mp hd').1
    obtain ⟨e, he⟩ : ∃ e, q.fn[f]? = some e := ⟨_, List.getElem?_eq_getElem hlt⟩
    have hz : (d, e) ∈ q.fds.zip q.fn := by
      refine List.mem_iff_getElem?.mpr ⟨f, ?_⟩
      rw [List.getElem?_zip_eq_some]
      exact ⟨hd', he⟩
    have hb := List.all_eq_true.mp s4 _ hz
    unfold fdB at hb
    simp only [Bool.and_eq_true, decide_eq_true_eq] at hb
    obtain ⟨⟨⟨⟨⟨⟨b1, b2⟩, b3⟩, b4⟩, b5⟩, b6⟩, b7⟩ := hb
    have hmem : e ∈ q.fn := List.mem_of_getElem? he
    obtain ⟨fd, F⟩ := He.DefD.funD (fw e (List.mem_append_left _ hmem)) (List.all_eq_true.mp p3 e hmem)
    have hfad : q.fad K f = He.fAd K e.at_ := by unfold PD.fad; rw [he]
    rw [hfad]
    refine ⟨e.name, e.qual, e.params, e.body, e.scope, e.dvs K, e.kws K, fd, F, ⟨?_, b2, b3, C8.fnScope_by b4, b5, b7⟩, fun H => rep_Dvs b6 H⟩
    unfold shB at b1
    split at b1
    · rename_i as dl hpar
      exact ⟨as, dl, hpar, of_decide_eq_true b1⟩
    · cases b1
  case con =>
    intro n d hm
    have hb := List.all_eq_true.mp p2 _ hm
    dsimp only at hb
    split at hb
    · rename_i u hu
      obtain ⟨r1, r2⟩ := relDK_ok d u hb
      exact ⟨u, vOf u, PySem.W.mg_of KX ns hu, r1, r2⟩
    · cases hb
  case free => exact fun n hn => He.free_ok KX ns (List.all_eq_true.mp p1 n hn)
  case fld =>
    intro f n hn
    show fnmOf q.T.fld f = n
    unfold fnmOf
    rw [hn]
  case cal =>
    intro f n hn
    have hb := List.all_eq_true.mp p5 _ (zipIdx_get hn)
    simp only [Bool.and_eq_true] at hb
    exact ⟨inF (Nat.lt_of_lt_of_le (List.getElem?_eq_some_iff.mp hn).1 s6), PySem.W.mg_of KX ns (He.eqO_ok hb.1), hb.2⟩
  case met =>
    intro m n C f hm hf'
    have hmem := find_mth hf'
    have hb := List.all_eq_true.mp p6 _ hmem
    simp only [Bool.and_eq_true, decide_eq_true_eq] at hb
    rw [getD_of hm] at hb
    refine ⟨inF (of_decide_eq_true (List.all_eq_true.mp s7 _ hmem)), ?_⟩
    rw [hb.1]
    exact He.meth_ok hb.2
  case clg =>
    intro C n hn
    have hb := List.all_eq_true.mp p8 _ (List.mem_of_getElem? hn)
    simp only [Bool.and_eq_true] at hb
    have e : q.clsN C = n := getD_of hn
    show mg n = some (.ref (He.ga K (q.clsN C))) ∧ PySem.W.keepIn K (.ref (He.ga K (q.clsN C))) = true
    rw [e]
    exact ⟨PySem.W.mg_of KX ns (He.eqO_ok hb.1), hb.2⟩
  case mak =>
    intro C f hf'
    have hmem : (C, f) ∈ q.iniL := mem_lookN hf'
    have hb := List.all_eq_true.mp p7 _ hmem
    simp only [Bool.and_eq_true, decide_eq_true_eq] at hb
    refine ⟨inF (of_decide_eq_true (List.all_eq_true.mp s8 _ hmem)), ?_, He.cls_ok hb.2⟩
    rw [hb.1.1]
    exact He.mkr_ok hb.1.2
  case xmk =>
    intro C n hn hC X W P' e1 e2 e3 e4 e5 hcalm hr hx tk
    have hb := List.all_eq_true.mp p10 C (List.contains_iff_mem.mp hC)
    simp only [Bool.and_eq_true] at hb
    have hbc := List.all_eq_true.mp p8 _ (List.mem_of_getElem? hn)
    simp only [Bool.and_eq_true] at hbc
    have en : q.clsN C = n := getD_of hn
    have hnd : (n == ("__debug__" : Str)) = false := by
      unfold Tb.ok at s1
      simp only [Bool.and_eq_true] at s1
      exact (nmOk_d (List.all_eq_true.mp s1.1.2 _ (List.mem_of_getElem? hn))).1
    have gC : X.mg n = some (.ref ((q.gx hf K).cls C)) := by
      rw [e4]
      show mg n = some (.ref (He.ga K (q.clsN C)))
      rw [en]
      exact PySem.W.mg_of KX ns (He.eqO_ok hbc.1)
    have hxl : P'.xfs C = (q.xfsL.lookup C).getD [] := by rw [hx]; rfl
    have hb1 := hb.1
    split at hb1
    · rename_i hl
      obtain ⟨x1, x2, x3, x4⟩ := He.exc_ok hb1
      exact xmk_plain (G := q.gx hf K) e3 x1 gC x2 x3 x4 hnd (by rw [hxl, hl]; rfl) hC
    · rename_i l hl
      simp only [Bool.and_eq_true] at hb1
      obtain ⟨⟨x1, x2⟩, x3⟩ := hb1
      split at x2
      · rename_i d hd
        simp only [Bool.and_eq_true, decide_eq_true_eq] at x2
        have hdm := mem_lookN hd
        have hxi := List.all_eq_true.mp s5 _ hdm
        unfold xiB at hxi
        rw [hl] at hxi
        simp only [Option.getD_some, Bool.and_eq_true, decide_eq_true_eq, Bool.not_eq_true'] at hxi
        obtain ⟨⟨⟨⟨y1, y2⟩, y3⟩, y4⟩, y5⟩ := hxi
        obtain ⟨fd, F⟩ := He.DefD.funD (fw d (List.mem_append_right _ (List.mem_map.mpr ⟨_, hdm, rfl⟩))) (List.all_eq_true.mp p4 _ hdm)
        have hdv : d.dvs K = [] := by
          unfold He.DefD.dvs
          rw [List.isEmpty_iff.mp y2]
          rfl
        rw [hdv] at F
        split at y1
        · rename_i as dl hpar
          rw [hpar] at F
          simp only [Bool.and_eq_true, beq_iff_eq] at y1
          obtain ⟨⟨y6, y7⟩, y8⟩ := y1
          have hxl' : P'.xfs C = l := by rw [hxl, hl]; rfl
          refine xmk_init (G := q.gx hf K) e3 (oex_ok x1) (He.eqO_ok x2.1) x2.2 F (C8.fnScope_by y6) (by rw [hxl']; exact y7) (fun f hfm => ?_) (by rw [hxl']; rintro rfl; cases y5) (by rw [hxl']; exact y4) (by rw [hxl']; exact y3) (by rw [hxl']; exact y8) hr gC hnd hC
          rw [hxl'] at hfm
          exact He.noat_ok (List.all_eq_true.mp x3 f hfm)
        · cases y1
      · cases x2
  case exm =>
    intro C D hC hD
    have hb := List.all_eq_true.mp p10 C (List.contains_iff_mem.mp (show q.T.xcl.contains C = true from hC))
    simp only [Bool.and_eq_true] at hb
    exact He.exm_ok (List.all_eq_true.mp hb.2 D (List.contains_iff_mem.mp hD))
  case fok =>
    intro C f n hC hn
    have hb := List.all_eq_true.mp p9 (C, f) (List.contains_iff_mem.mp (show q.fokL.contains (C, f) = true from hC))
    have e : fnmOf q.T.fld f = n := by unfold fnmOf; rw [hn]
    rw [e] at hb
    exact He.noat_ok hb
end Fv

set_option Elab.async false
set_option linter.all false
set_option maxRecDepth 100000
set_option maxHeartbeats 4000000
/-! A law, from its weakest precondition. -/
namespace Fv
open PySem PySem.Spec PyProof.Rows L2
/-- the law's def answers True whatever the script -/
def PD.true_ (q : PD) (n : Nat) (d : Fd) : Prop := ∀ ns : List Int, ns.length ≤ 63 → wpSs (q.pr.at n) d.body (d.start [.rl (ns.map .int)]) (fun _ => none) (kBody (fun v _ => v = .bl true) fun _ _ => False)
theorem rep_ints {K : PySem.W.Frag} {H : Hp} : ∀ ns : List Int, RepL K H (ns.map .int) (ns.map V.int)
  | [] => .nil
  | n :: ns => .cons mk_int (rep_ints ns)
theorem PD.facts {q : PD} {n fl : Nat} {d : Fd} {x nm : Str} {P : Program} {w : World} {K : PySem.W.Frag} {h : Heap} {mg : Str → Option Value} {fa : Addr} (st : q.stat = true) (hf : fldOk q.T.fld = true) (hd : q.fds[fl]? = some d) (hn : q.T.fns[fl]? = some nm) (har : d.ar = 1) (hx : d.N.take 1 = [x]) (hdl : d.dfl = [])
    (tr : q.true_ n d) (KX : K.In h) (ns : h.Ns mainGlobals mg) (sy : q.says K) (hmg : mg nm = some (.ref fa)) :
    ∃ (fd : FuncData) (sp : Sp), (∀ (s : Shared) (u : Value), BindsTo s fd ⟨[u], []⟩ [(x, u)]) ∧ (∀ (H : Hp) (a : Addr) (ns : List Int), ns.length ≤ 63 → Only H → SqL K H a (ns.map V.int) → sp [.ref a] H (fun v _ => v = .bl true) fun _ _ _ => False) ∧
      ∀ base : Heap, K.In base → base.Ns mainGlobals mg → FnG P w K mg base (2 * n + 5) fa fd [x] sp := by
  have R := fun base => PD.rt (P := P) (w := w) (base := base) st sy KX ns hf
  have e1 := ((R h).cal fl nm hn).2.1
  have efa : fa = q.fad K fl := by rw [hmg] at e1; cases e1; rfl
  subst efa
  obtain ⟨name, qual, params, body, scope, dvs, kws, fd, F, ok, hdv⟩ := (R h).fnd fl d hd
  obtain ⟨as, dl, rfl, ha⟩ := ok.sh
  have hdvs : dvs = [] := by
    have := (hdv fun _ => none).len
    rw [hdl] at this
    exact List.length_eq_zero_iff.mp this.symm
  subst hdvs
  rw [har, hx] at ha
  refine ⟨fd, spB (q.gx hf K) q.pr n d, fun s u => ?_, fun H a ms hl hO hS => ?_, fun base Kb nb => ?_⟩
  · have := F.bindsA (ps := [x]) (fun kV doc pm an cdv ct us hl => by
      have := bind_gen (x := name) (qual := qual) (as := as) (dl := dl) (body := body) (scope := scope) (kV := kV) (doc := doc) (pm := pm) (an := an) (cdv := cdv) (ct := ct) (us := us) (by rw [ha]; simp) (by rw [ha]; exact hl)
      rw [ha] at this
      exact this) s [u] rfl
    exact this
  · refine ⟨[.rl (ms.map .int)], fun _ => none, _, _, by rw [har]; rfl, .cons ?_ .nil, fun a c e => (nomatch e), tr ms hl, fun d S v H1 _ _ rd z => ?_, fun _ _ _ _ _ _ _ _ z => z.elim⟩
    · simp only [RepD]
      refine ⟨a, ms.map V.int, rfl, ?_, rep_ints ms⟩
      rcases hS with (h1 | ⟨o, h1⟩) | h1
      · rcases hO a with z | ⟨o, xs, z⟩
        · rw [z] at h1; cases h1
        · rw [z] at h1; cases h1
      · exact .inl ⟨o, h1⟩
      · exact .inr h1
    · rw [z] at rd
      exact rep_bl rd
  · obtain ⟨fd', dvs', _, _, hF, _, oc, od, osl, lk⟩ := allG (R base) (n + 1) fl d hd
    have FF := hF (Nat.succ_pos n)
    rw [Nat.add_sub_cancel] at FF
    obtain ⟨oc2, od2, dV, kV, doc, pm, an, cdv, ct, osl2, _, lk2, _⟩ := F.ex
    have : some (⟨oc, od, .func fd', osl⟩ : Obj) = some ⟨oc2, od2, .func fd, osl2⟩ := lk.symm.trans lk2
    simp only [Option.some.injEq, Obj.mk.injEq, Data.func.injEq] at this
    rw [this.2.2.1, har, hx] at FF
    exact FF
end Fv

set_option Elab.async false
set_option linter.all false
set_option maxRecDepth 100000
set_option maxHeartbeats 4000000
/-! Reasoning over the plain semantics: equations, loops, frames. -/
namespace Fv
open PySem (Addr)
section
variable {P : Pm} {σ : Ev} {S : Store} {Q : QD} {E : QX}
@[simp] theorem e_cst {d : D} : wpE P (.cst d) σ S Q E = Q d S := by simp only [wpE]
theorem e_var {i : Nat} {d : D} (h : σ[i]? = some (some d)) (q : Q d S) : wpE P (.var i) σ S Q E := by simp only [wpE, h]; exact q
end
/-! ### frames -/
/-- what is not among A stays -/
def Keep (A : List Addr) (S S' : Store) : Prop := ∀ a, a ∉ A → ∀ c, S a = some c → S' a = some c
theorem Keep.refl {A : List Addr} {S : Store} : Keep A S S := fun _ _ _ h => h
theorem Keep.trans {A : List Addr} {S T U : Store} (h : Keep A S T) (k : Keep A T U) : Keep A S U := fun a n c e => k a n c (h a n c e)
theorem Keep.mono {A B : List Addr} {S T : Store} (h : Keep A S T) (s : ∀ a ∈ A, a ∈ B) : Keep B S T := fun a n c e => h a (fun z => n (s a z)) c e
theorem Keep.new {A : List Addr} {S : Store} {p : Addr} {c : Cell} (h : S p = none) : Keep A S (su S p c) := fun a _ d e => by
  have : a ≠ p := by rintro rfl; rw [h] at e; cases e
  rw [su_ne this]; exact e
theorem Keep.put {S : Store} {p : Addr} {c : Cell} : Keep [p] S (su S p c) := fun a n d e => by rw [su_ne (by simpa using n)]; exact e
theorem Keep.putIn {A : List Addr} {S : Store} {p : Addr} {c : Cell} (h : p ∈ A) : Keep A S (su S p c) := Keep.put.mono fun a ha => by
  have : a = p := by simpa using ha
  subst this; exact h
theorem ne_cell {S : Store} {a b : Addr} {c d : Cell} (h : S a = some c) (k : S b = some d) (n : c ≠ d) : a ≠ b := by
  rintro rfl
  rw [h] at k
  exact n (Option.some.inj k)
theorem ne_new {S : Store} {a b : Addr} {c : Cell} (h : S a = some c) (k : S b = none) : a ≠ b := by
  rintro rfl
  rw [h] at k
  cases k
/-! ### loops -/
theorem forW_inv {st : Store → Prop} {step : D → Ev → Store → (Ev → Store → Prop) → (Ev → Store → Prop) → Prop} {N : Ev → Store → Prop} (I : Nat → Ev → Store → Prop) {ds : List D} {σ : Ev} {S : Store} (h0 : I 0 σ S)
    (hs : ∀ i d σ S (X : Ev → Store → Prop), ds[i]? = some d → I i σ S → (∀ σ' S', I (i + 1) σ' S' → X σ' S') → st S ∧ step d σ S X N) (he : ∀ σ S, I ds.length σ S → st S ∧ N σ S) : forW st step ds σ S N := by
  have go : ∀ (j : Nat) (r : List D) (σ : Ev) (S : Store), r = ds.drop j → j ≤ ds.length → I j σ S → forW st step r σ S N := by
    intro j r
    induction r generalizing j with
    | nil =>
      intro σ S er hj hi
      have : j = ds.length := by
        have := List.drop_eq_nil_iff.mp er.symm
        omega
      subst this
      exact he σ S hi
    | cons d r ih =>
      intro σ S er hj hi
      have hlt : j < ds.length := by
        rcases Nat.lt_or_ge j ds.length with z | z
        · exact z
        · rw [List.drop_of_length_le z] at er; cases er
      rw [List.drop_eq_getElem_cons hlt] at er
      injection er with e1 e2
      have hd : ds[j]? = some d := by rw [List.getElem?_eq_getElem hlt, e1]
      exact hs j d σ S _ hd hi fun σ' S' h' => ih (j + 1) σ' S' e2 hlt h'
  exact go 0 ds σ S rfl (Nat.zero_le _) h0
theorem lcW_inv {st : Store → Prop} {step : D → Store → (Store → Prop) → Prop} {N : Store → Prop} (I : Nat → Store → Prop) {ds : List D} {S : Store} (h0 : I 0 S)
    (hs : ∀ i d S (X : Store → Prop), ds[i]? = some d → I i S → (∀ S', I (i + 1) S' → X S') → st S ∧ step d S X) (he : ∀ S, I ds.length S → st S ∧ N S) : lcW st step ds S N := by
  have go : ∀ (j : Nat) (r : List D) (S : Store), r = ds.drop j → j ≤ ds.length → I j S → lcW st step r S N := by
    intro j r
    induction r generalizing j with
    | nil =>
      intro S er hj hi
      have : j = ds.length := by
        have := List.drop_eq_nil_iff.mp er.symm
        omega
      subst this
      exact he S hi
    | cons d r ih =>
      intro S er hj hi
      have hlt : j < ds.length := by
        rcases Nat.lt_or_ge j ds.length with z | z
        · exact z
        · rw [List.drop_of_length_le z] at er; cases er
      rw [List.drop_eq_getElem_cons hlt] at er
      injection er with e1 e2
      have hd : ds[j]? = some d := by rw [List.getElem?_eq_getElem hlt, e1]
      exact hs j d S _ hd hi fun S' h' => ih (j + 1) S' e2 hlt h'
  exact go 0 ds S rfl (Nat.zero_le _) h0
theorem whlW_inv {test : Ev → Store → (Bool → Store → Prop) → Prop} {body : Ev → Store → (Ev → Store → Prop) → (Ev → Store → Prop) → Prop} {N : Ev → Store → Prop} (I : Nat → Ev → Store → Prop)
    (hs : ∀ m σ S (X : Ev → Store → Prop), I m σ S → (∀ m' σ' S', m' < m → I m' σ' S' → X σ' S') → test σ S fun b S1 => if b = true then body σ S1 X N else N σ S1) (m : Nat) (σ : Ev) (S : Store) (h : I m σ S) : ∃ n, whlW test body n σ S N := by
  have go : ∀ (n m : Nat) (σ : Ev) (S : Store), m < n → I m σ S → whlW test body n σ S N := by
    intro n
    induction n with
    | zero => intro m σ S h; omega
    | succ n ih => intro m σ S hm hi; exact hs m σ S _ hi fun m' σ' S' hm' h' => ih m' σ' S' (by omega) h'
  exact ⟨m + 1, go _ m σ S (Nat.lt_succ_self m) h⟩
end Fv

set_option Elab.async false
set_option linter.all false
set_option maxRecDepth 100000
set_option maxHeartbeats 4000000
/-! Equations for symbolic runs. -/
namespace Fv
open PySem (Addr)
section
variable {P : Pm} {σ : Ev} {S : Store} {Q : QD} {E : QX} {K : Ks}
@[simp] theorem x_var {i : Nat} : wpE P (.var i) σ S Q E = (match σ[i]? with
    | some (some d) => Q d S
    | _ => False) := by simp only [wpE] <;> rfl
@[simp] theorem x_tup {es : Exs} : wpE P (.tup es) σ S Q E = wpEs P es σ S (fun vs S1 => vs.length ≤ LIM ∧ Q (.tup vs) S1) E := by simp only [wpE]
@[simp] theorem x_lst {es : Exs} : wpE P (.lst es) σ S Q E = wpEs P es σ S (fun vs S1 => vs.length ≤ LIM ∧ wpNew (.lst vs) S1 Q) E := by simp only [wpE]
@[simp] theorem x_bin {o : Bop} {a b : Ex} : wpE P (.bin o a b) σ S Q E = wpE P a σ S (fun x S1 => wpE P b σ S1 (fun y S2 => wpBin o x y S2 Q) E) E := by simp only [wpE]
@[simp] theorem x_neg {a : Ex} : wpE P (.neg a) σ S Q E = wpE P a σ S (fun x S1 => match x with
    | .int i => Q (.int (-i)) S1
    | _ => False) E := by simp only [wpE] <;> rfl
@[simp] theorem x_cmp {o : Cop} {a b : Ex} : wpE P (.cmp o a b) σ S Q E = wpE P a σ S (fun x S1 => wpE P b σ S1 (fun y S2 => wpCmp o x y S2 fun k => Q (.bl k) S2) E) E := by simp only [wpE]
@[simp] theorem x_chn {o p : Cop} {a b c : Ex} : wpE P (.chn o p a b c) σ S Q E = wpE P a σ S (fun x S1 => wpE P b σ S1 (fun y S2 => wpCmp o x y S2 fun k => if k = true then wpE P c σ S2 (fun z S3 => wpCmp p y z S3 fun j => Q (.bl j) S3) E else Q (.bl false) S2) E) E := by simp only [wpE]
@[simp] theorem x_nt {a : Ex} : wpE P (.nt a) σ S Q E = wpE P a σ S (fun x S1 => match x with
    | .bl b => Q (.bl (!b)) S1
    | _ => False) E := by simp only [wpE] <;> rfl
@[simp] theorem x_an {a b : Ex} : wpE P (.an a b) σ S Q E = wpE P a σ S (fun x S1 => match x with
    | .bl k => if k = true then wpE P b σ S1 Q E else Q (.bl false) S1
    | _ => False) E := by simp only [wpE] <;> rfl
@[simp] theorem x_or {a b : Ex} : wpE P (.or_ a b) σ S Q E = wpE P a σ S (fun x S1 => match x with
    | .bl k => if k = true then Q (.bl true) S1 else wpE P b σ S1 Q E
    | _ => False) E := by simp only [wpE] <;> rfl
@[simp] theorem x_ite {c a b : Ex} : wpE P (.ite c a b) σ S Q E = wpT P c σ S (fun k S1 => if k = true then wpE P a σ S1 Q E else wpE P b σ S1 Q E) E := by simp only [wpE]
@[simp] theorem x_idx {a i : Ex} : wpE P (.idx a i) σ S Q E = wpE P a σ S (fun x S1 => wpE P i σ S1 (fun k S2 => wpIdx x k S2 Q) E) E := by simp only [wpE]
@[simp] theorem x_sli {a l h : Ex} : wpE P (.sli a l h) σ S Q E = wpE P a σ S (fun x S1 => wpE P l σ S1 (fun lo S2 => prt l lo = true ∧ wpE P h σ S2 (fun hi S3 => prt h hi = true ∧ wpSli x lo hi S3 Q) E) E) E := by simp only [wpE]
@[simp] theorem x_fld {a : Ex} {f : Nat} : wpE P (.fld a f) σ S Q E = wpE P a σ S (fun x S1 => wpFld x f S1 Q) E := by simp only [wpE]
@[simp] theorem x_cal {f : Nat} {es : Exs} : wpE P (.cal f es) σ S Q E = wpEs P es σ S (fun vs S1 => P.call f vs S1 Q E) E := by simp only [wpE]
/-- o.m(..) on an instance -/
def wpMet (P : Pm) (x : D) (m : Nat) (S : Store) (go : Nat → Prop) : Prop := match x with
  | .ref p => (match S p with
    | some (.ins C _) => (match P.mth C m with
      | some f => go f
      | none => False)
    | _ => False)
  | _ => False
theorem wpMet_of {p : Addr} {C m f : Nat} {fs : List (Nat × D)} {go : Nat → Prop} (h : S p = some (.ins C fs)) (hm : P.mth C m = some f) (g : go f) : wpMet P (.ref p) m S go := by
  simp only [wpMet, h, hm]; exact g
@[simp] theorem x_met {a : Ex} {m : Nat} {es : Exs} : wpE P (.met a m es) σ S Q E = wpE P a σ S (fun x S1 => wpMet P x m S1 fun f => wpEs P es σ S1 (fun vs S2 => P.call f (x :: vs) S2 Q E) E) E := by
  simp only [wpE] <;> rfl
@[simp] theorem x_mak {C : Nat} {es : Exs} : wpE P (.mak C es) σ S Q E = (match P.ini C with
    | some f => wpEs P es σ S (fun vs S1 => ∀ p, S1 p = none → P.call f (.ref p :: vs) (su S1 p (.ins C [])) (fun v S2 => v = .non ∧ Q (.ref p) S2) E) E
    | none => False) := by simp only [wpE] <;> rfl
@[simp] theorem x_blt {b : Nat} {es : Exs} : wpE P (.blt b es) σ S Q E = wpEs P es σ S (fun vs S1 => wpBlt b vs S1 Q) E := by simp only [wpE]
@[simp] theorem x_bmt {b : Nat} {a : Ex} {es : Exs} : wpE P (.bmt b a es) σ S Q E = wpE P a σ S (fun x S1 => mOk b (kindAt S1 x) = true ∧ wpEs P es σ S1 (fun vs S2 => kindAt S2 x = kindAt S1 x ∧ wpBmt b x vs S2 Q) E) E := by simp only [wpE]
@[simp] theorem x_dic {t : Bool} : wpE P (.dic t) σ S Q E = wpNew (.dct t []) S Q := by simp only [wpE]
@[simp] theorem xs_nil {R : List D → Store → Prop} : wpEs P .nil σ S R E = R [] S := by simp only [wpEs]
@[simp] theorem xs_cons {e : Ex} {es : Exs} {R : List D → Store → Prop} : wpEs P (.cons e es) σ S R E = wpE P e σ S (fun x S1 => wpEs P es σ S1 (fun vs S2 => R (x :: vs) S2) E) E := by simp only [wpEs]
/-! tests -/
section
variable {R : Bool → Store → Prop}
@[simp] theorem t_nt {a : Ex} : wpT P (.nt a) σ S R E = wpT P a σ S (fun b S1 => R (!b) S1) E := by simp only [wpT]
@[simp] theorem t_an {a b : Ex} : wpT P (.an a b) σ S R E = wpT P a σ S (fun k S1 => if k = true then wpT P b σ S1 R E else R false S1) E := by simp only [wpT]
@[simp] theorem t_or {a b : Ex} : wpT P (.or_ a b) σ S R E = wpT P a σ S (fun k S1 => if k = true then R true S1 else wpT P b σ S1 R E) E := by simp only [wpT]
@[simp] theorem t_cmp {o : Cop} {a b : Ex} : wpT P (.cmp o a b) σ S R E = wpE P a σ S (fun x S1 => wpE P b σ S1 (fun y S2 => wpCmp o x y S2 fun k => R k S2) E) E := by simp only [wpT]
@[simp] theorem t_chn {o p : Cop} {a b c : Ex} : wpT P (.chn o p a b c) σ S R E = wpE P a σ S (fun x S1 => wpE P b σ S1 (fun y S2 => wpCmp o x y S2 fun k => if k = true then wpE P c σ S2 (fun z S3 => wpCmp p y z S3 fun j => R j S3) E else R false S2) E) E := by simp only [wpT]
@[simp] theorem t_ch3 {o p r : Cop} {a b c d : Ex} : wpT P (.ch3 o p r a b c d) σ S R E = wpE P a σ S (fun x S1 => wpE P b σ S1 (fun y S2 => wpCmp o x y S2 fun k => if k = true then wpE P c σ S2 (fun z S3 => wpCmp p y z S3 fun j => if j = true then wpE P d σ S3 (fun u S4 => wpCmp r z u S4 fun i => R i S4) E else R false S3) E else R false S2) E) E := by simp only [wpT]
@[simp] theorem t_var {i : Nat} : wpT P (.var i) σ S R E = (match σ[i]? with
    | some (some d) => wpTru d S fun b => R b S
    | _ => False) := by simp only [wpT] <;> rfl
@[simp] theorem t_cst {d : D} : wpT P (.cst d) σ S R E = wpTru d S fun b => R b S := by simp only [wpT]
@[simp] theorem t_cal {f : Nat} {es : Exs} : wpT P (.cal f es) σ S R E = wpEs P es σ S (fun vs S1 => P.call f vs S1 (fun d S2 => wpTru d S2 fun b => R b S2) E) E := by simp only [wpT]
@[simp] theorem t_blt {b : Nat} {es : Exs} : wpT P (.blt b es) σ S R E = wpEs P es σ S (fun vs S1 => wpBlt b vs S1 fun d S2 => wpTru d S2 fun b => R b S2) E := by simp only [wpT]
@[simp] theorem t_fld {a : Ex} {f : Nat} : wpT P (.fld a f) σ S R E = wpE P a σ S (fun x S1 => wpFld x f S1 fun d S2 => wpTru d S2 fun b => R b S2) E := by simp only [wpT]
@[simp] theorem t_idx {a i : Ex} : wpT P (.idx a i) σ S R E = wpE P a σ S (fun x S1 => wpE P i σ S1 (fun k S2 => wpIdx x k S2 fun d S3 => wpTru d S3 fun b => R b S3) E) E := by simp only [wpT]
@[simp] theorem t_met {a : Ex} {m : Nat} {es : Exs} : wpT P (.met a m es) σ S R E = wpE P a σ S (fun x S1 => wpMet P x m S1 fun f => wpEs P es σ S1 (fun vs S2 => P.call f (x :: vs) S2 (fun d S3 => wpTru d S3 fun b => R b S3) E) E) E := by
  simp only [wpT] <;> rfl
end
/-! iterators -/
section
variable {R : RI}
/-- what is walked -/
def srcI (x : D) (S : Store) (R : RI) : Prop := match x with
  | .str s => R (chars s) (fun _ => True) S
  | x => srcOf S x fun ds st => R ds st S
theorem srcI_lst {a : Addr} {ds : List D} (h : S a = some (.lst ds)) (r : R ds (fun S' => S' a = some (.lst ds)) S) : srcI (.ref a) S R := by
  simp only [srcI, srcOf, h]; exact r
@[simp] theorem srcI_str {s : List Nat} : srcI (.str s) S R = R (chars s) (fun _ => True) S := rfl
@[simp] theorem srcI_tup {ds : List D} : srcI (.tup ds) S R = R ds (fun _ => True) S := rfl
@[simp] theorem srcI_ktu {ds : List D} : srcI (.ktu ds) S R = R ds (fun _ => True) S := rfl
@[simp] theorem i_sq {e : Ex} : wpI P (.sq e) σ S R E = wpE P e σ S (fun x S1 => srcI x S1 R) E := by
  simp only [wpI] <;> rfl
@[simp] theorem i_rg1 {e : Ex} : wpI P (.rg1 e) σ S R E = wpE P e σ S (fun x S1 => match x with
    | .int n => r62 n ∧ R (rngL 0 n) (fun _ => True) S1
    | _ => False) E := by simp only [wpI] <;> rfl
@[simp] theorem i_rg2 {a b : Ex} : wpI P (.rg2 a b) σ S R E = wpE P a σ S (fun x S1 => wpE P b σ S1 (fun y S2 => match x, y with
    | .int i, .int j => (r62 i ∧ r62 j) ∧ R (rngL i j) (fun _ => True) S2
    | _, _ => False) E) E := by simp only [wpI] <;> rfl
end
/-! statements -/
@[simp] theorem ss_nil : wpSs P .nil σ S K = K.nx σ S := by simp only [wpSs]
@[simp] theorem ss_cons {s : Sm} {r : Sms} : wpSs P (.cons s r) σ S K = wpS P s σ S { K with nx := fun σ1 S1 => wpSs P r σ1 S1 K } := by simp only [wpSs]
@[simp] theorem s_pass : wpS P .pass σ S K = K.nx σ S := by simp only [wpS]
@[simp] theorem s_expr {e : Ex} : wpS P (.expr e) σ S K = wpE P e σ S (fun _ S1 => K.nx σ S1) (fun x S1 => K.ex x σ S1) := by simp only [wpS]
@[simp] theorem s_asg {g : Tg} {e : Ex} : wpS P (.asg g e) σ S K = wpE P e σ S (fun d S1 => asgT g d σ fun σ1 => K.nx σ1 S1) (fun x S1 => K.ex x σ S1) := by simp only [wpS]
@[simp] theorem s_ret {e : Ex} : wpS P (.ret e) σ S K = wpE P e σ S K.rt (fun x S1 => K.ex x σ S1) := by simp only [wpS]
@[simp] theorem s_ite {c : Ex} {a b : Sms} : wpS P (.ite c a b) σ S K = wpT P c σ S (fun k S1 => if k = true then wpSs P a σ S1 K else wpSs P b σ S1 K) (fun x S1 => K.ex x σ S1) := by simp only [wpS]
@[simp] theorem s_for {g : Tg} {it : Itr} {b : Sms} : wpS P (.for_ g it b) σ S K = wpI P it σ S (fun ds st S1 => forW st (fun d σ S N B => asgT g d σ fun σ1 => wpSs P b σ1 S { K with nx := N, ct := N, bk := B }) ds σ S1 K.nx) (fun x S1 => K.ex x σ S1) := by simp only [wpS]
@[simp] theorem s_rse {C : Nat} {es : Exs} : wpS P (.rse C es) σ S K = wpEs P es σ S (fun vs S1 => xarg (P.xfs C) vs.length = true ∧ K.ex ⟨C, (P.xfs C).zip vs⟩ σ S1) (fun x S1 => K.ex x σ S1) := by simp only [wpS]
@[simp] theorem s_try {b : Sms} {hs : Hds} : wpS P (.try_ b hs) σ S K = wpSs P b σ S { K with ex := fun x σ1 S1 => wpH P hs x σ1 S1 K } := by simp only [wpS]
@[simp] theorem h_nil {x : Xn} : wpH P .nil x σ S K = K.ex x σ S := by simp only [wpH]
@[simp] theorem h_cons {x : Xn} {C : Nat} {b : Sms} {r : Hds} : wpH P (.cons C b r) x σ S K = if P.sub x.cls C = true then wpSs P b σ S { K with ex := fun _ _ _ => False } else wpH P r x σ S K := by simp only [wpH]
/-- x[k] = d -/
def setC (x k d : D) (S : Store) (N : Store → Prop) : Prop := match x with
  | .ref a => (match S a with
    | some (.lst ds) => (match k with
      | .int j => (match L2.ixN ds.length j with
        | some n => N (su S a (.lst (ds.set n d)))
        | none => False)
      | _ => False)
    | some (.dct t kvs) => (fitsK t k = true ∧ kvs.length < LIM) ∧ N (su S a (.dct t (dput kvs k d)))
    | _ => False)
  | _ => False
theorem setC_lst {a : Addr} {ds : List D} {j : Int} {n : Nat} {d : D} {N : Store → Prop} (h : S a = some (.lst ds)) (hj : L2.ixN ds.length j = some n) (k : N (su S a (.lst (ds.set n d)))) : setC (.ref a) (.int j) d S N := by
  simp only [setC, h, hj]; exact k
theorem setC_dct {a : Addr} {t : Bool} {kvs : List (D × D)} {k d : D} {N : Store → Prop} (h : S a = some (.dct t kvs)) (f : fitsK t k = true) (l : kvs.length < LIM) (q : N (su S a (.dct t (dput kvs k d)))) : setC (.ref a) k d S N := by
  simp only [setC, h]; exact ⟨⟨f, l⟩, q⟩
@[simp] theorem s_sset {o i e : Ex} : wpS P (.sset o i e) σ S K = wpE P e σ S (fun d S1 => wpE P o σ S1 (fun x S2 => wpE P i σ S2 (fun k S3 => setC x k d S3 fun S4 => K.nx σ S4) (fun x S1 => K.ex x σ S1)) (fun x S1 => K.ex x σ S1)) (fun x S1 => K.ex x σ S1) := by simp only [wpS] <;> rfl
/-- x.f = d -/
def fldC (P : Pm) (x : D) (f : Nat) (d : D) (S : Store) (N : Store → Prop) : Prop := match x with
  | .ref a => (match S a with
    | some (.ins C fs) => (fs.length < 900 ∧ P.fok C f = true) ∧ N (su S a (.ins C (fput f d fs)))
    | _ => False)
  | _ => False
theorem fldC_of {a : Addr} {C f : Nat} {fs : List (Nat × D)} {d : D} {N : Store → Prop} (h : S a = some (.ins C fs)) (l : fs.length < 900) (o : P.fok C f = true) (k : N (su S a (.ins C (fput f d fs)))) : fldC P (.ref a) f d S N := by
  simp only [fldC, h]; exact ⟨⟨l, o⟩, k⟩
@[simp] theorem s_fset {o e : Ex} {f : Nat} : wpS P (.fset o f e) σ S K = wpE P e σ S (fun d S1 => wpE P o σ S1 (fun x S2 => fldC P x f d S2 fun S4 => K.nx σ S4) (fun x S1 => K.ex x σ S1)) (fun x S1 => K.ex x σ S1) := by simp only [wpS] <;> rfl
theorem wpFld_of {a : Addr} {C f : Nat} {fs : List (Nat × D)} {d : D} (h : S a = some (.ins C fs)) (g : fget fs f = some d) (q : Q d S) : wpFld (.ref a) f S Q := by
  simp only [wpFld, h, g]; exact q
/-! places -/
theorem atI_nat {α : Type} (ds : List α) (n : Nat) : L2.atI ds (n : Int) = ds[n]? := by
  unfold L2.atI L2.ixN
  simp
  by_cases h : n < ds.length
  · simp [h]
  · simp [h, List.getElem?_eq_none (Nat.le_of_not_lt h)]
@[simp] theorem atI_0 {α : Type} (ds : List α) : L2.atI ds 0 = ds[0]? := atI_nat ds 0
@[simp] theorem atI_1 {α : Type} (ds : List α) : L2.atI ds 1 = ds[1]? := atI_nat ds 1
@[simp] theorem atI_2 {α : Type} (ds : List α) : L2.atI ds 2 = ds[2]? := atI_nat ds 2
@[simp] theorem atI_3 {α : Type} (ds : List α) : L2.atI ds 3 = ds[3]? := atI_nat ds 3
@[simp] theorem atI_4 {α : Type} (ds : List α) : L2.atI ds 4 = ds[4]? := atI_nat ds 4
@[simp] theorem idx_tup {ds : List D} {i : Int} : wpIdx (.tup ds) (.int i) S Q = (match L2.atI ds i with
    | some d => Q d S
    | none => False) := rfl
@[simp] theorem idx_rl {ds : List D} {i : Int} : wpIdx (.rl ds) (.int i) S Q = (match L2.atI ds i with
    | some d => Q d S
    | none => False) := rfl
theorem idx_lst {a : Addr} {ds : List D} {i : Int} {d : D} (h : S a = some (.lst ds)) (e : L2.atI ds i = some d) (q : Q d S) : wpIdx (.ref a) (.int i) S Q := by
  simp only [wpIdx, h, e]; exact q
theorem idx_dct {a : Addr} {t : Bool} {kvs : List (D × D)} {k d : D} (h : S a = some (.dct t kvs)) (f : fitsK t k = true) (e : dget kvs k = some d) (q : Q d S) : wpIdx (.ref a) k S Q := by
  cases k <;> (simp only [wpIdx, h, e]; exact ⟨f, q⟩)
theorem len_lst {a : Addr} {ds : List D} (h : S a = some (.lst ds)) (q : Q (.int ds.length) S) : wpBlt 0 [.ref a] S Q := by
  simp only [wpBlt, h]; exact q
theorem len_dct {a : Addr} {t : Bool} {kvs : List (D × D)} (h : S a = some (.dct t kvs)) (q : Q (.int kvs.length) S) : wpBlt 0 [.ref a] S Q := by
  simp only [wpBlt, h]; exact q
@[simp] theorem len_rl {ds : List D} : wpBlt 0 [.rl ds] S Q = Q (.int ds.length) S := rfl
@[simp] theorem len_tup {ds : List D} : wpBlt 0 [.tup ds] S Q = Q (.int ds.length) S := rfl
@[simp] theorem len_str {s : List Nat} : wpBlt 0 [.str s] S Q = (s.length ≤ LIM ∧ Q (.int s.length) S) := rfl
@[simp] theorem int_int {i : Int} : wpBlt 1 [.int i] S Q = Q (.int i) S := rfl
@[simp] theorem min_int {i j : Int} : wpBlt 3 [.int i, .int j] S Q = Q (.int (if j < i then j else i)) S := rfl
@[simp] theorem max_int {i j : Int} : wpBlt 4 [.int i, .int j] S Q = Q (.int (if i < j then j else i)) S := rfl
@[simp] theorem ord_str {c : Nat} : wpBlt 8 [.str [c]] S Q = Q (.int c) S := rfl
theorem list_lst {a : Addr} {ds : List D} (h : S a = some (.lst ds)) (q : ∀ p, S p = none → Q (.ref p) (su S p (.lst ds))) : wpBlt 5 [.ref a] S Q := by
  simp only [wpBlt, h]; exact q
@[simp] theorem list_tup {ds : List D} : wpBlt 5 [.tup ds] S Q = wpNew (.lst ds) S Q := rfl
theorem append_lst {a : Addr} {ds : List D} {y : D} (h : S a = some (.lst ds)) (l : ds.length < LIM) (q : Q .non (su S a (.lst (ds ++ [y])))) : wpBmt 0 (.ref a) [y] S Q := by
  simp only [wpBmt, h]; exact ⟨l, q⟩
/-! arithmetic, comparisons -/
@[simp] theorem add_int {i j : Int} : wpBin .add (.int i) (.int j) S Q = Q (.int (i + j)) S := rfl
@[simp] theorem sub_int {i j : Int} : wpBin .sub (.int i) (.int j) S Q = Q (.int (i - j)) S := rfl
@[simp] theorem mul_int {i j : Int} : wpBin .mul (.int i) (.int j) S Q = ((sml i ∨ sml j) ∧ Q (.int (i * j)) S) := rfl
@[simp] theorem fdiv_int {i j : Int} : wpBin .fdiv (.int i) (.int j) S Q = ((0 < j ∧ j < 1073741824) ∧ Q (.int (i / j)) S) := rfl
@[simp] theorem mod_int {i j : Int} : wpBin .mod (.int i) (.int j) S Q = (0 < j ∧ Q (.int (i % j)) S) := rfl
section
variable {B : Bool → Prop}
@[simp] theorem c_eq {x y : D} : wpCmp .eq x y S B = wpEq x y S B := rfl
@[simp] theorem c_ne {x y : D} : wpCmp .ne x y S B = wpEq x y S fun b => B (!b) := rfl
@[simp] theorem c_in {x y : D} : wpCmp .in_ x y S B = wpIn x y S B := rfl
@[simp] theorem c_nin {x y : D} : wpCmp .nin x y S B = wpIn x y S fun b => B (!b) := rfl
@[simp] theorem c_lt {i j : Int} : wpCmp .lt (.int i) (.int j) S B = B (decide (i < j)) := rfl
@[simp] theorem c_le {i j : Int} : wpCmp .le (.int i) (.int j) S B = B (decide (i ≤ j)) := rfl
@[simp] theorem c_gt {i j : Int} : wpCmp .gt (.int i) (.int j) S B = B (decide (j < i)) := rfl
@[simp] theorem c_ge {i j : Int} : wpCmp .ge (.int i) (.int j) S B = B (decide (j ≤ i)) := rfl
@[simp] theorem c_is_non {x : D} : wpCmp .is x .non S B = B (decide (x = .non)) := rfl
@[simp] theorem c_isn_non {x : D} : wpCmp .isn x .non S B = B (!decide (x = .non)) := rfl
@[simp] theorem c_is_bl {x : D} {b : Bool} : wpCmp .is x (.bl b) S B = (isSc x = true ∧ B (decide (x = .bl b))) := rfl
@[simp] theorem c_isn_bl {x : D} {b : Bool} : wpCmp .isn x (.bl b) S B = (isSc x = true ∧ B (!decide (x = .bl b))) := rfl
/-- data without truth values: == is equality -/
def nbD : D → Bool
  | .non => true
  | .int _ => true
  | .str _ => true
  | _ => false
@[simp] theorem eq_int {i j : Int} : wpEq (.int i) (.int j) S B = B (decide (i = j)) := by
  show (_ ∧ B (eqD (.int i) (.int j))) = _
  simp [okD, pureD, dep, eqD, toPD, PySem.PyData.eqv]
  rfl
@[simp] theorem eq_str {i j : List Nat} : wpEq (.str i) (.str j) S B = B (decide (i = j)) := by
  show (_ ∧ B (eqD (.str i) (.str j))) = _
  have e : eqD (.str i) (.str j) = decide (i = j) := by
    show decide (_ = _) = _
    by_cases h : i = j <;> simp [h]
  rw [e]
  simp [okD, pureD, dep]
end
@[simp] theorem su_same' {p : Addr} {c : Cell} : su S p c p = some c := su_same
@[simp] theorem new_eq {c : Cell} : wpNew c S Q = ∀ p, S p = none → Q (.ref p) (su S p c) := rfl
@[simp] theorem asg_var {i : Nat} {d : D} {N : Ev → Prop} : asgT (.var i) d σ N = N (σ.set i (some d)) := rfl
@[simp] theorem asg_tup {l : List Nat} {ds : List D} {N : Ev → Prop} : asgT (.tup l) (.tup ds) σ N = (ds.length = l.length ∧ N (setAll l ds σ)) := rfl
@[simp] theorem tru_bl {b : Bool} {R : Bool → Prop} : wpTru (.bl b) S R = R b := rfl
end
/-! ### == on data without truth values -/
mutual
def nbT : D → Bool
  | .non => true
  | .int _ => true
  | .str _ => true
  | .tup ds => nbL ds
  | _ => false
def nbL : List D → Bool
  | [] => true
  | d :: r => nbT d && nbL r
end
mutual
theorem eqv_nb : ∀ a b : D, nbT a = true → nbT b = true → (PySem.PyData.eqv (toPD a) (toPD b) = true ↔ a = b)
  | .non, b, _, h => by cases b <;> simp_all [nbT, toPD, PySem.PyData.eqv]
  | .int i, b, _, h => by cases b <;> simp_all [nbT, toPD, PySem.PyData.eqv]
  | .str s, b, _, h => by cases b <;> simp_all [nbT, toPD, PySem.PyData.eqv]
  | .tup ds, b, g, h => by
    cases b with
    | tup es =>
      simp only [nbT] at g h
      simp only [toPD, PySem.PyData.eqv, eqv_nbL ds es g h, D.tup.injEq]
    | _ => simp_all [nbT, toPD, PySem.PyData.eqv]
  | .bl _, _, g, _ => by simp [nbT] at g
  | .ref _, _, g, _ => by simp [nbT] at g
  | .rl _, _, g, _ => by simp [nbT] at g
  | .rtx _, _, g, _ => by simp [nbT] at g
  | .ktu _, _, g, _ => by simp [nbT] at g
theorem eqv_nbL : ∀ a b : List D, nbL a = true → nbL b = true → (PySem.PyData.eqvAll (toPDL a) (toPDL b) = true ↔ a = b)
  | [], b, _, _ => by cases b <;> simp [toPDL, PySem.PyData.eqvAll]
  | x :: r, [], _, _ => by simp [toPDL, PySem.PyData.eqvAll]
  | x :: r, y :: q, g, h => by
    simp only [nbL, Bool.and_eq_true] at g h
    simp only [toPDL, PySem.PyData.eqvAll, Bool.and_eq_true, eqv_nb x y g.1 h.1, eqv_nbL r q g.2 h.2, List.cons.injEq]
end
theorem eqD_nb {a b : D} (g : nbT a = true) (h : nbT b = true) : eqD a b = decide (a = b) := by
  have := eqv_nb a b g h
  unfold eqD
  by_cases z : a = b
  · rw [this.mpr z]; simp [z]
  · have : PySem.PyData.eqv (toPD a) (toPD b) = false := by
      cases e : PySem.PyData.eqv (toPD a) (toPD b) with
      | true => exact absurd (this.mp e) z
      | false => rfl
    rw [this]; simp [z]
theorem eqL_nb {a b : List D} (g : nbL a = true) (h : nbL b = true) : eqL a b = decide (a = b) := by
  have := eqv_nbL a b g h
  unfold eqL
  by_cases z : a = b
  · rw [this.mpr z]; simp [z]
  · have : PySem.PyData.eqvAll (toPDL a) (toPDL b) = false := by
      cases e : PySem.PyData.eqvAll (toPDL a) (toPDL b) with
      | true => exact absurd (this.mp e) z
      | false => rfl
    rw [this]; simp [z]
mutual
theorem nb_pure : ∀ d : D, nbT d = true → pureD d = true
  | .non, _ => rfl
  | .int _, _ => rfl
  | .str _, _ => rfl
  | .tup ds, g => by simp only [nbT] at g; simp only [pureD]; exact nb_pureL ds g
  | .bl _, g => by simp [nbT] at g
  | .ref _, g => by simp [nbT] at g
  | .rl _, g => by simp [nbT] at g
  | .rtx _, g => by simp [nbT] at g
  | .ktu _, g => by simp [nbT] at g
theorem nb_pureL : ∀ ds : List D, nbL ds = true → pureL ds = true
  | [], _ => rfl
  | d :: r, g => by
    simp only [nbL, Bool.and_eq_true] at g
    simp only [pureL, Bool.and_eq_true]
    exact ⟨nb_pure d g.1, nb_pureL r g.2⟩
end
/-- data without truth values and of small depth -/
def okN (d : D) : Bool := nbT d && decide (dep d ≤ 30)
theorem okN_ok {d : D} (h : okN d = true) : okD d = true := by
  unfold okN at h
  simp only [Bool.and_eq_true, decide_eq_true_eq] at h
  unfold okD
  simp only [Bool.and_eq_true, decide_eq_true_eq]
  exact ⟨nb_pure d h.1, by omega⟩
theorem okN_nb {d : D} (h : okN d = true) : nbT d = true := by
  unfold okN at h
  simp only [Bool.and_eq_true] at h
  exact h.1
theorem wpEq_nb {S : Store} {B : Bool → Prop} {a b : D} (g : okN a = true) (h : okN b = true) (q : B (decide (a = b))) : wpEq a b S B := by
  have ga := okN_nb g
  have gb := okN_nb h
  have e := eqD_nb ga gb
  have oa := okN_ok g
  have ob := okN_ok h
  have go : (okD a = true ∧ okD b = true) ∧ B (eqD a b) := ⟨⟨oa, ob⟩, by rw [e]; exact q⟩
  cases a <;> first | (cases ga; done) | skip
  all_goals (cases b <;> first | (cases gb; done) | exact go)
end Fv

set_option Elab.async false
set_option linter.all false
set_option maxRecDepth 100000
set_option maxHeartbeats 4000000
/-! Spans of versions: what is known of one read. -/
namespace Fv
structure Sp where
  f : Int
  l : Int
  o : D
  deriving DecidableEq
def jstep (t : D) (acc : List Sp × Int × Int) (x : Sp) : List Sp × Int × Int :=
  if x.o = t ∧ x.f ≤ acc.2.2 + 1 ∧ acc.2.1 ≤ x.l + 1 then (acc.1, if x.f < acc.2.1 then x.f else acc.2.1, if acc.2.2 < x.l then x.l else acc.2.2) else (acc.1 ++ [x], acc.2)
def jn (L : List Sp) (t : D) (s u : Int) : List Sp × Int × Int := L.foldl (jstep t) ([], s, u)
def jplace (K : List Sp) (s : Int) : Nat := (K.filter fun x => decide (x.f < s)).length
def joined (L : List Sp) (t : D) (s u : Int) : List Sp := let r := jn L t s u; r.1.take (jplace r.1 r.2.1) ++ ⟨r.2.1, r.2.2, t⟩ :: r.1.drop (jplace r.1 r.2.1)
def RS (x y : Sp) : Prop := x.l < y.f ∧ (x.o = y.o → x.l + 1 < y.f)
structure Canon (T : Int → D) (C : Int → Prop) (L : List Sp) : Prop where
  cov : ∀ x ∈ L, x.f ≤ x.l ∧ ∀ v, x.f ≤ v → v ≤ x.l → C v ∧ T v = x.o
  all : ∀ v, C v → ∃ x ∈ L, x.f ≤ v ∧ v ≤ x.l
  srt : L.Pairwise RS
theorem pw_mem {α : Type} {R : α → α → Prop} {L : List α} (h : L.Pairwise R) {x y : α} (hx : x ∈ L) (hy : y ∈ L) : x = y ∨ R x y ∨ R y x := by
  induction L with
  | nil => cases hx
  | cons a r ih =>
    have h1 := List.pairwise_cons.mp h
    rcases List.mem_cons.mp hx with e | hx1
    · rcases List.mem_cons.mp hy with e2 | hy1
      · exact .inl (e.trans e2.symm)
      · subst e; exact .inr (.inl (h1.1 y hy1))
    · rcases List.mem_cons.mp hy with e2 | hy1
      · subst e2; exact .inr (.inr (h1.1 x hx1))
      · exact ih h1.2 hx1 hy1
theorem filter_cut {L : List Sp} {s : Int} (h : L.Pairwise fun x y => x.f < y.f) : L.take (jplace L s) = L.filter (fun x => decide (x.f < s)) ∧ L.drop (jplace L s) = L.filter (fun x => !decide (x.f < s)) := by
  unfold jplace
  induction L with
  | nil => exact ⟨rfl, rfl⟩
  | cons a r ih =>
    have h1 := List.pairwise_cons.mp h
    by_cases z : a.f < s
    · simp [z, ih h1.2]
    · have e1 : r.filter (fun x => decide (x.f < s)) = [] := by
        rw [List.filter_eq_nil_iff]
        intro b hb
        have := h1.1 b hb
        simp
        omega
      have e2 : r.filter (fun x => !decide (x.f < s)) = r := by
        rw [List.filter_eq_self]
        intro b hb
        have := h1.1 b hb
        simp
        omega
      simp [z, e1, e2]
section
variable {T : Int → D} {C : Int → Prop} {L : List Sp}
structure JI (T : Int → D) (C : Int → Prop) (t : D) (s u : Int) (done : List Sp) (r : List Sp × Int × Int) : Prop where
  sub : r.1.Sublist done
  ls : r.2.1 ≤ s
  lu : u ≤ r.2.2
  inn : ∀ v, r.2.1 ≤ v → v ≤ r.2.2 → T v = t ∧ (C v ∨ (s ≤ v ∧ v ≤ u))
  all : ∀ x ∈ done, x ∈ r.1 ∨ (r.2.1 ≤ x.f ∧ x.l ≤ r.2.2)
  gap : ∀ x ∈ r.1, x.o = t → r.2.2 + 1 < x.f ∨ x.l + 1 < r.2.1
theorem jn_inv {t : D} {s u : Int} (hc : ∀ x ∈ L, x.f ≤ x.l ∧ ∀ v, x.f ≤ v → v ≤ x.l → C v ∧ T v = x.o) (hs : L.Pairwise RS) (su : s ≤ u) (hT : ∀ v, s ≤ v → v ≤ u → T v = t) : JI T C t s u L (jn L t s u) := by
  have go : ∀ (rest done : List Sp) (r : List Sp × Int × Int), L = done ++ rest → JI T C t s u done r → JI T C t s u L (rest.foldl (jstep t) r) := by
    intro rest
    induction rest with
    | nil => intro done r e h; simp at e; subst e; exact h
    | cons y rest ih =>
      intro done r e h
      rw [List.foldl_cons]
      refine ih (done ++ [y]) _ (by simp [e]) ?_
      have hy : y ∈ L := by rw [e]; simp
      have hpw : ∀ x ∈ done, RS x y := by
        have := hs
        rw [e] at this
        exact fun x hx => (List.pairwise_append.mp this).2.2 x hx y (by simp)
      have hin : ∀ x ∈ done, x ∈ L := fun x hx => by rw [e]; simp [hx]
      obtain ⟨h1, h2, h3, h4, h5, h6⟩ := h
      have hcy := hc y hy
      unfold jstep
      split
      · rename_i hm
        obtain ⟨m1, m2, m3⟩ := hm
        have es : (if y.f < r.2.1 then y.f else r.2.1) ≤ r.2.1 ∧ (if y.f < r.2.1 then y.f else r.2.1) ≤ y.f ∧ ((if y.f < r.2.1 then y.f else r.2.1) = y.f ∨ (if y.f < r.2.1 then y.f else r.2.1) = r.2.1) := by split <;> omega
        have eu : r.2.2 ≤ (if r.2.2 < y.l then y.l else r.2.2) ∧ y.l ≤ (if r.2.2 < y.l then y.l else r.2.2) ∧ ((if r.2.2 < y.l then y.l else r.2.2) = y.l ∨ (if r.2.2 < y.l then y.l else r.2.2) = r.2.2) := by split <;> omega
        generalize (if y.f < r.2.1 then y.f else r.2.1) = s2 at *
        generalize (if r.2.2 < y.l then y.l else r.2.2) = u2 at *
        refine ⟨h1.trans (List.sublist_append_left _ _), by show s2 ≤ s; omega, by show u ≤ u2; omega, ?_, ?_, ?_⟩
        · intro v v1 v2
          simp only at v1 v2
          by_cases z : r.2.1 ≤ v ∧ v ≤ r.2.2
          · exact h4 v z.1 z.2
          · have := hcy.2 v (by omega) (by omega)
            exact ⟨this.2.trans m1, .inl this.1⟩
        · intro x hx
          simp only
          rcases List.mem_append.mp hx with hx | hx
          · rcases h5 x hx with z | z
            · exact .inl z
            · exact .inr (by omega)
          · simp at hx; subst hx; exact .inr (by omega)
        · intro x hx ho
          simp only at hx ⊢
          have hxd := h1.mem hx
          have hr := hpw x hxd
          have hxl := (hc x (hin x hxd)).1
          have hg := hr.2 (ho.trans m1.symm)
          rcases h6 x hx ho with z | z
          · omega
          · right; omega
      · rename_i hm
        refine ⟨List.Sublist.append h1 (List.Sublist.refl _), h2, h3, h4, ?_, ?_⟩
        · intro x hx
          rcases List.mem_append.mp hx with hx | hx
          · rcases h5 x hx with z | z
            · exact .inl (List.mem_append_left _ z)
            · exact .inr z
          · exact .inl (List.mem_append_right _ hx)
        · intro x hx ho
          rcases List.mem_append.mp hx with hx | hx
          · exact h6 x hx ho
          · simp at hx
            subst hx
            simp only [not_and] at hm
            have := hm ho
            simp only
            omega
  refine go L [] ([], s, u) rfl ⟨List.Sublist.refl _, Int.le_refl _, Int.le_refl _, fun v a b => ⟨hT v a b, .inr ⟨a, b⟩⟩, by simp, by simp⟩
theorem joined_ok {t : D} {s u : Int} (h : Canon T C L) (su : s ≤ u) (hT : ∀ v, s ≤ v → v ≤ u → T v = t) : Canon T (fun v => C v ∨ (s ≤ v ∧ v ≤ u)) (joined L t s u) := by
  have J := jn_inv (C := C) h.cov h.srt su hT
  unfold joined
  generalize jn L t s u = r at J
  obtain ⟨K, s2, u2⟩ := r
  obtain ⟨h1, h2, h3, h4, h5, h6⟩ := J
  simp only at *
  have hK : ∀ x ∈ K, x ∈ L := fun x hx => h1.mem hx
  have sK : K.Pairwise RS := List.Pairwise.sublist h1 h.srt
  have sF : K.Pairwise fun x y => x.f < y.f := by
    refine List.Pairwise.imp_of_mem (fun {x y} hx hy hr => ?_) sK
    have := (h.cov x (hK x hx)).1
    have := hr.1
    omega
  obtain ⟨e1, e2⟩ := filter_cut (s := s2) sF
  have dis : ∀ x ∈ K, x.l < s2 ∨ u2 < x.f := by
    intro x hx
    have hc := h.cov x (hK x hx)
    by_cases z : x.l < s2 ∨ u2 < x.f
    · exact z
    · exfalso
      have : ∃ v, x.f ≤ v ∧ v ≤ x.l ∧ s2 ≤ v ∧ v ≤ u2 := by
        by_cases w : x.f ≤ s2
        · exact ⟨s2, by omega⟩
        · exact ⟨x.f, by omega⟩
      obtain ⟨v, v1, v2, v3, v4⟩ := this
      have a := (hc.2 v v1 v2).2
      have b := (h4 v v3 v4).1
      have := h6 x hx (a.symm.trans b)
      omega
  refine ⟨?_, ?_, ?_⟩
  · intro x hx
    have : x ∈ K ∨ x = ⟨s2, u2, t⟩ := by
      rcases List.mem_append.mp hx with z | z
      · exact .inl (List.mem_of_mem_take z)
      · rcases List.mem_cons.mp z with z | z
        · exact .inr z
        · exact .inl (List.mem_of_mem_drop z)
    rcases this with z | rfl
    · have := h.cov x (hK x z)
      exact ⟨this.1, fun v a b => ⟨.inl (this.2 v a b).1, (this.2 v a b).2⟩⟩
    · exact ⟨by simp only; omega, fun v a b => ⟨(h4 v a b).2, (h4 v a b).1⟩⟩
  · have hmem : ∀ x ∈ K, x ∈ K.take (jplace K s2) ++ ⟨s2, u2, t⟩ :: K.drop (jplace K s2) := fun x hx => by
      rw [← List.take_append_drop (jplace K s2) K] at hx
      rcases List.mem_append.mp hx with z | z
      · exact List.mem_append_left _ z
      · exact List.mem_append_right _ (List.mem_cons_of_mem _ z)
    have hz : (⟨s2, u2, t⟩ : Sp) ∈ K.take (jplace K s2) ++ ⟨s2, u2, t⟩ :: K.drop (jplace K s2) := by simp
    intro v hv
    rcases hv with hv | hv
    · obtain ⟨x, hx, a, b⟩ := h.all v hv
      rcases h5 x hx with z | z
      · exact ⟨x, hmem x z, a, b⟩
      · exact ⟨_, hz, by simp only; omega, by simp only; omega⟩
    · exact ⟨_, hz, by simp only; omega, by simp only; omega⟩
  · have pw := sK
    rw [← List.take_append_drop (jplace K s2) K] at pw
    obtain ⟨p1, p2, p3⟩ := List.pairwise_append.mp pw
    rw [List.pairwise_append]
    have q1 : ∀ x ∈ K.take (jplace K s2), RS x ⟨s2, u2, t⟩ := by
      intro x hx
      have hxK := List.mem_of_mem_take hx
      rw [e1] at hx
      have hf := (List.mem_filter.mp hx).2
      simp at hf
      have hd := dis x hxK
      have hl := (h.cov x (hK x hxK)).1
      refine ⟨by simp only; omega, fun ho => ?_⟩
      have := h6 x hxK ho
      simp only
      omega
    have q2 : ∀ x ∈ K.drop (jplace K s2), RS ⟨s2, u2, t⟩ x := by
      intro x hx
      have hxK := List.mem_of_mem_drop hx
      rw [e2] at hx
      have hf := (List.mem_filter.mp hx).2
      simp at hf
      have hd := dis x hxK
      have hl := (h.cov x (hK x hxK)).1
      refine ⟨by simp only; omega, fun ho => ?_⟩
      have := h6 x hxK ho.symm
      simp only
      omega
    refine ⟨p1, List.pairwise_cons.mpr ⟨q2, p2⟩, fun x hx y hy => ?_⟩
    rcases List.mem_cons.mp hy with rfl | hy
    · exact q1 x hx
    · exact p3 x hx y hy
theorem Canon.mem_iff (h : Canon T C L) (x : Sp) : x ∈ L ↔ x.f ≤ x.l ∧ (∀ v, x.f ≤ v → v ≤ x.l → C v ∧ T v = x.o) ∧ ¬(C (x.f - 1) ∧ T (x.f - 1) = x.o) ∧ ¬(C (x.l + 1) ∧ T (x.l + 1) = x.o) := by
  constructor
  · intro hx
    have hc := h.cov x hx
    refine ⟨hc.1, hc.2, ?_, ?_⟩
    · rintro ⟨c, e⟩
      obtain ⟨y, hy, a, b⟩ := h.all _ c
      have hyc := h.cov y hy
      have ho := (hyc.2 _ a b).2.symm.trans e
      rcases pw_mem h.srt hx hy with rfl | r | r
      · omega
      · have := r.1; omega
      · have := r.2 ho; omega
    · rintro ⟨c, e⟩
      obtain ⟨y, hy, a, b⟩ := h.all _ c
      have hyc := h.cov y hy
      have ho := (hyc.2 _ a b).2.symm.trans e
      rcases pw_mem h.srt hx hy with rfl | r | r
      · omega
      · have := r.2 ho.symm; omega
      · have := r.1; omega
  · rintro ⟨h1, h2, h3, h4⟩
    have h20 := h2 x.f (Int.le_refl _) h1
    obtain ⟨y, hy, a, b⟩ := h.all _ h20.1
    have hyc := h.cov y hy
    have ho : y.o = x.o := (hyc.2 _ a b).2.symm.trans h20.2
    have e1 : y.f = x.f := by
      by_cases z : y.f = x.f
      · exact z
      · have := hyc.2 (x.f - 1) (by omega) (by omega)
        exact absurd ⟨this.1, this.2.trans ho⟩ h3
    have e2 : y.l = x.l := by
      rcases Int.lt_trichotomy y.l x.l with z | z | z
      · exfalso
        have w := h2 (y.l + 1) (by omega) (by omega)
        obtain ⟨q, hq, qa, qb⟩ := h.all _ w.1
        have hqc := h.cov q hq
        have qo : q.o = x.o := (hqc.2 _ qa qb).2.symm.trans w.2
        rcases pw_mem h.srt hy hq with rfl | r | r
        · omega
        · have := r.2 (ho.trans qo.symm); omega
        · have := r.1; omega
      · exact z
      · have := hyc.2 (x.l + 1) (by omega) (by omega)
        exact absurd ⟨this.1, this.2.trans ho⟩ h4
    have : y = x := by
      cases y; cases x
      simp_all
    rw [← this]; exact hy
theorem sorted_ext {A B : List Sp} (hA : A.Pairwise fun x y => x.f < y.f) (hB : B.Pairwise fun x y => x.f < y.f) (h : ∀ x, x ∈ A ↔ x ∈ B) : A = B := by
  induction A generalizing B with
  | nil =>
    cases B with
    | nil => rfl
    | cons b B => exact absurd ((h b).mpr (List.mem_cons_self)) (by simp)
  | cons a A ih =>
    cases B with
    | nil => exact absurd ((h a).mp (List.mem_cons_self)) (by simp)
    | cons b B =>
      have hA := List.pairwise_cons.mp hA
      have hB := List.pairwise_cons.mp hB
      have e : a = b := by
        rcases List.mem_cons.mp ((h a).mp List.mem_cons_self) with z | z
        · exact z
        · rcases List.mem_cons.mp ((h b).mpr List.mem_cons_self) with w | w
          · exact w.symm
          · have := hB.1 a z
            have := hA.1 b w
            omega
      subst e
      rw [ih hA.2 hB.2 fun x => ?_]
      constructor
      · intro hx
        rcases List.mem_cons.mp ((h x).mp (List.mem_cons_of_mem _ hx)) with rfl | z
        · have := hA.1 x hx; omega
        · exact z
      · intro hx
        rcases List.mem_cons.mp ((h x).mpr (List.mem_cons_of_mem _ hx)) with rfl | z
        · have := hB.1 x hx; omega
        · exact z
theorem Canon.lt (h : Canon T C L) : L.Pairwise fun x y => x.f < y.f := by
  refine List.Pairwise.imp_of_mem (fun {x y} hx hy hr => ?_) h.srt
  have := (h.cov x hx).1
  have := hr.1
  omega
theorem Canon.uniq {L2 : List Sp} (h : Canon T C L) (k : Canon T C L2) : L = L2 := sorted_ext h.lt k.lt fun x => by rw [h.mem_iff, k.mem_iff]
theorem Canon.iff {C2 : Int → Prop} (h : Canon T C L) (e : ∀ v, C v ↔ C2 v) : Canon T C2 L := ⟨fun x hx => ⟨(h.cov x hx).1, fun v a b => ⟨(e v).mp ((h.cov x hx).2 v a b).1, ((h.cov x hx).2 v a b).2⟩⟩, fun v hv => h.all v ((e v).mpr hv), h.srt⟩
theorem Canon.nil (e : ∀ v, ¬ C v) : Canon T C [] := ⟨by simp, fun v hv => absurd hv (e v), List.Pairwise.nil⟩
/-- what is wholly known lies in one span -/
theorem Canon.inside {s u : Int} {t : D} (h : Canon T C L) (su : s ≤ u) (hC : ∀ v, s ≤ v → v ≤ u → C v ∧ T v = t) : ∃ x ∈ L, x.f ≤ s ∧ u ≤ x.l := by
  obtain ⟨x, hx, a, b⟩ := h.all s (hC s (Int.le_refl _) su).1
  have hxc := h.cov x hx
  have ho : x.o = t := (hxc.2 _ a b).2.symm.trans (hC s (Int.le_refl _) su).2
  refine ⟨x, hx, a, ?_⟩
  by_cases z : u ≤ x.l
  · exact z
  · exfalso
    have w := hC (x.l + 1) (by omega) (by omega)
    obtain ⟨q, hq, qa, qb⟩ := h.all _ w.1
    have hqc := h.cov q hq
    have qo : q.o = t := (hqc.2 _ qa qb).2.symm.trans w.2
    rcases pw_mem h.srt hx hq with rfl | r | r
    · omega
    · have := r.2 (ho.trans qo.symm); omega
    · have := r.1; omega
end
end Fv

set_option Elab.async false
set_option linter.all false
set_option maxRecDepth 100000
set_option maxHeartbeats 0
/-! The trees of the law farfacts_k50_order_of_facts_does_not_mat, printed by gen.py. -/
namespace Fv
namespace L
open PySem PySem.Spec L2
def top (i : Nat) : Stmt := PySem.Challenge.pw_farfacts_k50_order_of_facts_does_not_mat.main.body.getD i (.Pass ⟨0, 0, 0, 0⟩)
def s_0 : List Nat := [97, 98, 99, 100, 101, 102, 103, 104, 105, 106, 107, 108, 109, 110, 111, 112, 113, 114, 115, 116, 117, 118, 119, 120, 121, 122, 48, 49, 50, 51, 52, 53, 54, 55, 56, 57]
def s_1 : List Nat := [115, 111, 109, 101, 116, 104, 105, 110, 103, 32, 101, 108, 115, 101, 32, 105, 115, 32, 107, 110, 111, 119, 110]
/-- 0: is_name -/
def b_is_name : Sms := (.cons (.ite (.nt (.chn .le .le (.cst (.int 1)) (.blt 0 (.cons (.var 0) .nil)) (.cst (.int 12)))) (.cons (.ret (.cst (.bl false)))
    .nil) .nil)
    (.cons (.for_ (.var 1) (.sq (.var 0)) (.cons (.ite (.cmp .nin (.var 1) (.cst (.str s_0))) (.cons (.ret (.cst (.bl false)))
    .nil) .nil)
    .nil))
    (.cons (.ret (.cst (.bl true)))
    .nil)))
def f_is_name : Fd := ⟨["text", "sign"], 1, [], b_is_name⟩
/-- 1: is_uid -/
def b_is_uid : Sms := (.cons (.asg (.var 1) (.bmt 4 (.var 0) (.cons (.cst (.str [58])) .nil)))
    (.cons (.ret (.an (.cmp .eq (.blt 0 (.cons (.var 1) .nil)) (.cst (.int 2))) (.an (.cal 0 (.cons (.idx (.var 1) (.cst (.int 0))) .nil)) (.cal 0 (.cons (.idx (.var 1) (.cst (.int 1))) .nil)))))
    .nil))
def f_is_uid : Fd := ⟨["text", "parts"], 1, [], b_is_uid⟩
/-- 2: check_name -/
def b_check_name : Sms := (.cons (.ite (.nt (.cal 0 (.cons (.var 0) .nil))) (.cons (.rse 1 (.cons (.var 1) .nil))
    .nil) .nil)
    .nil)
def f_check_name : Fd := ⟨["text", "what"], 2, [(.str [110, 97, 109, 101])], b_check_name⟩
/-- 3: is_rising -/
def b_is_rising : Sms := (.cons (.for_ (.tup [1, 2]) (.zip (.var 0) (.sli (.var 0) (.cst (.int 1)) (.cst .non))) (.cons (.ite (.cmp .ge (.var 1) (.var 2)) (.cons (.ret (.cst (.bl false)))
    .nil) .nil)
    .nil))
    (.cons (.ret (.cst (.bl true)))
    .nil))
def f_is_rising : Fd := ⟨["texts", "one", "other"], 1, [], b_is_rising⟩
/-- 4: is_text -/
def b_is_text : Sms := (.cons (.ite (.cmp .gt (.blt 0 (.cons (.var 0) .nil)) (.cst (.int 40))) (.cons (.ret (.cst (.bl false)))
    .nil) .nil)
    (.cons (.for_ (.var 1) (.sq (.var 0)) (.cons (.ite (.or_ (.nt (.chn .le .le (.cst (.int 32)) (.blt 8 (.cons (.var 1) .nil)) (.cst (.int 126)))) (.cmp .in_ (.blt 8 (.cons (.var 1) .nil)) (.cst (.ktu [(.int 34), (.int 37)])))) (.cons (.ret (.cst (.bl false)))
    .nil) .nil)
    .nil))
    (.cons (.ret (.cst (.bl true)))
    .nil)))
def f_is_text : Fd := ⟨["text", "sign"], 1, [], b_is_text⟩
/-- 5: is_scalar -/
def b_is_scalar : Sms := (.cons (.ite (.cmp .eq (.idx (.var 0) (.cst (.int 0))) (.cst (.str [110, 117, 109, 98, 101, 114]))) (.cons (.ret (.chn .le .le (.neg (.cst (.int 1000000))) (.idx (.var 0) (.cst (.int 1))) (.cst (.int 1000000))))
    .nil) .nil)
    (.cons (.ite (.cmp .eq (.idx (.var 0) (.cst (.int 0))) (.cst (.str [116, 101, 120, 116]))) (.cons (.ret (.cal 4 (.cons (.idx (.var 0) (.cst (.int 1))) .nil)))
    .nil) .nil)
    (.cons (.ite (.cmp .eq (.idx (.var 0) (.cst (.int 0))) (.cst (.str [101, 110, 116, 105, 116, 121]))) (.cons (.ret (.cal 1 (.cons (.idx (.var 0) (.cst (.int 1))) .nil)))
    .nil) .nil)
    (.cons (.ret (.cmp .eq (.idx (.var 0) (.cst (.int 0))) (.cst (.str [116, 114, 117, 116, 104]))))
    .nil))))
def f_is_scalar : Fd := ⟨["value"], 1, [], b_is_scalar⟩
/-- 6: scalar_before -/
def b_scalar_before : Sms := (.cons (.ite (.cmp .ne (.idx (.var 0) (.cst (.int 0))) (.idx (.var 1) (.cst (.int 0)))) (.cons (.ret (.cmp .lt (.bmt 5 (.cst (.ktu [(.str [116, 114, 117, 116, 104]), (.str [110, 117, 109, 98, 101, 114]), (.str [116, 101, 120, 116]), (.str [101, 110, 116, 105, 116, 121])])) (.cons (.idx (.var 0) (.cst (.int 0))) .nil)) (.bmt 5 (.cst (.ktu [(.str [116, 114, 117, 116, 104]), (.str [110, 117, 109, 98, 101, 114]), (.str [116, 101, 120, 116]), (.str [101, 110, 116, 105, 116, 121])])) (.cons (.idx (.var 1) (.cst (.int 0))) .nil))))
    .nil) .nil)
    (.cons (.ret (.cmp .lt (.idx (.var 0) (.cst (.int 1))) (.idx (.var 1) (.cst (.int 1)))))
    .nil))
def f_scalar_before : Fd := ⟨["one", "two"], 2, [], b_scalar_before⟩
/-- 7: is_value -/
def b_is_value : Sms := (.cons (.ite (.cmp .ne (.idx (.var 0) (.cst (.int 0))) (.cst (.str [115, 101, 116]))) (.cons (.ret (.cal 5 (.cons (.var 0) .nil)))
    .nil) .nil)
    (.cons (.ite (.cmp .gt (.blt 0 (.cons (.idx (.var 0) (.cst (.int 1))) .nil)) (.cst (.int 8))) (.cons (.ret (.cst (.bl false)))
    .nil) .nil)
    (.cons (.for_ (.var 1) (.sq (.idx (.var 0) (.cst (.int 1)))) (.cons (.ite (.nt (.cal 5 (.cons (.var 1) .nil))) (.cons (.ret (.cst (.bl false)))
    .nil) .nil)
    .nil))
    (.cons (.for_ (.tup [2, 3]) (.zip (.idx (.var 0) (.cst (.int 1))) (.sli (.idx (.var 0) (.cst (.int 1))) (.cst (.int 1)) (.cst .non))) (.cons (.ite (.nt (.cal 6 (.cons (.var 2) (.cons (.var 3) .nil)))) (.cons (.ret (.cst (.bl false)))
    .nil) .nil)
    .nil))
    (.cons (.ret (.cst (.bl true)))
    .nil)))))
def f_is_value : Fd := ⟨["value", "item", "one", "other"], 1, [], b_is_value⟩
/-- 8: is_read -/
def b_is_read : Sms := (.cons (.ite (.nt (.cal 1 (.cons (.idx (.var 0) (.cst (.int 1))) .nil))) (.cons (.ret (.cst (.bl false)))
    .nil) .nil)
    (.cons (.ite (.cmp .eq (.idx (.var 0) (.cst (.int 0))) (.cst (.str [97, 110, 99, 101, 115, 116, 111, 114, 115]))) (.cons (.ret (.cst (.bl true)))
    .nil) .nil)
    (.cons (.try_ (.cons (.expr (.cal 2 (.cons (.idx (.var 0) (.cst (.int 2))) .nil)))
    .nil) (.cons 1 (.cons (.ret (.cst (.bl false)))
    .nil) .nil))
    (.cons (.ret (.cst (.bl true)))
    .nil))))
def f_is_read : Fd := ⟨["read"], 1, [], b_is_read⟩
/-- 9: _fits -/
def b_fits : Sms := (.cons (.ite (.cmp .eq (.idx (.var 0) (.cst (.int 0))) (.cst (.str [97, 116, 116, 114, 105, 98, 117, 116, 101]))) (.cons (.ret (.or_ (.cmp .eq (.idx (.var 1) (.cst (.int 0))) (.cst (.str [103, 111, 110, 101]))) (.or_ (.cmp .eq (.idx (.var 1) (.cst (.int 0))) (.cst (.str [110, 111, 110, 101]))) (.an (.cmp .eq (.idx (.var 1) (.cst (.int 0))) (.cst (.str [118, 97, 108, 117, 101]))) (.cal 7 (.cons (.idx (.var 1) (.cst (.int 1))) .nil))))))
    .nil) .nil)
    (.cons (.ite (.or_ (.cmp .ne (.idx (.var 1) (.cst (.int 0))) (.cst (.str [97, 98, 111, 118, 101]))) (.cmp .in_ (.idx (.var 0) (.cst (.int 1))) (.idx (.var 1) (.cst (.int 1))))) (.cons (.ret (.cst (.bl false)))
    .nil) .nil)
    (.cons (.ret (.an (.blt 7 (.cons (.lcm (.cal 1 (.cons (.var 2) .nil)) (.var 2) (.sq (.idx (.var 1) (.cst (.int 1)))) (.cst (.bl true)) [2]) .nil)) (.cal 3 (.cons (.idx (.var 1) (.cst (.int 1))) .nil))))
    .nil)))
def f_fits : Fd := ⟨["read", "told", "uid"], 2, [], b_fits⟩
/-- 10: check_fact -/
def b_check_fact : Sms := (.cons (.asg (.tup [1, 2, 3, 4]) (.var 0))
    (.cons (.ite (.nt (.cal 8 (.cons (.var 1) .nil))) (.cons (.rse 1 (.cons (.cst (.str [114, 101, 97, 100])) .nil))
    .nil) .nil)
    (.cons (.ite (.nt (.cal 9 (.cons (.var 1) (.cons (.var 2) .nil)))) (.cons (.rse 1 (.cons (.cst (.str [116, 111, 108, 100])) .nil))
    .nil) .nil)
    (.cons (.ite (.nt (.ch3 .le .le .le (.cst (.int 0)) (.var 3) (.var 4) (.cst (.int 100000)))) (.cons (.rse 1 (.cons (.cst (.str [115, 112, 97, 110])) .nil))
    .nil) .nil)
    .nil))))
def f_check_fact : Fd := ⟨["fact", "read", "told", "since", "upto"], 1, [], b_check_fact⟩
/-- 11: _joined -/
def b_joined : Sms := (.cons (.asg (.var 4) (.lst .nil))
    (.cons (.for_ (.tup [6, 7, 8]) (.sq (.var 0)) (.cons (.ite (.an (.cmp .eq (.var 8) (.var 1)) (.an (.cmp .le (.var 6) (.bin .add (.var 3) (.cst (.int 1)))) (.cmp .le (.var 2) (.bin .add (.var 7) (.cst (.int 1)))))) (.cons (.asg (.var 2) (.blt 3 (.cons (.var 2) (.cons (.var 6) .nil))))
    (.cons (.asg (.var 3) (.blt 4 (.cons (.var 3) (.cons (.var 7) .nil))))
    .nil)) (.cons (.expr (.bmt 0 (.var 4) (.cons (.tup (.cons (.var 6) (.cons (.var 7) (.cons (.var 8) .nil)))) .nil)))
    .nil))
    .nil))
    (.cons (.asg (.var 5) (.blt 0 (.cons (.lcm (.var 9) (.var 9) (.sq (.var 4)) (.cmp .lt (.idx (.var 9) (.cst (.int 0))) (.var 2)) [9]) .nil)))
    (.cons (.expr (.bmt 1 (.var 4) (.cons (.var 5) (.cons (.tup (.cons (.var 2) (.cons (.var 3) (.cons (.var 1) .nil)))) .nil))))
    (.cons (.ret (.var 4))
    .nil)))))
def f_joined : Fd := ⟨["spans", "told", "since", "upto", "kept", "place", "first", "last", "other", "span"], 4, [], b_joined⟩
/-- 12: _law_cell -/
def b_law_cell : Sms := (.cons (.ite (.cmp .lt (.var 1) (.blt 0 (.cons (.var 0) .nil))) (.cons (.ret (.idx (.var 0) (.var 1)))
    .nil) .nil)
    (.cons (.ret (.cst (.int 0)))
    .nil))
def f_law_cell : Fd := ⟨["_law_script", "_law_k"], 2, [], b_law_cell⟩
/-- 13: _law_digits -/
def b_law_digits : Sms := (.cons (.asg (.var 3) (.lst .nil))
    (.cons (.for_ (.var 4) (.rg2 (.var 1) (.var 2)) (.cons (.asg (.var 5) (.cal 12 (.cons (.var 0) (.cons (.var 4) .nil))))
    (.cons (.ite (.cmp .lt (.var 5) (.cst (.int 0))) (.cons (.asg (.var 5) (.bin .sub (.cst (.int 1)) (.bin .mul (.cst (.int 2)) (.var 5))))
    .nil) .nil)
    (.cons (.ite (.cmp .ge (.var 5) (.cst (.int 1000000000000000000))) (.cons (.for_ (.var 6) (.rg1 (.cst (.int 60))) (.cons (.ite (.cmp .gt (.var 5) (.cst (.int 0))) (.cons (.expr (.bmt 0 (.var 3) (.cons (.bin .mod (.blt 1 (.cons (.var 5) .nil)) (.cst (.int 1000))) .nil)))
    (.cons (.asg (.var 5) (.bin .fdiv (.var 5) (.cst (.int 1000))))
    .nil)) .nil)
    .nil))
    .nil) (.cons (.asg (.var 7) (.bin .mod (.blt 1 (.cons (.bin .add (.bin .add (.bin .mul (.var 5) (.cst (.int 40692))) (.bin .mul (.var 4) (.cst (.int 52774)))) (.cst (.int 17))) .nil)) (.cst (.int 2147483399))))
    (.cons (.for_ (.var 6) (.rg1 (.cst (.int 12))) (.cons (.asg (.var 7) (.bin .mod (.blt 1 (.cons (.bin .add (.bin .add (.bin .mul (.var 7) (.cst (.int 40014))) (.bin .mul (.cst (.int 5)) (.var 6))) (.cst (.int 3))) .nil)) (.cst (.int 2147483563))))
    (.cons (.expr (.bmt 0 (.var 3) (.cons (.bin .mod (.blt 1 (.cons (.bin .fdiv (.var 7) (.cst (.int 1009))) .nil)) (.cst (.int 1000))) .nil)))
    .nil)))
    .nil)))
    .nil))))
    (.cons (.ret (.var 3))
    .nil)))
def f_law_digits : Fd := ⟨["_law_script", "_law_first", "_law_last", "_law_digits_here", "_law_k", "_law_cell_here", "_law_turn", "_law_seed"], 3, [], b_law_digits⟩
/-- 14: _law_draw -/
def b_law_draw : Sms := (.cons (.asg (.var 2) (.idx (.var 0) (.cst (.int 1))))
    (.cons (.sset (.var 0) (.cst (.int 1)) (.bin .add (.var 2) (.cst (.int 1))))
    (.cons (.ite (.cmp .lt (.var 2) (.blt 0 (.cons (.idx (.var 0) (.cst (.int 0))) .nil))) (.cons (.ret (.bin .mod (.blt 1 (.cons (.idx (.idx (.var 0) (.cst (.int 0))) (.var 2)) .nil)) (.var 1)))
    .nil) .nil)
    (.cons (.ret (.bin .mod (.blt 1 (.cons (.bin .add (.bin .mul (.var 2) (.cst (.int 7))) (.cst (.int 3))) .nil)) (.var 1)))
    .nil))))
def f_law_draw : Fd := ⟨["_law_box", "_law_many", "_law_at"], 2, [], b_law_draw⟩
/-- 15: _law_alike -/
def b_law_alike : Sms := (.cons (.ret (.cmp .eq (.blt 2 (.cons (.var 0) .nil)) (.blt 2 (.cons (.var 1) .nil))))
    .nil)
def f_law_alike : Fd := ⟨["_law_one", "_law_two"], 2, [], b_law_alike⟩
/-- 16: _law_facts -/
def b_law_facts : Sms := (.cons (.asg (.var 2) (.lst .nil))
    (.cons (.for_ (.var 3) (.rg1 (.var 1)) (.cons (.asg (.var 4) (.cal 14 (.cons (.var 0) (.cons (.cst (.int 2)) .nil))))
    (.cons (.asg (.var 5) (.cal 14 (.cons (.var 0) (.cons (.cst (.int 30)) .nil))))
    (.cons (.asg (.var 6) (.bin .fdiv (.var 5) (.cst (.int 10))))
    (.cons (.asg (.var 7) (.blt 3 (.cons (.bin .add (.bin .mul (.cst (.int 10)) (.var 6)) (.cst (.int 9))) (.cons (.bin .add (.var 5) (.cal 14 (.cons (.var 0) (.cons (.cst (.int 10)) .nil)))) .nil))))
    (.cons (.asg (.var 8) (.tup (.cons (.cst (.str [118, 97, 108, 117, 101])) (.cons (.tup (.cons (.cst (.str [110, 117, 109, 98, 101, 114])) (.cons (.bin .mul (.var 6) (.bin .sub (.cst (.int 1)) (.var 4))) .nil))) .nil))))
    (.cons (.expr (.bmt 0 (.var 2) (.cons (.tup (.cons (.tup (.cons (.cst (.str [97, 116, 116, 114, 105, 98, 117, 116, 101])) (.cons (.cst (.str [100, 111, 99, 58, 112, 108, 97, 110])) (.cons (.idx (.cst (.str [97, 98])) (.var 4)) .nil)))) (.cons (.var 8) (.cons (.var 5) (.cons (.var 7) .nil))))) .nil)))
    .nil)))))))
    (.cons (.ret (.var 2))
    .nil)))
def f_law_facts : Fd := ⟨["_law_box", "_law_many", "_law_facts_here", "_law_turn", "_law_k", "_law_first", "_law_stretch", "_law_last", "_law_told"], 2, [], b_law_facts⟩
/-- 17: _law_turned -/
def b_law_turned : Sms := (.cons (.asg (.var 2) (.blt 5 (.cons (.var 1) .nil)))
    (.cons (.asg (.var 3) (.lst .nil))
    (.cons (.for_ (.var 4) (.rg1 (.blt 0 (.cons (.var 1) .nil))) (.cons (.asg (.var 5) (.bmt 2 (.var 2) (.cons (.cal 14 (.cons (.var 0) (.cons (.blt 0 (.cons (.var 2) .nil)) .nil))) .nil)))
    (.cons (.expr (.bmt 0 (.var 3) (.cons (.var 5) .nil)))
    (.cons (.ite (.cmp .eq (.cal 14 (.cons (.var 0) (.cons (.cst (.int 3)) .nil))) (.cst (.int 0))) (.cons (.expr (.bmt 0 (.var 3) (.cons (.idx (.var 3) (.cal 14 (.cons (.var 0) (.cons (.blt 0 (.cons (.var 3) .nil)) .nil)))) .nil)))
    .nil) .nil)
    .nil))))
    (.cons (.ret (.var 3))
    .nil))))
def f_law_turned : Fd := ⟨["_law_box", "_law_facts_here", "_law_rest", "_law_turned_here", "_law_turn", "_law_fact"], 2, [], b_law_turned⟩
/-- 18: law -/
def b_law : Sms := (.cons (.asg (.var 1) (.lst (.cons (.cal 13 (.cons (.var 0) (.cons (.cst (.int 0)) (.cons (.cst (.int 63)) .nil)))) (.cons (.cst (.int 0)) .nil))))
    (.cons (.asg (.var 2) (.cal 16 (.cons (.var 1) (.cons (.bin .add (.cst (.int 1)) (.cal 14 (.cons (.var 1) (.cons (.cst (.int 12)) .nil)))) .nil))))
    (.cons (.asg (.var 3) (.mak 3 .nil))
    (.cons (.asg (.var 4) (.mak 3 .nil))
    (.cons (.for_ (.var 5) (.sq (.var 2)) (.cons (.expr (.met (.var 3) 0 (.cons (.var 5) .nil)))
    .nil))
    (.cons (.for_ (.var 5) (.sq (.cal 17 (.cons (.var 1) (.cons (.var 2) .nil)))) (.cons (.expr (.met (.var 4) 0 (.cons (.var 5) .nil)))
    .nil))
    (.cons (.ite (.or_ (.nt (.cal 15 (.cons (.met (.var 3) 6 .nil) (.cons (.met (.var 4) 6 .nil) .nil)))) (.cmp .ne (.met (.var 3) 7 .nil) (.met (.var 4) 7 .nil))) (.cons (.ret (.cst (.bl false)))
    .nil) .nil)
    (.cons (.for_ (.var 5) (.sq (.var 2)) (.cons (.ite (.or_ (.cmp .isn (.met (.var 4) 0 (.cons (.var 5) .nil)) (.cst (.bl false))) (.cmp .isn (.met (.var 3) 0 (.cons (.var 5) .nil)) (.cst (.bl false)))) (.cons (.ret (.cst (.bl false)))
    .nil) .nil)
    (.cons (.for_ (.var 6) (.rg2 (.idx (.var 5) (.cst (.int 2))) (.bin .add (.idx (.var 5) (.cst (.int 3))) (.cst (.int 1)))) (.cons (.ite (.or_ (.nt (.cal 15 (.cons (.met (.var 4) 2 (.cons (.idx (.var 5) (.cst (.int 0))) (.cons (.var 6) .nil))) (.cons (.idx (.var 5) (.cst (.int 1))) .nil)))) (.nt (.cal 15 (.cons (.met (.var 3) 2 (.cons (.idx (.var 5) (.cst (.int 0))) (.cons (.var 6) .nil))) (.cons (.idx (.var 5) (.cst (.int 1))) .nil))))) (.cons (.ret (.cst (.bl false)))
    .nil) .nil)
    .nil))
    .nil)))
    (.cons (.ret (.an (.cmp .is (.met (.var 4) 2 (.cons (.tup (.cons (.cst (.str [97, 116, 116, 114, 105, 98, 117, 116, 101])) (.cons (.cst (.str [100, 111, 99, 58, 112, 108, 97, 110])) (.cons (.cst (.str [97])) .nil)))) (.cons (.cst (.int 30)) .nil))) (.cst .non)) (.cmp .is (.met (.var 4) 2 (.cons (.tup (.cons (.cst (.str [97, 110, 99, 101, 115, 116, 111, 114, 115])) (.cons (.cst (.str [100, 111, 99, 58, 112, 108, 97, 110])) .nil))) (.cons (.cst (.int 3)) .nil))) (.cst .non))))
    .nil)))))))))
def f_law : Fd := ⟨["_law_script", "_law_box", "_law_facts_here", "_law_one", "_law_two", "_law_fact", "_law_version"], 1, [], b_law⟩
/-- 19: Known___init__ -/
def b_Known___init : Sms := (.cons (.fset (.var 0) 1 (.dic true))
    (.cons (.fset (.var 0) 2 (.neg (.cst (.int 1))))
    .nil))
def f_Known___init : Fd := ⟨["self"], 1, [], b_Known___init⟩
/-- 20: Known_learn -/
def b_Known_learn : Sms := (.cons (.expr (.cal 10 (.cons (.var 1) .nil)))
    (.cons (.asg (.tup [2, 3, 4, 5]) (.var 1))
    (.cons (.for_ (.tup [6, 7, 8]) (.sq (.met (.var 0) 4 (.cons (.var 2) .nil))) (.cons (.ite (.an (.cmp .le (.var 6) (.var 5)) (.an (.cmp .le (.var 4) (.var 7)) (.cmp .ne (.var 8) (.var 3)))) (.cons (.rse 2 (.cons (.cst (.str s_1)) .nil))
    .nil) .nil)
    (.cons (.ite (.an (.cmp .le (.var 6) (.var 4)) (.cmp .le (.var 5) (.var 7))) (.cons (.ret (.cst (.bl false)))
    .nil) .nil)
    .nil)))
    (.cons (.sset (.fld (.var 0) 1) (.var 2) (.cal 11 (.cons (.met (.var 0) 4 (.cons (.var 2) .nil)) (.cons (.var 3) (.cons (.var 4) (.cons (.var 5) .nil))))))
    (.cons (.fset (.var 0) 2 (.blt 4 (.cons (.fld (.var 0) 2) (.cons (.var 5) .nil))))
    (.cons (.ret (.cst (.bl true)))
    .nil))))))
def f_Known_learn : Fd := ⟨["self", "fact", "read", "told", "since", "upto", "first", "last", "other"], 2, [], b_Known_learn⟩
/-- 21: Known__span_at -/
def b_Known__span_at : Sms := (.cons (.for_ (.var 3) (.sq (.met (.var 0) 4 (.cons (.var 1) .nil))) (.cons (.ite (.chn .le .le (.idx (.var 3) (.cst (.int 0))) (.var 2) (.idx (.var 3) (.cst (.int 1)))) (.cons (.ret (.var 3))
    .nil) .nil)
    .nil))
    (.cons (.ret (.cst .non))
    .nil))
def f_Known__span_at : Fd := ⟨["self", "read", "version", "span"], 3, [], b_Known__span_at⟩
/-- 22: Known_at -/
def b_Known_at : Sms := (.cons (.asg (.var 3) (.met (.var 0) 1 (.cons (.var 1) (.cons (.var 2) .nil))))
    (.cons (.ret (.ite (.cmp .is (.var 3) (.cst .non)) (.cst .non) (.idx (.var 3) (.cst (.int 2)))))
    .nil))
def f_Known_at : Fd := ⟨["self", "read", "version", "span"], 3, [], b_Known_at⟩
/-- 23: Known_span -/
def b_Known_span : Sms := (.cons (.asg (.var 3) (.met (.var 0) 1 (.cons (.var 1) (.cons (.var 2) .nil))))
    (.cons (.ret (.ite (.cmp .is (.var 3) (.cst .non)) (.cst .non) (.tup (.cons (.idx (.var 3) (.cst (.int 0))) (.cons (.idx (.var 3) (.cst (.int 1))) .nil)))))
    .nil))
def f_Known_span : Fd := ⟨["self", "read", "version", "span"], 3, [], b_Known_span⟩
/-- 24: Known_spans -/
def b_Known_spans : Sms := (.cons (.ret (.blt 5 (.cons (.bmt 3 (.fld (.var 0) 1) (.cons (.var 1) (.cons (.lst .nil) .nil))) .nil)))
    .nil)
def f_Known_spans : Fd := ⟨["self", "read"], 2, [], b_Known_spans⟩
/-- 25: Known_reads -/
def b_Known_reads : Sms := (.cons (.ret (.blt 9 (.cons (.fld (.var 0) 1) .nil)))
    .nil)
def f_Known_reads : Fd := ⟨["self"], 1, [], b_Known_reads⟩
/-- 26: Known_facts -/
def b_Known_facts : Sms := (.cons (.ret (.lc2 (.tup (.cons (.var 1) (.cons (.var 4) (.cons (.var 2) (.cons (.var 3) .nil))))) (.var 1) (.sq (.met (.var 0) 5 .nil)) (.tup [2, 3, 4]) (.sq (.idx (.fld (.var 0) 1) (.var 1))) [1, 2, 3, 4]))
    .nil)
def f_Known_facts : Fd := ⟨["self", "read", "since", "upto", "told"], 1, [], b_Known_facts⟩
/-- 27: Known_newest -/
def b_Known_newest : Sms := (.cons (.ret (.fld (.var 0) 2))
    .nil)
def f_Known_newest : Fd := ⟨["self"], 1, [], b_Known_newest⟩
abbrev i_is_name : Nat := 0
abbrev i_is_uid : Nat := 1
abbrev i_check_name : Nat := 2
abbrev i_is_rising : Nat := 3
abbrev i_is_text : Nat := 4
abbrev i_is_scalar : Nat := 5
abbrev i_scalar_before : Nat := 6
abbrev i_is_value : Nat := 7
abbrev i_is_read : Nat := 8
abbrev i_fits : Nat := 9
abbrev i_check_fact : Nat := 10
abbrev i_joined : Nat := 11
abbrev i_law_cell : Nat := 12
abbrev i_law_digits : Nat := 13
abbrev i_law_draw : Nat := 14
abbrev i_law_alike : Nat := 15
abbrev i_law_facts : Nat := 16
abbrev i_law_turned : Nat := 17
abbrev i_law : Nat := 18
abbrev i_Known___init : Nat := 19
abbrev i_Known_learn : Nat := 20
abbrev i_Known__span_at : Nat := 21
abbrev i_Known_at : Nat := 22
abbrev i_Known_span : Nat := 23
abbrev i_Known_spans : Nat := 24
abbrev i_Known_reads : Nat := 25
abbrev i_Known_facts : Nat := 26
abbrev i_Known_newest : Nat := 27
abbrev m_learn : Nat := 0
abbrev m__span_at : Nat := 1
abbrev m_at : Nat := 2
abbrev m_span : Nat := 3
abbrev m_spans : Nat := 4
abbrev m_reads : Nat := 5
abbrev m_facts : Nat := 6
abbrev m_newest : Nat := 7
abbrev fl_name : Nat := 0
abbrev fl_spans : Nat := 1
abbrev fl_newest : Nat := 2
abbrev C_FarError : Nat := 0
abbrev C_OutOfRange : Nat := 1
abbrev C_UnlikeFacts : Nat := 2
abbrev C_Known : Nat := 3
def fds : List Fd := [f_is_name, f_is_uid, f_check_name, f_is_rising, f_is_text, f_is_scalar, f_scalar_before, f_is_value, f_is_read, f_fits, f_check_fact, f_joined, f_law_cell, f_law_digits, f_law_draw, f_law_alike, f_law_facts, f_law_turned, f_law, f_Known___init, f_Known_learn, f_Known__span_at, f_Known_at, f_Known_span, f_Known_spans, f_Known_reads, f_Known_facts, f_Known_newest]
def fn : List He.DefD := [
  ⟨("is_name", none), "is_name", "is_name", L2.defArgs (top 8), L2.defBody (top 8), L2.defScope (top 8), [], []⟩,
  ⟨("is_uid", none), "is_uid", "is_uid", L2.defArgs (top 9), L2.defBody (top 9), L2.defScope (top 9), [], []⟩,
  ⟨("check_name", none), "check_name", "check_name", L2.defArgs (top 10), L2.defBody (top 10), L2.defScope (top 10), [.str "name"], []⟩,
  ⟨("is_rising", none), "is_rising", "is_rising", L2.defArgs (top 11), L2.defBody (top 11), L2.defScope (top 11), [], []⟩,
  ⟨("is_text", none), "is_text", "is_text", L2.defArgs (top 18), L2.defBody (top 18), L2.defScope (top 18), [], []⟩,
  ⟨("is_scalar", none), "is_scalar", "is_scalar", L2.defArgs (top 19), L2.defBody (top 19), L2.defScope (top 19), [], []⟩,
  ⟨("scalar_before", none), "scalar_before", "scalar_before", L2.defArgs (top 20), L2.defBody (top 20), L2.defScope (top 20), [], []⟩,
  ⟨("is_value", none), "is_value", "is_value", L2.defArgs (top 21), L2.defBody (top 21), L2.defScope (top 21), [], []⟩,
  ⟨("is_read", none), "is_read", "is_read", L2.defArgs (top 23), L2.defBody (top 23), L2.defScope (top 23), [], []⟩,
  ⟨("_fits", none), "_fits", "_fits", L2.defArgs (top 26), L2.defBody (top 26), L2.defScope (top 26), [], []⟩,
  ⟨("check_fact", none), "check_fact", "check_fact", L2.defArgs (top 27), L2.defBody (top 27), L2.defScope (top 27), [], []⟩,
  ⟨("_joined", none), "_joined", "_joined", L2.defArgs (top 28), L2.defBody (top 28), L2.defScope (top 28), [], []⟩,
  ⟨("_law_cell", none), "_law_cell", "_law_cell", L2.defArgs (top 31), L2.defBody (top 31), L2.defScope (top 31), [], []⟩,
  ⟨("_law_digits", none), "_law_digits", "_law_digits", L2.defArgs (top 32), L2.defBody (top 32), L2.defScope (top 32), [], []⟩,
  ⟨("_law_draw", none), "_law_draw", "_law_draw", L2.defArgs (top 33), L2.defBody (top 33), L2.defScope (top 33), [], []⟩,
  ⟨("_law_alike", none), "_law_alike", "_law_alike", L2.defArgs (top 34), L2.defBody (top 34), L2.defScope (top 34), [], []⟩,
  ⟨("_law_facts", none), "_law_facts", "_law_facts", L2.defArgs (top 35), L2.defBody (top 35), L2.defScope (top 35), [], []⟩,
  ⟨("_law_turned", none), "_law_turned", "_law_turned", L2.defArgs (top 36), L2.defBody (top 36), L2.defScope (top 36), [], []⟩,
  ⟨("law", none), "law", "law", L2.defArgs (top 37), L2.defBody (top 37), L2.defScope (top 37), [], []⟩,
  ⟨("Known", some "__init__"), "__init__", "Known.__init__", L2.defArgs (L2.inClass (top 29) 0), L2.defBody (L2.inClass (top 29) 0), L2.defScope (L2.inClass (top 29) 0), [], []⟩,
  ⟨("Known", some "learn"), "learn", "Known.learn", L2.defArgs (L2.inClass (top 29) 1), L2.defBody (L2.inClass (top 29) 1), L2.defScope (L2.inClass (top 29) 1), [], []⟩,
  ⟨("Known", some "_span_at"), "_span_at", "Known._span_at", L2.defArgs (L2.inClass (top 29) 2), L2.defBody (L2.inClass (top 29) 2), L2.defScope (L2.inClass (top 29) 2), [], []⟩,
  ⟨("Known", some "at"), "at", "Known.at", L2.defArgs (L2.inClass (top 29) 3), L2.defBody (L2.inClass (top 29) 3), L2.defScope (L2.inClass (top 29) 3), [], []⟩,
  ⟨("Known", some "span"), "span", "Known.span", L2.defArgs (L2.inClass (top 29) 4), L2.defBody (L2.inClass (top 29) 4), L2.defScope (L2.inClass (top 29) 4), [], []⟩,
  ⟨("Known", some "spans"), "spans", "Known.spans", L2.defArgs (L2.inClass (top 29) 5), L2.defBody (L2.inClass (top 29) 5), L2.defScope (L2.inClass (top 29) 5), [], []⟩,
  ⟨("Known", some "reads"), "reads", "Known.reads", L2.defArgs (L2.inClass (top 29) 6), L2.defBody (L2.inClass (top 29) 6), L2.defScope (L2.inClass (top 29) 6), [], []⟩,
  ⟨("Known", some "facts"), "facts", "Known.facts", L2.defArgs (L2.inClass (top 29) 7), L2.defBody (L2.inClass (top 29) 7), L2.defScope (L2.inClass (top 29) 7), [], []⟩,
  ⟨("Known", some "newest"), "newest", "Known.newest", L2.defArgs (L2.inClass (top 29) 8), L2.defBody (L2.inClass (top 29) 8), L2.defScope (L2.inClass (top 29) 8), [], []⟩]
def xin : List (Nat × He.DefD) := [(1, ⟨("OutOfRange", some "__init__"), "__init__", "OutOfRange.__init__", L2.defArgs (L2.inClass (top 3) 0), L2.defBody (L2.inClass (top 3) 0), L2.defScope (L2.inClass (top 3) 0), [], []⟩)]
def tb : Tb := ⟨["is_name", "is_uid", "check_name", "is_rising", "is_text", "is_scalar", "scalar_before", "is_value", "is_read", "_fits", "check_fact", "_joined", "_law_cell", "_law_digits", "_law_draw", "_law_alike", "_law_facts", "_law_turned", "law"],
  ["FarError", "OutOfRange", "UnlikeFacts", "Known"],
  ["learn", "_span_at", "at", "span", "spans", "reads", "facts", "newest"],
  ["name", "_spans", "_newest"],
  [("NAME_MOST", (.int 12)), ("NAME_SIGNS", (.str s_0)), ("NUMBER_MOST", (.int 1000000)), ("TEXT_MOST", (.int 40)), ("SET_MOST", (.int 8)), ("UNFIT", (.ktu [(.int 34), (.int 37)])), ("RANKS", (.ktu [(.str [116, 114, 117, 116, 104]), (.str [110, 117, 109, 98, 101, 114]), (.str [116, 101, 120, 116]), (.str [101, 110, 116, 105, 116, 121])])), ("VERSION_MOST", (.int 100000))],
  [0, 1, 2]⟩
def pd : PD := ⟨tb, fds, fn, [(3, 0, 20), (3, 1, 21), (3, 2, 22), (3, 3, 23), (3, 4, 24), (3, 5, 25), (3, 6, 26), (3, 7, 27)], [(3, 19)], [(0, 0), (1, 0), (1, 1), (2, 0), (2, 2)], [(3, 1), (3, 2)], [(1, [0])], xin⟩
abbrev PP (n : Nat) : Pm := pd.pr.at n
@[simp] theorem mth_3_0 (n : Nat) : (PP n).mth 3 0 = some 20 := by rw [Pr.at_mth]; rfl
@[simp] theorem mth_3_1 (n : Nat) : (PP n).mth 3 1 = some 21 := by rw [Pr.at_mth]; rfl
@[simp] theorem mth_3_2 (n : Nat) : (PP n).mth 3 2 = some 22 := by rw [Pr.at_mth]; rfl
@[simp] theorem mth_3_3 (n : Nat) : (PP n).mth 3 3 = some 23 := by rw [Pr.at_mth]; rfl
@[simp] theorem mth_3_4 (n : Nat) : (PP n).mth 3 4 = some 24 := by rw [Pr.at_mth]; rfl
@[simp] theorem mth_3_5 (n : Nat) : (PP n).mth 3 5 = some 25 := by rw [Pr.at_mth]; rfl
@[simp] theorem mth_3_6 (n : Nat) : (PP n).mth 3 6 = some 26 := by rw [Pr.at_mth]; rfl
@[simp] theorem mth_3_7 (n : Nat) : (PP n).mth 3 7 = some 27 := by rw [Pr.at_mth]; rfl
@[simp] theorem ini_3 (n : Nat) : (PP n).ini 3 = some 19 := by rw [Pr.at_ini]; rfl
@[simp] theorem fok_3_1 (n : Nat) : (PP n).fok 3 1 = true := by rw [Pr.at_fok]; rfl
@[simp] theorem fok_3_2 (n : Nat) : (PP n).fok 3 2 = true := by rw [Pr.at_fok]; rfl
@[simp] theorem xfs_0 (n : Nat) : (PP n).xfs 0 = [] := by rw [Pr.at_xfs]; rfl
@[simp] theorem sub_0_0 (n : Nat) : (PP n).sub 0 0 = true := by rw [Pr.at_sub]; rfl
@[simp] theorem sub_0_1 (n : Nat) : (PP n).sub 0 1 = false := by rw [Pr.at_sub]; rfl
@[simp] theorem sub_0_2 (n : Nat) : (PP n).sub 0 2 = false := by rw [Pr.at_sub]; rfl
@[simp] theorem xfs_1 (n : Nat) : (PP n).xfs 1 = [0] := by rw [Pr.at_xfs]; rfl
@[simp] theorem sub_1_0 (n : Nat) : (PP n).sub 1 0 = true := by rw [Pr.at_sub]; rfl
@[simp] theorem sub_1_1 (n : Nat) : (PP n).sub 1 1 = true := by rw [Pr.at_sub]; rfl
@[simp] theorem sub_1_2 (n : Nat) : (PP n).sub 1 2 = false := by rw [Pr.at_sub]; rfl
@[simp] theorem xfs_2 (n : Nat) : (PP n).xfs 2 = [] := by rw [Pr.at_xfs]; rfl
@[simp] theorem sub_2_0 (n : Nat) : (PP n).sub 2 0 = true := by rw [Pr.at_sub]; rfl
@[simp] theorem sub_2_1 (n : Nat) : (PP n).sub 2 1 = false := by rw [Pr.at_sub]; rfl
@[simp] theorem sub_2_2 (n : Nat) : (PP n).sub 2 2 = true := by rw [Pr.at_sub]; rfl
end L
end Fv

namespace Fv
namespace L
theorem stat_ok : pd.stat = true := by kernel_rfl
theorem fld_ok : fldOk pd.T.fld = true := by kernel_rfl
end L
end Fv

set_option Elab.async false
set_option linter.all false
set_option maxRecDepth 100000
set_option maxHeartbeats 0
namespace Fv
namespace L
open PySem PySem.Spec PyProof.Rows L2
abbrev R : PySem.W.OpenRow := PySem.W.OpenLaw.row PySem.Challenge.rw_farfacts_k50_order_of_facts_does_not_mat
def loose0 : List Str := ["_wall", "FarError", "OutOfRange", "UnlikeFacts", "NAME_MOST", "NAME_SIGNS", "is_name", "is_uid", "check_name", "is_rising", "NUMBER_MOST", "TEXT_MOST", "SET_MOST", "UNFIT", "RANKS", "is_text", "is_scalar", "scalar_before", "is_value", "is_read", "VERSION_MOST", "_fits", "check_fact", "_joined", "Known", "_law_cell", "_law_digits", "_law_draw", "_law_alike", "_law_facts"]
def loose1 : List Str := ["_law_turned"]
def loose : List Str := loose0 ++ loose1
theorem run (w : World) : HandSHeadRun.RunEq R (PySem.W.view R.prog [37]) (pd.hook 5) (pd.ob 5) 6000 loose w := by
  intro os
  kernel_rfl
end L
end Fv

set_option Elab.async false
set_option linter.all false
set_option maxRecDepth 100000
set_option maxHeartbeats 4000000
namespace Fv
theorem su_app {S : Store} {a b : PySem.Addr} {c : Cell} : su S a c b = if b = a then some c else S b := rfl
namespace L
theorem call_eq {n f : Nat} {d : Fd} {vs : List D} {S : Store} {Q : QD} {E : QX} (h : pd.fds[f]? = some d) (l : vs.length ≤ d.ar ∧ d.ar ≤ vs.length + d.dfl.length) (w : wpSs (PP n) d.body (d.start (d.full vs)) S (kBody Q E)) : (PP (n + 1)).call f vs S Q E := by
  show (match pd.fds[f]? with | some d => _ | none => _)
  rw [h]
  exact ⟨l, w⟩
theorem c_cell {n : Nat} {ns : List Int} {k : Nat} {S : Store} {Q : QD} {E : QX} (q : ∀ r : Int, Q (.int r) S) : (PP (n + 1)).call i_law_cell [.rl (ns.map .int), .int k] S Q E := by
  refine call_eq rfl ⟨Nat.le_refl _, Nat.le_refl _⟩ ?_
  simp [f_law_cell, b_law_cell, Fd.start, Fd.full, kBody]
  split
  · rename_i h
    rw [atI_nat]
    simp [h]
    exact q _
  · exact q _
theorem c_draw {n : Nat} {b dl : PySem.Addr} {ds : List Int} {at_ many : Int} {S : Store} {Q : QD} {E : QX} (hb : S b = some (.lst [.ref dl, .int at_])) (hd : S dl = some (.lst (ds.map .int))) (hne : dl ≠ b) (h0 : 0 ≤ at_) (hm : 0 < many) (q : ∀ r : Int, 0 ≤ r → r < many → Q (.int r) (su S b (.lst [.ref dl, .int (at_ + 1)]))) : (PP (n + 1)).call i_law_draw [.ref b, .int many] S Q E := by
  refine call_eq rfl ⟨Nat.le_refl _, Nat.le_refl _⟩ ?_
  have hx : L2.ixN 2 1 = some 1 := by decide
  simp [f_law_draw, b_law_draw, Fd.start, Fd.full, kBody, wpIdx, hb, hd, setC, hx, su_app, wpBlt, hne]
  obtain ⟨k, rfl⟩ : ∃ k : Nat, at_ = k := ⟨at_.toNat, by omega⟩
  have m1 : ∀ x : Int, Q (.int (x % many)) (su S b (.lst [.ref dl, .int (k + 1)])) := fun x => q _ (Int.emod_nonneg _ (by omega)) (Int.emod_lt_of_pos _ hm)
  split
  · rename_i h
    rw [atI_nat]
    simp at h
    simp [h, hm]
    exact m1 _
  · refine ⟨.inr (by decide), hm, m1 _⟩
end L
end Fv

set_option Elab.async false
set_option linter.all false
set_option maxRecDepth 100000
set_option maxHeartbeats 4000000
namespace Fv
theorem rngL_get {i j : Int} {n : Nat} {d : D} (h : (rngL i j)[n]? = some d) : d = .int (i + n) ∧ i + n < j := by
  unfold rngL at h
  rw [List.getElem?_map] at h
  rcases Nat.lt_or_ge n (j - i).toNat with z | z
  · rw [List.getElem?_range z] at h
    simp only [Option.map_some, Option.some.injEq] at h
    exact ⟨h.symm, by omega⟩
  · rw [List.getElem?_eq_none (by simpa using z)] at h
    cases h
theorem rngL_len {i j : Int} : (rngL i j).length = (j - i).toNat := by simp [rngL]
theorem su_su {S : Store} {a : PySem.Addr} {c d : Cell} : su (su S a c) a d = su S a d := by
  funext b
  simp only [su_app]
  split <;> rfl
namespace L
theorem c_digits {n : Nat} {ns : List Int} {S : Store} {Q : QD} {E : QX} (q : ∀ p, S p = none → ∀ ds : List Int, Q (.ref p) (su S p (.lst (ds.map .int)))) : (PP (n + 2)).call i_law_digits [.rl (ns.map .int), .int 0, .int 63] S Q E := by
  refine call_eq rfl ⟨Nat.le_refl _, Nat.le_refl _⟩ ?_
  simp [f_law_digits, b_law_digits, Fd.start, Fd.full, kBody]
  intro p hp
  have r0 : r62 0 := by unfold r62; omega
  have r63 : r62 63 := by unfold r62; omega
  have r60 : r62 60 := by unfold r62; omega
  have r12 : r62 12 := by unfold r62; omega
  refine ⟨⟨r0, r63⟩, ?_⟩
  refine forW_inv (fun i σ S' => ∃ ds : List Int, S' = su S p (.lst (ds.map .int)) ∧ ds.length ≤ 60 * i ∧ ∃ o4 o5 o6 o7, σ = [some (.rl (ns.map .int)), some (.int 0), some (.int 63), some (.ref p), o4, o5, o6, o7]) ⟨[], rfl, Nat.le_refl _, _, _, _, _, rfl⟩ ?_ ?_
  · rintro i d σ S' X hd ⟨ds, rfl, hl, o4, o5, o6, o7, rfl⟩ hX
    obtain ⟨rfl, hi⟩ := rngL_get hd
    refine ⟨trivial, ?_⟩
    have e : (0 : Int) + (i : Int) = (i : Int) := by omega
    rw [e] at hi ⊢
    simp
    refine c_cell fun c => ?_
    have m2 : sml 2 := by decide
    have m3 : sml 40692 := by decide
    have m4 : sml 52774 := by decide
    have m5 : sml 40014 := by decide
    have m6 : sml 5 := by decide
    have i12 : i < 63 := by omega
    have i1 : ∀ j : Nat, ds.length ≤ 60 * i + j → j ≤ 60 → ds.length < LIM + 0 := fun j h k => by unfold LIM; omega
    simp
    split
    all_goals simp [m2, m3, m4, m5, m6, r60, r12]
    all_goals split
    case' isTrue.isTrue | isFalse.isTrue =>
      refine forW_inv (fun j σ S' => ∃ (ds : List Int) (c : Int) (o6 : Option D), S' = su S p (.lst (ds.map .int)) ∧ ds.length ≤ 60 * i + j ∧ σ = [some (.rl (ns.map .int)), some (.int 0), some (.int 63), some (.ref p), some (.int i), some (.int c), o6, o7]) ⟨ds, _, o6, rfl, by omega, rfl⟩ ?_ ?_
      · rintro j d σ S' Y hd ⟨ds, c, o6, rfl, hl, rfl⟩ hY
        obtain ⟨rfl, hj⟩ := rngL_get hd
        refine ⟨trivial, ?_⟩
        simp [kindAt, mOk, wpBmt]
        split
        · refine ⟨by unfold LIM; omega, ?_⟩
          exact hY _ _ ⟨ds ++ [c % 1000], c / 1000, _, by simp [su_su], by simp; omega, rfl⟩
        · exact hY _ _ ⟨ds, c, _, rfl, by omega, rfl⟩
      · rintro σ S' ⟨ds, c, o6, rfl, hl, rfl⟩
        refine ⟨trivial, hX _ _ ⟨ds, rfl, ?_, _, _, _, _, rfl⟩⟩
        rw [rngL_len] at hl
        simp at hl
        omega
    all_goals
      refine forW_inv (fun j σ S' => ∃ (ds : List Int) (c s : Int) (o6 : Option D), S' = su S p (.lst (ds.map .int)) ∧ ds.length ≤ 60 * i + j ∧ σ = [some (.rl (ns.map .int)), some (.int 0), some (.int 63), some (.ref p), some (.int i), some (.int c), o6, some (.int s)]) ⟨ds, _, _, o6, rfl, by omega, rfl⟩ ?_ ?_
      · rintro j d σ S' Y hd ⟨ds, c, s, o6, rfl, hl, rfl⟩ hY
        obtain ⟨rfl, hj⟩ := rngL_get hd
        refine ⟨trivial, ?_⟩
        simp [kindAt, mOk, wpBmt, m5, m6]
        refine ⟨by unfold LIM; omega, ?_⟩
        exact hY _ _ ⟨ds ++ [_], _, _, _, by simp [su_su]; rfl, by simp; omega, rfl⟩
      · rintro σ S' ⟨ds, c, s, o6, rfl, hl, rfl⟩
        refine ⟨trivial, hX _ _ ⟨ds, rfl, ?_, _, _, _, _, rfl⟩⟩
        rw [rngL_len] at hl
        simp at hl
        omega
  · rintro σ S' ⟨ds, rfl, hl, o4, o5, o6, o7, rfl⟩
    refine ⟨trivial, ?_⟩
    simp
    exact q p hp ds
end L
end Fv

set_option Elab.async false
set_option linter.all false
set_option maxRecDepth 100000
set_option maxHeartbeats 4000000
namespace Fv
open PySem (Addr)
theorem Keep.drop {A : List Addr} {p : Addr} {S S' : Store} (h : Keep (p :: A) S S') (n : S p = none) : Keep A S S' := fun a ha c e => h a (by
  intro z
  rcases List.mem_cons.mp z with rfl | z
  · rw [n] at e; cases e
  · exact ha z) c e
theorem Keep.at {A : List Addr} {S S' : Store} {a : Addr} {c : Cell} (h : Keep A S S') (e : S a = some c) (n : a ∉ A) : S' a = some c := h a n c e
namespace L
def Box (S : Store) (b dl : Addr) : Prop := ∃ (at_ : Int) (ds : List Int), S b = some (.lst [.ref dl, .int at_]) ∧ 0 ≤ at_ ∧ S dl = some (.lst (ds.map .int)) ∧ dl ≠ b
theorem Box.keep {S S' : Store} {b dl : Addr} {A : List Addr} (h : Box S b dl) (k : Keep A S S') (n : b ∉ A) (m : dl ∉ A) : Box S' b dl := by
  obtain ⟨i, ds, h1, h2, h3, h4⟩ := h
  exact ⟨i, ds, k.at h1 n, h2, k.at h3 m, h4⟩
theorem c_draw' {n : Nat} {b dl : Addr} {many : Int} {S : Store} {Q : QD} {E : QX} (h : Box S b dl) (hm : 0 < many) (q : ∀ (r : Int) S', 0 ≤ r → r < many → Box S' b dl → Keep [b] S S' → Q (.int r) S') : (PP (n + 1)).call i_law_draw [.ref b, .int many] S Q E := by
  obtain ⟨i, ds, h1, h2, h3, h4⟩ := h
  refine c_draw h1 h3 h4 h2 hm fun r r0 r1 => q r _ r0 r1 ⟨i + 1, ds, su_same, by omega, by rw [su_ne h4]; exact h3, h4⟩ Keep.put
def s_at : List Nat := [97, 116, 116, 114, 105, 98, 117, 116, 101]
def s_dp : List Nat := [100, 111, 99, 58, 112, 108, 97, 110]
def s_val : List Nat := [118, 97, 108, 117, 101]
def s_num : List Nat := [110, 117, 109, 98, 101, 114]
def rd (b : Bool) : D := .tup [.str s_at, .str s_dp, .str [if b then 98 else 97]]
def tl (v : Int) : D := .tup [.str s_val, .tup [.str s_num, .int v]]
/-- what is told of a version -/
def tv (b : Bool) (v : Int) : Int := if b then 0 else v / 10
structure F1 where
  b : Bool
  s : Int
  u : Int
def F1.d (f : F1) : D := .tup [rd f.b, tl (tv f.b f.s), .int f.s, .int f.u]
def F1.ok (f : F1) : Prop := 0 ≤ f.s ∧ f.s < 30 ∧ f.s ≤ f.u ∧ f.u ≤ 10 * (f.s / 10) + 9
theorem c_facts {n : Nat} {b dl : Addr} {many : Int} {S : Store} {Q : QD} {E : QX} (h : Box S b dl) (hm : 0 ≤ many ∧ many < 1000) (q : ∀ p S' (fs : List F1), S p = none → Box S' b dl → Keep [b] S S' → S' p = some (.lst (fs.map F1.d)) → (∀ f ∈ fs, f.ok) → (fs.length : Int) = many → Q (.ref p) S') : (PP (n + 2)).call i_law_facts [.ref b, .int many] S Q E := by
  refine call_eq rfl ⟨Nat.le_refl _, Nat.le_refl _⟩ ?_
  simp [f_law_facts, b_law_facts, Fd.start, Fd.full, kBody]
  intro p hp
  refine ⟨by unfold r62; omega, ?_⟩
  have hb : ∃ c, S b = some c := by obtain ⟨_, _, h1, _⟩ := h; exact ⟨_, h1⟩
  have hd : ∃ c, S dl = some c := by obtain ⟨_, _, _, _, h1, _⟩ := h; exact ⟨_, h1⟩
  obtain ⟨cb, hb⟩ := hb
  obtain ⟨cd, hd⟩ := hd
  have npb : p ≠ b := fun e => by subst e; rw [hp] at hb; cases hb
  have npd : p ≠ dl := fun e => by subst e; rw [hp] at hd; cases hd
  have h0 : Box (su S p (.lst [])) b dl := h.keep (Keep.new (A := []) hp) (by simp) (by simp)
  refine forW_inv (fun i σ S' => ∃ fs : List F1, Box S' b dl ∧ Keep [b, p] S S' ∧ S' p = some (.lst (fs.map F1.d)) ∧ (∀ f ∈ fs, f.ok) ∧ fs.length = i ∧ ∃ o3 o4 o5 o6 o7 o8, σ = [some (.ref b), some (.int many), some (.ref p), o3, o4, o5, o6, o7, o8]) ⟨[], h0, Keep.new hp, by simp, by simp, rfl, _, _, _, _, _, _, rfl⟩ ?_ ?_
  · rintro i d σ S' X hd ⟨fs, hB, hK, hP, ho, hl, o3, o4, o5, o6, o7, o8, rfl⟩ hX
    obtain ⟨rfl, hj⟩ := rngL_get hd
    refine ⟨trivial, ?_⟩
    simp
    refine c_draw' hB (by decide) fun k S1 k0 k1 hB1 hK1 => ?_
    simp
    refine c_draw' hB1 (by decide) fun f S2 f0 f1 hB2 hK2 => ?_
    simp
    have m10 : sml 10 := by decide
    simp [m10]
    refine c_draw' hB2 (by decide) fun g S3 g0 g1 hB3 hK3 => ?_
    have e3 : S3 p = some (.lst (fs.map F1.d)) := hK3.at (hK2.at (hK1.at hP (by simp [npb])) (by simp [npb])) (by simp [npb])
    have kk : sml (1 - k) := by unfold sml; omega
    have ki : ∃ kb : Bool, k = if kb then 1 else 0 := by
      rcases Int.lt_or_le 0 k with z | z
      · exact ⟨true, by simp; omega⟩
      · exact ⟨false, by simp; omega⟩
    obtain ⟨kb, rfl⟩ := ki
    have l5 : ∀ x : Nat, x ≤ 5 → x ≤ LIM := fun x hx => by unfold LIM; omega
    simp [l5]
    refine ⟨.inr kk, ?_⟩
    have fin : ∀ (F : D) (σ9 : Ev), (∃ o3 o4 o5 o6 o7 o8, σ9 = [some (.ref b), some (.int many), some (.ref p), o3, o4, o5, o6, o7, o8]) → F = F1.d ⟨kb, f, if f + g < 10 * (f / 10) + 9 then f + g else 10 * (f / 10) + 9⟩ → wpBmt 0 (.ref p) [F] S3 (fun x S1 => X σ9 S1) := by
      rintro F σ9 ⟨o3, o4, o5, o6, o7, o8, rfl⟩ rfl
      refine append_lst e3 (by rw [List.length_map]; unfold LIM; omega) ?_
      refine hX _ _ ⟨fs ++ [⟨kb, f, if f + g < 10 * (f / 10) + 9 then f + g else 10 * (f / 10) + 9⟩], hB3.keep (Keep.put (p := p)) (by simp; exact npb.symm) (by simp; exact npd.symm), ?_, ?_, ?_, ?_, _, _, _, _, _, _, rfl⟩
      · exact ((((hK.trans (hK1.mono (by simp))).trans (hK2.mono (by simp))).trans (hK3.mono (by simp))).trans (Keep.putIn (by simp)))
      · rw [su_same, List.map_append]
        rfl
      · intro x hx
        rcases List.mem_append.mp hx with z | z
        · exact ho x z
        · simp at z
          subst z
          unfold F1.ok
          refine ⟨f0, f1, ?_, ?_⟩ <;> (simp only; split <;> omega)
      · simp; omega
    have hk : mOk 0 (kindAt S3 (.ref p)) = true := by simp [kindAt, e3, mOk]
    refine ⟨hk, ?_⟩
    cases kb
    · simp [wpIdx, L2.atI, L2.ixN]
      exact ⟨l5 _ (by decide), fin _ _ ⟨_, _, _, _, _, _, rfl⟩ (by simp [F1.d, rd, tl, tv, s_at, s_dp, s_val, s_num])⟩
    · simp [wpIdx, L2.atI, L2.ixN]
      exact ⟨l5 _ (by decide), fin _ _ ⟨_, _, _, _, _, _, rfl⟩ (by simp [F1.d, rd, tl, tv, s_at, s_dp, s_val, s_num])⟩
  · rintro σ S' ⟨fs, hB, hK, hP, ho, hl, o3, o4, o5, o6, o7, o8, rfl⟩
    refine ⟨trivial, ?_⟩
    simp
    refine q p S' fs hp hB ?_ hP ho ?_
    · refine Keep.drop (p := p) (hK.mono (by simp)) hp
    · rw [rngL_len] at hl
      omega
end L
end Fv

set_option Elab.async false
set_option linter.all false
set_option maxRecDepth 100000
set_option maxHeartbeats 4000000
namespace Fv
open PySem (Addr)
theorem mem_eraseIdx_or {α : Type} {l : List α} {k : Nat} {x : α} (h : l[k]? = some x) (y : α) : y ∈ l ↔ y ∈ l.eraseIdx k ∨ y = x := by
  obtain ⟨hk, e⟩ := List.getElem?_eq_some_iff.mp h
  constructor
  · intro hy
    by_cases z : y = x
    · exact .inr z
    · obtain ⟨j, hj⟩ := List.mem_iff_getElem?.mp hy
      left
      rw [List.mem_eraseIdx_iff_getElem?]
      refine ⟨j, ?_, hj⟩
      rintro rfl
      rw [h] at hj
      exact z (Option.some.inj hj).symm
  · rintro (hy | rfl)
    · exact List.mem_of_mem_eraseIdx hy
    · exact List.mem_of_getElem? h
theorem map_eraseIdx {α β : Type} (f : α → β) : ∀ (l : List α) (k : Nat), (l.map f).eraseIdx k = (l.eraseIdx k).map f
  | [], _ => by simp
  | a :: l, 0 => by simp
  | a :: l, k + 1 => by simp [map_eraseIdx f l k]
theorem pop_lst {a : Addr} {ds : List D} {k : Nat} {d : D} {S : Store} {Q : QD} (h : S a = some (.lst ds)) (e : ds[k]? = some d) (q : Q d (su S a (.lst (ds.eraseIdx k)))) : wpBmt 2 (.ref a) [.int k] S Q := by
  simp only [wpBmt, h, Int.toNat_natCast, e]
  exact ⟨by omega, q⟩
namespace L
theorem c_turned {n : Nat} {a b dl : Addr} {fs : List F1} {S : Store} {Q : QD} {E : QX} (h : Box S b dl) (ha : S a = some (.lst (fs.map F1.d))) (hab : a ≠ b) (hl : fs.length < 1000) (q : ∀ p S' (ts : List F1), S p = none → Box S' b dl → Keep [b] S S' → S' p = some (.lst (ts.map F1.d)) → (∀ x, x ∈ ts ↔ x ∈ fs) → Q (.ref p) S') : (PP (n + 2)).call i_law_turned [.ref b, .ref a] S Q E := by
  refine call_eq rfl ⟨Nat.le_refl _, Nat.le_refl _⟩ ?_
  simp [f_law_turned, b_law_turned, Fd.start, Fd.full, kBody]
  refine list_lst ha fun r hr => ?_
  intro t ht
  have hb : ∃ c, S b = some c := by obtain ⟨_, _, h1, _⟩ := h; exact ⟨_, h1⟩
  have hd : ∃ c, S dl = some c := by obtain ⟨_, _, _, _, h1, _⟩ := h; exact ⟨_, h1⟩
  obtain ⟨cb, hb⟩ := hb
  obtain ⟨cd, hd⟩ := hd
  have rb : b ≠ r := ne_new hb hr
  have rd_ : dl ≠ r := ne_new hd hr
  have ra : a ≠ r := ne_new ha hr
  have tr : r ≠ t := ne_new (c := .lst (fs.map F1.d)) su_same ht
  have ht' : S t = none := by rw [su_ne tr.symm] at ht; exact ht
  have tb : b ≠ t := ne_new hb ht'
  have td : dl ≠ t := ne_new hd ht'
  have ta : a ≠ t := ne_new ha ht'
  have k0 : Keep [b, r, t] S (su (su S r (.lst (fs.map F1.d))) t (.lst [])) := (Keep.new hr).trans (Keep.new ht)
  refine len_lst (a := a) (ds := fs.map F1.d) (by rw [su_ne ta, su_ne ra]; exact ha) ?_
  simp
  refine ⟨by unfold r62; omega, ?_⟩
  refine forW_inv (fun i σ S' => ∃ rest tur : List F1, Box S' b dl ∧ Keep [b, r, t] S S' ∧ S' r = some (.lst (rest.map F1.d)) ∧ S' t = some (.lst (tur.map F1.d)) ∧ rest.length + i = fs.length ∧ tur.length ≤ 2 * i ∧ (∀ x, x ∈ rest ∨ x ∈ tur ↔ x ∈ fs) ∧ ∃ o4 o5, σ = [some (.ref b), some (.ref a), some (.ref r), some (.ref t), o4, o5]) ⟨fs, [], h.keep ((Keep.new (A := []) hr).trans (Keep.new ht)) (by simp) (by simp), k0, by rw [su_ne tr]; exact su_same, su_same, rfl, by simp, by simp, _, _, rfl⟩ ?_ ?_
  · rintro i d σ S' X hd ⟨rest, tur, hB, hK, hR, hT, lr, lt, hm, o4, o5, rfl⟩ hX
    obtain ⟨rfl, hj⟩ := rngL_get hd
    refine ⟨trivial, ?_⟩
    have kr : ∀ S, (∃ ds, S r = some (.lst ds)) → kindAt S (.ref r) = 2 := fun S => by rintro ⟨ds, e⟩; simp [kindAt, e]
    have kt : ∀ S, (∃ ds, S t = some (.lst ds)) → kindAt S (.ref t) = 2 := fun S => by rintro ⟨ds, e⟩; simp [kindAt, e]
    simp [kr S' ⟨_, hR⟩, mOk]
    refine len_lst hR ?_
    simp
    refine c_draw' hB (by omega) fun k S1 k0 k1 hB1 hK1 => ?_
    have hR1 := hK1.at hR (by simp [rb.symm])
    have hT1 := hK1.at hT (by simp [tb.symm])
    refine ⟨kr _ ⟨_, hR1⟩, ?_⟩
    obtain ⟨k, rfl⟩ : ∃ m : Nat, k = m := ⟨k.toNat, by omega⟩
    have hk : k < rest.length := by omega
    refine pop_lst hR1 (d := F1.d rest[k]) (by simp [hk]) ?_
    have kt1 : kindAt (su S1 r (.lst ((rest.map F1.d).eraseIdx k))) (.ref t) = 2 := kt _ ⟨_, by rw [su_ne tr.symm]; exact hT1⟩
    simp [kt1, mOk]
    have hT2 : (su S1 r (.lst ((rest.map F1.d).eraseIdx k))) t = some (.lst (tur.map F1.d)) := by rw [su_ne tr.symm]; exact hT1
    refine append_lst hT2 (by rw [List.length_map]; unfold LIM; omega) ?_
    have ed : F1.d (rest[k]) = F1.d rest[k] := rfl
    have hT3 : (tur.map F1.d) ++ [F1.d rest[k]] = (tur ++ [rest[k]]).map F1.d := by simp
    have hR3 : (rest.map F1.d).eraseIdx k = (rest.eraseIdx k).map F1.d := map_eraseIdx _ _ _
    rw [hT3, hR3]
    have hB3 : Box (su (su S1 r (.lst ((rest.eraseIdx k).map F1.d))) t (.lst ((tur ++ [rest[k]]).map F1.d))) b dl := hB1.keep (A := [r, t]) ((Keep.putIn (by simp)).trans (Keep.putIn (by simp))) (by simp [rb, tb]) (by simp [rd_, td])
    have hK3 : Keep [b, r, t] S (su (su S1 r (.lst ((rest.eraseIdx k).map F1.d))) t (.lst ((tur ++ [rest[k]]).map F1.d))) := ((hK.trans (hK1.mono (by simp))).trans (Keep.putIn (by simp))).trans (Keep.putIn (by simp))
    have hR4 : (su (su S1 r (.lst ((rest.eraseIdx k).map F1.d))) t (.lst ((tur ++ [rest[k]]).map F1.d))) r = some (.lst ((rest.eraseIdx k).map F1.d)) := by rw [su_ne tr]; exact su_same
    have hT4 : (su (su S1 r (.lst ((rest.eraseIdx k).map F1.d))) t (.lst ((tur ++ [rest[k]]).map F1.d))) t = some (.lst ((tur ++ [rest[k]]).map F1.d)) := su_same
    have hm3 : ∀ x, x ∈ rest.eraseIdx k ∨ x ∈ tur ++ [rest[k]] ↔ x ∈ fs := fun x => by
      rw [← hm x]
      have := mem_eraseIdx_or (l := rest) (k := k) (x := rest[k]) (List.getElem?_eq_getElem hk) x
      rw [this]
      simp only [List.mem_append, List.mem_singleton]
      constructor
      · rintro (h | h | h)
        · exact .inl (.inl h)
        · exact .inr h
        · exact .inl (.inr h)
      · rintro ((h | h) | h)
        · exact .inl h
        · exact .inr (.inr h)
        · exact .inr (.inl h)
    have lr3 : (rest.eraseIdx k).length + (i + 1) = fs.length := by rw [List.length_eraseIdx_of_lt hk]; omega
    generalize (su (su S1 r (.lst ((rest.eraseIdx k).map F1.d))) t (.lst ((tur ++ [rest[k]]).map F1.d))) = S3 at *
    have lt3 : (tur ++ [rest[k]]).length ≤ 2 * i + 1 := by simp; omega
    have l0 : 0 < (tur ++ [rest[k]]).length := by simp
    generalize tur ++ [rest[k]] = tu at *
    generalize rest.eraseIdx k = re at *
    refine c_draw' hB3 (by decide) fun j S4 j0 j1 hB4 hK4 => ?_
    have hR5 := hK4.at hR4 (by simp [rb.symm])
    have hT5 := hK4.at hT4 (by simp [tb.symm])
    simp
    split
    · simp [kt S4 ⟨_, hT5⟩]
      refine len_lst hT5 ?_
      simp
      refine c_draw' hB4 (by omega) fun g S6 g0 g1 hB6 hK6 => ?_
      have hR6 := hK6.at hR5 (by simp [rb.symm])
      have hT6 := hK6.at hT5 (by simp [tb.symm])
      obtain ⟨g, rfl⟩ : ∃ m : Nat, g = m := ⟨g.toNat, by omega⟩
      have hg : g < tu.length := by omega
      refine idx_lst hT6 (d := F1.d tu[g]) (by rw [atI_nat]; simp [hg]) ?_
      simp [kt S6 ⟨_, hT6⟩]
      refine append_lst hT6 (by rw [List.length_map]; unfold LIM; omega) ?_
      have e7 : (tu.map F1.d) ++ [F1.d tu[g]] = (tu ++ [tu[g]]).map F1.d := by simp
      rw [e7]
      refine hX _ _ ⟨re, tu ++ [tu[g]], hB6.keep (Keep.put (p := t)) (by simp [tb]) (by simp [td]), ((hK3.trans (hK4.mono (by simp))).trans (hK6.mono (by simp))).trans (Keep.putIn (by simp)), by rw [su_ne tr]; exact hR6, su_same, lr3, by simp; omega, fun x => ?_, _, _, rfl⟩
      rw [← hm3 x, List.mem_append, List.mem_singleton]
      constructor
      · rintro (h | h | rfl)
        · exact .inl h
        · exact .inr h
        · exact .inr (List.getElem_mem _)
      · rintro (h | h)
        · exact .inl h
        · exact .inr (.inl h)
    · exact hX _ _ ⟨re, tu, hB4, hK3.trans (hK4.mono (by simp)), hR5, hT5, lr3, by omega, hm3, _, _, rfl⟩
  · rintro σ S' ⟨rest, tur, hB, hK, hR, hT, lr, lt, hm, o4, o5, rfl⟩
    refine ⟨trivial, ?_⟩
    simp
    rw [rngL_len] at lr
    have : rest = [] := by
      apply List.eq_nil_of_length_eq_zero
      omega
    subst this
    refine q t S' tur ht' hB ?_ hT fun x => by simpa using hm x
    exact Keep.drop (p := t) (Keep.drop (p := r) (hK.mono (by simp)) hr) ht'
end L
end Fv

set_option Elab.async false
set_option linter.all false
set_option maxRecDepth 100000
set_option maxHeartbeats 4000000
namespace Fv
open PySem (Addr)
namespace L
def isName (s : List Nat) : Bool := decide (1 ≤ s.length) && decide (s.length ≤ 12) && s.all fun c => decide (c ∈ s_0)
theorem c_is_name {n : Nat} {s : List Nat} {S : Store} {Q : QD} {E : QX} (hl : s.length ≤ LIM) (q : Q (.bl (isName s)) S) : (PP (n + 1)).call i_is_name [.str s] S Q E := by
  refine call_eq rfl ⟨Nat.le_refl _, Nat.le_refl _⟩ ?_
  simp [f_is_name, b_is_name, Fd.start, Fd.full, kBody, hl, wpIn]
  have bad : isName s = false → Q (.bl false) S := fun h => by rw [h] at q; exact q
  have loop : 1 ≤ s.length → s.length ≤ 12 → forW (fun _ => True) (fun d σ S N B => wpSs (PP n) (.cons (.ite (.cmp .nin (.var 1) (.cst (.str s_0))) (.cons (.ret (.cst (.bl false))) .nil) .nil) .nil) (σ.set 1 (some d)) S ⟨N, Q, B, N, fun x _ S => E x S⟩) (chars s) [some (.str s), none] S fun σ1 S1 => Q (.bl true) S1 := by
    intro l1 l2
    refine forW_inv (fun i σ S' => S' = S ∧ (∃ o, σ = [some (.str s), o]) ∧ ∀ j c, j < i → s[j]? = some c → c ∈ s_0) ⟨rfl, ⟨_, rfl⟩, by omega⟩ ?_ ?_
    · rintro i d σ S' X hd ⟨rfl, ⟨o, rfl⟩, hj⟩ hX
      simp [chars] at hd
      obtain ⟨c, hc, rfl⟩ := hd
      refine ⟨trivial, ?_⟩
      simp [wpIn]
      split
      · rename_i hn
        refine hX _ _ ⟨rfl, ⟨_, rfl⟩, fun j c' hj' hc' => ?_⟩
        rcases Nat.lt_succ_iff_lt_or_eq.mp hj' with z | z
        · exact hj j c' z hc'
        · subst z; rw [hc] at hc'; cases hc'; exact hn
      · rename_i hn
        refine bad ?_
        unfold isName
        simp
        exact fun _ _ => ⟨c, List.mem_of_getElem? hc, hn⟩
    · rintro σ S' ⟨rfl, ⟨o, rfl⟩, hj⟩
      refine ⟨trivial, ?_⟩
      have : isName s = true := by
        unfold isName
        simp
        refine ⟨⟨l1, l2⟩, fun c hc => ?_⟩
        obtain ⟨j, hj2⟩ := List.mem_iff_getElem?.mp hc
        have hlt := (List.getElem?_eq_some_iff.mp hj2).1
        exact hj j c (by simpa [chars] using hlt) hj2
      rw [this] at q
      exact q
  simp [wpIn] at loop
  split
  · split
    · exact loop (by omega) (by omega)
    · exact bad (by unfold isName; simp; omega)
  · exact bad (by unfold isName; simp; omega)
def isUid (s : List Nat) : Bool := match splitC 58 s with
  | [a, b] => isName a && isName b
  | _ => false
theorem split_LIM {s p : List Nat} (h : p ∈ splitC 58 s) : p.length ≤ s.length := by
  induction s generalizing p with
  | nil => simp [splitC] at h; subst h; exact Nat.le_refl _
  | cons x r ih =>
    unfold splitC at h
    split at h
    · rcases List.mem_cons.mp h with rfl | h
      · simp
      · have := ih h; simp; omega
    · split at h
      · rename_i q qs e
        rcases List.mem_cons.mp h with rfl | h
        · have := ih (p := q) (by rw [e]; exact List.mem_cons_self); simp; omega
        · have := ih (p := p) (by rw [e]; exact List.mem_cons_of_mem _ h); simp; omega
      · simp at h; subst h; simp
theorem c_is_uid {n : Nat} {s : List Nat} {S : Store} {Q : QD} {E : QX} (hl : s.length + 2 ≤ LIM) (q : ∀ S', Keep [] S S' → Q (.bl (isUid s)) S') : (PP (n + 2)).call i_is_uid [.str s] S Q E := by
  refine call_eq rfl ⟨Nat.le_refl _, Nat.le_refl _⟩ ?_
  simp [f_is_uid, b_is_uid, Fd.start, Fd.full, kBody, hl, kindAt, mOk, wpBmt]
  intro p hp
  have e : (su S p (.lst ((splitC 58 s).map .str))) p = some (.lst ((splitC 58 s).map .str)) := su_same
  have k : Keep [] S (su S p (.lst ((splitC 58 s).map .str))) := Keep.new hp
  generalize su S p (.lst ((splitC 58 s).map .str)) = S1 at *
  have q := q S1 k
  refine len_lst e ?_
  simp
  unfold isUid at q
  split at q
  · rename_i a b he
    have la := split_LIM (s := s) (p := a) (by rw [he]; simp)
    have lb := split_LIM (s := s) (p := b) (by rw [he]; simp)
    rw [he] at e
    rw [he]
    simp
    refine idx_lst e (d := .str a) rfl ?_
    refine c_is_name (by omega) ?_
    cases ha : isName a with
    | false => rw [ha] at q; simpa using q
    | true =>
      simp
      refine idx_lst e (d := .str b) rfl ?_
      refine c_is_name (by omega) ?_
      simpa [ha] using q
  · rename_i he
    have : (splitC 58 s).length ≠ 2 := by
      intro h
      match hs : splitC 58 s, h with
      | [a, b], _ => exact he a b hs
    have h2 : ¬ (((splitC 58 s).length : Int) = 2) := by omega
    simp [h2]
    exact q
theorem c_check_name {n : Nat} {s : List Nat} {S : Store} {Q : QD} {E : QX} (hl : s.length ≤ LIM) (hn : isName s = true) (q : Q .non S) : (PP (n + 2)).call i_check_name [.str s] S Q E := by
  refine call_eq rfl ⟨(by decide : 1 ≤ 2), (by decide : 2 ≤ 1 + 1)⟩ ?_
  simp [f_check_name, b_check_name, Fd.start, Fd.full, kBody]
  refine c_is_name hl ?_
  simp [hn]
  exact q
theorem str_LIM {s : List Nat} (h : s.length ≤ 100) : s.length + 2 ≤ LIM := by unfold LIM; omega
theorem c_is_read {n : Nat} {u nm : List Nat} {S : Store} {Q : QD} {E : QX} (hu : isUid u = true) (hn : isName nm = true) (lu : u.length ≤ 100) (ln : nm.length ≤ 100) (q : ∀ S', Keep [] S S' → Q (.bl true) S') : (PP (n + 3)).call i_is_read [.tup [.str s_at, .str u, .str nm]] S Q E := by
  refine call_eq rfl ⟨Nat.le_refl _, Nat.le_refl _⟩ ?_
  simp [f_is_read, b_is_read, Fd.start, Fd.full, kBody]
  refine c_is_uid (str_LIM lu) fun S1 k1 => ?_
  simp [hu, s_at]
  refine c_check_name (by have := str_LIM ln; omega) hn ?_
  exact q S1 k1
theorem c_is_scalar {n : Nat} {v : Int} {S : Store} {Q : QD} {E : QX} (q : Q (.bl (decide (-1000000 ≤ v ∧ v ≤ 1000000))) S) : (PP (n + 1)).call i_is_scalar [.tup [.str s_num, .int v]] S Q E := by
  refine call_eq rfl ⟨Nat.le_refl _, Nat.le_refl _⟩ ?_
  simp [f_is_scalar, b_is_scalar, Fd.start, Fd.full, kBody, s_num]
  split
  · rename_i h
    simpa [h] using q
  · rename_i h
    simpa [h] using q
theorem c_is_value {n : Nat} {v : Int} {S : Store} {Q : QD} {E : QX} (q : Q (.bl (decide (-1000000 ≤ v ∧ v ≤ 1000000))) S) : (PP (n + 2)).call i_is_value [.tup [.str s_num, .int v]] S Q E := by
  refine call_eq rfl ⟨Nat.le_refl _, Nat.le_refl _⟩ ?_
  simp [f_is_value, b_is_value, Fd.start, Fd.full, kBody, s_num]
  refine c_is_scalar ?_
  simpa using q
theorem c_fits {n : Nat} {u nm : List Nat} {v : Int} {S : Store} {Q : QD} {E : QX} (hv : -1000000 ≤ v ∧ v ≤ 1000000) (q : Q (.bl true) S) : (PP (n + 3)).call i_fits [.tup [.str s_at, .str u, .str nm], tl v] S Q E := by
  refine call_eq rfl ⟨Nat.le_refl _, Nat.le_refl _⟩ ?_
  simp [f_fits, b_fits, Fd.start, Fd.full, kBody, s_at, tl, s_val, s_num]
  refine c_is_value ?_
  simpa [hv] using q
theorem tv_bd (f : F1) (h : f.ok) : 0 ≤ tv f.b f.s ∧ tv f.b f.s ≤ 2 := by
  unfold F1.ok at h
  unfold tv
  split <;> omega
theorem c_check_fact {n : Nat} {f : F1} {S : Store} {Q : QD} {E : QX} (h : f.ok) (q : ∀ S', Keep [] S S' → Q .non S') : (PP (n + 4)).call i_check_fact [f.d] S Q E := by
  refine call_eq rfl ⟨Nat.le_refl _, Nat.le_refl _⟩ ?_
  have ht := tv_bd f h
  simp [f_check_fact, b_check_fact, Fd.start, Fd.full, kBody, F1.d, setAll]
  refine c_is_read (u := s_dp) (nm := [if f.b = true then 98 else 97]) (by decide) (by cases f.b <;> decide) (by decide) (by simp) fun S1 k1 => ?_
  simp
  refine c_fits (u := s_dp) (nm := [if f.b = true then 98 else 97]) (by omega) ?_
  have := h
  unfold F1.ok at this
  simp
  have h1 : 0 ≤ f.s := this.1
  have h2 : f.s ≤ f.u := this.2.2.1
  have h3 : f.u ≤ 100000 := by omega
  simp [h1, h2, h3]
  exact q S1 k1
end L
end Fv

set_option Elab.async false
set_option linter.all false
set_option maxRecDepth 100000
set_option maxHeartbeats 4000000
namespace Fv
open PySem (Addr)
section
variable {P : Pm} {σ : Ev} {S : Store} {Q : QD} {E : QX}
theorem x_lcm {elt : Ex} {tg : Tg} {it : Itr} {cond : Ex} {own : List Nat} : wpE P (.lcm elt tg it cond own) σ S Q E = wpI P it σ S (fun ds st S1 => ∀ p, S1 p = none → lcW st (fun d S N => asgT tg d (wipeE σ own) fun σ1 =>
      wpT P cond σ1 S (fun b S2 => if b = true then wpE P elt σ1 S2 (fun y S3 => pushW p y S3 N) noX else N S2) noX) ds (su S1 p (.lst [])) (fun S' => Q (.ref p) S')) E := by simp only [wpE]
theorem push_lst {p : Addr} {ds : List D} {d : D} {N : Store → Prop} (h : S p = some (.lst ds)) (l : ds.length < LIM) (q : N (su S p (.lst (ds ++ [d])))) : pushW p d S N := by
  simp only [pushW, h]; exact ⟨l, q⟩
theorem ins_lst {a : Addr} {ds : List D} {k : Nat} {y : D} (h : S a = some (.lst ds)) (i : k ≤ ds.length) (l : ds.length < LIM) (q : Q .non (su S a (.lst (ds.take k ++ y :: ds.drop k)))) : wpBmt 1 (.ref a) [.int k, y] S Q := by
  simp only [wpBmt, h, Int.toNat_natCast]
  exact ⟨⟨by omega, by omega, l⟩, q⟩
end
theorem l3 : 3 ≤ LIM := by unfold LIM; omega
def spD (x : Sp) : D := .tup [.int x.f, .int x.l, x.o]
theorem jfold_len (t : D) (L : List Sp) : ∀ r : List Sp × Int × Int, (L.foldl (jstep t) r).1.length ≤ r.1.length + L.length := by
  induction L with
  | nil => intro r; simp
  | cons a L ih =>
    intro r
    have := ih (jstep t r a)
    have : (jstep t r a).1.length ≤ r.1.length + 1 := by unfold jstep; split <;> simp
    simp only [List.foldl_cons, List.length_cons]
    omega
theorem take_succ_foldl {α β : Type} (f : β → α → β) (b : β) (L : List α) (i : Nat) (x : α) (h : L[i]? = some x) : (L.take (i + 1)).foldl f b = f ((L.take i).foldl f b) x := by
  obtain ⟨hi, e⟩ := List.getElem?_eq_some_iff.mp h
  rw [List.take_succ, h, List.foldl_append]
  rfl
namespace L
theorem c_joined {n : Nat} {sp : Addr} {L : List Sp} {t : D} {s u : Int} {S : Store} {Q : QD} {E : QX} (hs : S sp = some (.lst (L.map spD))) (ho : ∀ x ∈ L, okN x.o = true) (ht : okN t = true) (hl : L.length < 1000) (q : ∀ p S', S p = none → Keep [] S S' → S' p = some (.lst ((joined L t s u).map spD)) → Q (.ref p) S') : (PP (n + 1)).call i_joined [.ref sp, t, .int s, .int u] S Q E := by
  refine call_eq rfl ⟨Nat.le_refl _, Nat.le_refl _⟩ ?_
  simp [f_joined, b_joined, Fd.start, Fd.full, kBody, x_lcm]
  intro p hp
  have psp : sp ≠ p := ne_new hs hp
  refine srcI_lst (ds := L.map spD) (by rw [su_ne psp]; exact hs) ?_
  refine forW_inv (fun i σ S' => S' = su S p (.lst (((L.take i).foldl (jstep t) ([], s, u)).1.map spD)) ∧ ∃ o5 o6 o7 o8 o9, σ = [some (.ref sp), some t, some (.int ((L.take i).foldl (jstep t) ([], s, u)).2.1), some (.int ((L.take i).foldl (jstep t) ([], s, u)).2.2), some (.ref p), o5, o6, o7, o8, o9]) ⟨rfl, _, _, _, _, _, rfl⟩ ?_ ?_
  · rintro i d σ S' X hd ⟨rfl, o5, o6, o7, o8, o9, rfl⟩ hX
    rw [List.getElem?_map] at hd
    obtain ⟨x, hx, rfl⟩ := Option.map_eq_some_iff.mp hd
    refine ⟨by rw [su_ne psp]; exact hs, ?_⟩
    have hX := hX
    rw [take_succ_foldl _ _ _ _ _ hx] at hX
    have hlen := jfold_len t (L.take i) ([], s, u)
    have hti : (L.take i).length ≤ L.length := by rw [List.length_take]; omega
    generalize (L.take i).foldl (jstep t) ([], s, u) = r at *
    obtain ⟨K, s2, u2⟩ := r
    simp only at hlen
    have hxL := List.mem_of_getElem? hx
    simp [spD, setAll]
    refine wpEq_nb (ho x hxL) ht ?_
    have out : jstep t (K, s2, u2) x = (K ++ [x], s2, u2) → ∀ F, F = spD x → mOk 0 (kindAt (su S p (.lst (K.map spD))) (.ref p)) = true ∧ wpBmt 0 (.ref p) [F] (su S p (.lst (K.map spD))) (fun y S1 => X [some (.ref sp), some t, some (.int s2), some (.int u2), some (.ref p), o5, some (.int x.f), some (.int x.l), some x.o, o9] S1) := by
      rintro e F rfl
      refine ⟨by simp [kindAt, mOk], append_lst su_same (by rw [List.length_map]; simp at hlen; unfold LIM; omega) ?_⟩
      rw [e] at hX
      refine hX _ _ ⟨by rw [su_su]; simp, _, _, _, _, _, rfl⟩
    have out2 : ¬ (x.o = t ∧ x.f ≤ u2 + 1 ∧ s2 ≤ x.l + 1) → jstep t (K, s2, u2) x = (K ++ [x], s2, u2) := fun h => by unfold jstep; rw [if_neg h]
    by_cases c1 : x.o = t
    · simp [c1]
      by_cases c2 : x.f ≤ u2 + 1
      · simp [c2]
        split
        · rename_i c3
          have e : jstep t (K, s2, u2) x = (K, if x.f < s2 then x.f else s2, if u2 < x.l then x.l else u2) := by unfold jstep; rw [if_pos ⟨c1, c2, c3⟩]
          rw [e] at hX
          have := hX [some (.ref sp), some t, some (.int (if x.f < s2 then x.f else s2)), some (.int (if u2 < x.l then x.l else u2)), some (.ref p), o5, some (.int x.f), some (.int x.l), some x.o, o9] _ ⟨rfl, _, _, _, _, _, rfl⟩
          rw [c1] at this
          exact this
        · rename_i c3
          have := out (out2 fun h => c3 h.2.2) _ rfl
          simp [spD, c1, mOk, kindAt] at this
          simp [mOk, kindAt]
          exact ⟨l3, this⟩
      · simp [c2]
        have := out (out2 fun h => c2 h.2.1) _ rfl
        simp [spD, c1, mOk, kindAt] at this
        simp [mOk, kindAt]
        exact ⟨l3, this⟩
    · simp [c1]
      have := out (out2 fun h => c1 h.1) _ rfl
      simp [spD, mOk, kindAt] at this
      simp [mOk, kindAt]
      exact ⟨l3, this⟩
  · rintro σ S' ⟨rfl, o5, o6, o7, o8, o9, rfl⟩
    refine ⟨by rw [su_ne psp]; exact hs, ?_⟩
    rw [List.length_map, List.take_length]
    have hlen := jfold_len t L ([], s, u)
    have hj : joined L t s u = (jn L t s u).1.take (jplace (jn L t s u).1 (jn L t s u).2.1) ++ ⟨(jn L t s u).2.1, (jn L t s u).2.2, t⟩ :: (jn L t s u).1.drop (jplace (jn L t s u).1 (jn L t s u).2.1) := rfl
    rw [hj] at q
    unfold jn at q
    generalize L.foldl (jstep t) ([], s, u) = r at *
    obtain ⟨K, s2, u2⟩ := r
    simp only at hlen q
    simp
    refine srcI_lst su_same ?_
    intro g hg
    have gp : p ≠ g := ne_new (c := .lst (K.map spD)) su_same hg
    simp at hlen
    refine lcW_inv (fun i S' => S' = su (su S p (.lst (K.map spD))) g (.lst (((K.take i).filter fun x => decide (x.f < s2)).map spD))) (by simp) ?_ ?_
    · rintro i d S' X hd rfl hX
      rw [List.getElem?_map] at hd
      obtain ⟨x, hx, rfl⟩ := Option.map_eq_some_iff.mp hd
      refine ⟨by rw [su_ne gp]; exact su_same, ?_⟩
      rw [List.take_succ, hx, List.filter_append, List.map_append] at hX
      have hfl : ((K.take i).filter fun x => decide (x.f < s2)).length ≤ L.length := Nat.le_trans (Nat.le_trans (List.length_filter_le _ _) (by rw [List.length_take]; exact Nat.min_le_right _ _)) hlen
      simp [wipeE, spD]
      split
      · rename_i h
        refine push_lst su_same (by rw [List.length_map]; unfold LIM; omega) (hX _ ?_)
        rw [su_su]
        simp [h, spD]
      · rename_i h
        refine hX _ ?_
        simp [h]
    · rintro S' rfl
      refine ⟨by rw [su_ne gp]; exact su_same, ?_⟩
      rw [List.length_map, List.take_length]
      refine len_lst su_same ?_
      have hpl : (List.map spD (List.filter (fun x => decide (x.f < s2)) K)).length = jplace K s2 := by rw [List.length_map]; rfl
      rw [hpl]
      have hP : (su (su S p (.lst (K.map spD))) g (.lst ((K.filter fun x => decide (x.f < s2)).map spD))) p = some (.lst (K.map spD)) := by rw [su_ne gp]; exact su_same
      have hKK : Keep [] S (su S p (.lst (K.map spD))) := Keep.new hp
      have hK2 : Keep [] (su S p (.lst (K.map spD))) (su (su S p (.lst (K.map spD))) g (.lst ((K.filter fun x => decide (x.f < s2)).map spD))) := Keep.new hg
      have hKs := hKK.trans hK2
      generalize su (su S p (.lst (K.map spD))) g (.lst ((K.filter fun x => decide (x.f < s2)).map spD)) = S4 at *
      simp [kindAt, hP, mOk]
      refine ⟨l3, ?_⟩
      refine ins_lst hP (k := jplace K s2) (by rw [List.length_map]; exact List.length_filter_le _ _) (by rw [List.length_map]; unfold LIM; omega) ?_
      refine q p _ hp ?_ ?_
      · exact Keep.drop (p := p) ((hKs.mono (by simp)).trans (Keep.putIn (by simp))) hp
      · rw [su_same, List.map_append, List.map_take, List.map_cons, List.map_drop]
        rfl
end L
end Fv

set_option Elab.async false
set_option linter.all false
set_option maxRecDepth 100000
set_option maxHeartbeats 4000000
namespace Fv
open PySem (Addr)
section
variable {P : Pm} {σ : Ev} {S : Store} {Q : QD} {E : QX}
theorem x_lc2 {elt : Ex} {tg : Tg} {it : Itr} {tg1 : Tg} {it1 : Itr} {own : List Nat} : wpE P (.lc2 elt tg it tg1 it1 own) σ S Q E = wpI P it σ S (fun ds st S1 => ∀ p, S1 p = none → lcW st (fun d S N => asgT tg d (wipeE σ own) fun σ1 =>
      wpI P it1 σ1 S (fun ds1 st1 S2 => lcW st1 (fun d1 S N1 => asgT tg1 d1 (wipeE σ1 (tgL tg1)) fun σ2 => wpE P elt σ2 S (fun y S3 => pushW p y S3 N1) noX) ds1 S2 N) noX) ds (su S1 p (.lst [])) (fun S' => Q (.ref p) S')) E := by simp only [wpE]
theorem get_dct {a : Addr} {t : Bool} {kvs : List (D × D)} {k y : D} (h : S a = some (.dct t kvs)) (f : fitsK t k = true) (q : Q ((dget kvs k).getD y) S) : wpBmt 3 (.ref a) [k, y] S Q := by
  simp only [wpBmt, h]; exact ⟨f, q⟩
theorem sort_dct {a : Addr} {kvs : List (D × D)} (h : S a = some (.dct true kvs)) (o : srtOk (kvs.map (·.1)) = true) (q : ∀ p, S p = none → Q (.ref p) (su S p (.lst (sortD (kvs.map (·.1)))))) : wpBlt 9 [.ref a] S Q := by
  simp only [wpBlt, h]; exact ⟨o, q⟩
end
/-- reads and their spans -/
abbrev KM := List (D × List Sp)
def mfind (m : KM) (k : D) : Option (List Sp) := (m.find? fun p => decide (p.1 = k)).map (·.2)
def mget (m : KM) (k : D) : List Sp := (mfind m k).getD []
def mput (m : KM) (k : D) (L : List Sp) : KM := if (m.any fun p => decide (p.1 = k)) = true then m.map (fun p => if p.1 = k then (p.1, L) else p) else m ++ [(k, L)]
def kvR (S : Store) : List (D × D) → KM → Prop
  | [], [] => True
  | (k, v) :: r, (k', L) :: q => k = k' ∧ (∃ l, v = .ref l ∧ S l = some (.lst (L.map spD))) ∧ kvR S r q
  | _, _ => False
theorem kvR.keep {S S' : Store} {A : List Addr} (h : Keep A S S') (hA : ∀ x ∈ A, ∀ L : List Sp, S x ≠ some (.lst (L.map spD))) : ∀ {kvs : List (D × D)} {m : KM}, kvR S kvs m → kvR S' kvs m
  | [], [], _ => trivial
  | (k, v) :: r, (k', L) :: q, ⟨h1, ⟨l, h2, h3⟩, h4⟩ => ⟨h1, ⟨l, h2, h.at h3 fun z => hA l z L h3⟩, kvR.keep h hA h4⟩
theorem kvR.len {S : Store} : ∀ {kvs : List (D × D)} {m : KM}, kvR S kvs m → kvs.length = m.length
  | [], [], _ => rfl
  | (k, v) :: r, (k', L) :: q, ⟨h1, ⟨l, h2, h3⟩, h4⟩ => by simp [kvR.len h4]
theorem kvR.keys {S : Store} : ∀ {kvs : List (D × D)} {m : KM}, kvR S kvs m → kvs.map (·.1) = m.map (·.1)
  | [], [], _ => rfl
  | (k, v) :: r, (k', L) :: q, ⟨h1, _, h4⟩ => by simp [h1, kvR.keys h4]
theorem kvR.get {S : Store} {k : D} : ∀ {kvs : List (D × D)} {m : KM}, kvR S kvs m → (dget kvs k = none ∧ mfind m k = none) ∨ ∃ l L, dget kvs k = some (.ref l) ∧ mfind m k = some L ∧ S l = some (.lst (L.map spD))
  | [], [], _ => .inl ⟨rfl, rfl⟩
  | (k1, v) :: r, (k2, L) :: q, ⟨h1, ⟨l, h2, h3⟩, h4⟩ => by
    subst h1 h2
    by_cases e : k1 = k
    · exact .inr ⟨l, L, by simp [dget, e], by simp [mfind, e], h3⟩
    · have := kvR.get (k := k) h4
      simpa [dget, mfind, e] using this
theorem kvR.any {S : Store} {k : D} : ∀ {kvs : List (D × D)} {m : KM}, kvR S kvs m → (kvs.any fun p => decide (p.1 = k)) = (m.any fun p => decide (p.1 = k))
  | [], [], _ => rfl
  | (k1, v) :: r, (k2, L) :: q, ⟨h1, _, h4⟩ => by simp [h1, kvR.any h4]
theorem kvR.map {S' : Store} {k : D} {p : Addr} {L : List Sp} (hp : S' p = some (.lst (L.map spD))) : ∀ {kvs : List (D × D)} {m : KM}, kvR S' kvs m → kvR S' (kvs.map fun q => if q.1 = k then (q.1, .ref p) else q) (m.map fun q => if q.1 = k then (q.1, L) else q)
  | [], [], _ => trivial
  | (k1, v) :: r, (k2, L2) :: q, ⟨h1, ⟨l, h2, h3⟩, h4⟩ => by
    subst h1 h2
    have := kvR.map hp h4 (k := k)
    by_cases e : k1 = k
    · simpa [e, kvR, hp] using this
    · simp only [List.map_cons, if_neg e, kvR]
      exact ⟨trivial, ⟨l, rfl, h3⟩, this⟩
theorem kvR.app {S : Store} {k : D} {p : Addr} {L : List Sp} (hp : S p = some (.lst (L.map spD))) : ∀ {kvs : List (D × D)} {m : KM}, kvR S kvs m → kvR S (kvs ++ [(k, .ref p)]) (m ++ [(k, L)])
  | [], [], _ => ⟨rfl, ⟨p, rfl, hp⟩, trivial⟩
  | (k1, v) :: r, (k2, L2) :: q, ⟨h1, h2, h4⟩ => ⟨h1, h2, kvR.app hp h4⟩
theorem kvR.put {S : Store} {k : D} {p : Addr} {L : List Sp} {kvs : List (D × D)} {m : KM} (hp : S p = some (.lst (L.map spD))) (h : kvR S kvs m) : kvR S (dput kvs k (.ref p)) (mput m k L) := by
  unfold dput mput
  rw [kvR.any h]
  split
  · exact kvR.map hp h
  · exact kvR.app hp h
namespace L
def KN (S : Store) (a dp : Addr) (m : KM) (nw : Int) : Prop := S a = some (.ins 3 [(1, .ref dp), (2, .int nw)]) ∧ ∃ kvs, S dp = some (.dct true kvs) ∧ kvR S kvs m
theorem KN.keep {S S' : Store} {a dp : Addr} {m : KM} {nw : Int} {A : List Addr} (h : KN S a dp m nw) (k : Keep A S S') (na : a ∉ A) (nd : dp ∉ A) (hA : ∀ x ∈ A, ∀ L : List Sp, S x ≠ some (.lst (L.map spD))) : KN S' a dp m nw := by
  obtain ⟨h1, kvs, h2, h3⟩ := h
  exact ⟨k.at h1 na, kvs, k.at h2 nd, h3.keep k hA⟩
theorem KN.keep0 {S S' : Store} {a dp : Addr} {m : KM} {nw : Int} (h : KN S a dp m nw) (k : Keep [] S S') : KN S' a dp m nw := h.keep k (by simp) (by simp) (by simp)
theorem c_spans {n : Nat} {a dp : Addr} {m : KM} {nw : Int} {r : D} {S : Store} {Q : QD} {E : QX} (h : KN S a dp m nw) (hr : fitsK true r = true) (q : ∀ p S', S p = none → Keep [] S S' → S' p = some (.lst ((mget m r).map spD)) → Q (.ref p) S') : (PP (n + 1)).call 24 [.ref a, r] S Q E := by
  refine call_eq rfl ⟨Nat.le_refl _, Nat.le_refl _⟩ ?_
  obtain ⟨h1, kvs, h2, h3⟩ := h
  simp [f_Known_spans, b_Known_spans, Fd.start, Fd.full, kBody]
  refine wpFld_of h1 rfl ?_
  have nd : ∀ p, S p = none → dp ≠ p := fun p hp => ne_new h2 hp
  simp [kindAt, h2, mOk]
  intro p hp
  simp [su_ne (nd p hp), h2]
  refine get_dct (t := true) (kvs := kvs) (by rw [su_ne (nd p hp)]; exact h2) hr ?_
  have k1 : Keep [] S (su S p (.lst [])) := Keep.new hp
  rcases h3.get (k := r) with ⟨e1, e2⟩ | ⟨l, L, e1, e2, e3⟩
  · rw [e1]
    refine list_lst (ds := []) su_same fun g hg => ?_
    have hgS : S g = none := by
      cases e : S g with
      | none => rfl
      | some c => rw [k1.at e (by simp)] at hg; cases hg
    refine q g _ hgS (k1.trans (Keep.new hg)) ?_
    simp [mget, e2]
  · rw [e1]
    refine list_lst (k1.at e3 (by simp)) fun g hg => ?_
    have hgS : S g = none := by
      cases e : S g with
      | none => rfl
      | some c => rw [k1.at e (by simp)] at hg; cases hg
    refine q g _ hgS (k1.trans (Keep.new hg)) ?_
    simp [mget, e2]
def inS (v : Int) (x : Sp) : Bool := decide (x.f ≤ v ∧ v ≤ x.l)
theorem c_span_at {n : Nat} {a dp : Addr} {m : KM} {nw v : Int} {r : D} {S : Store} {Q : QD} {E : QX} (h : KN S a dp m nw) (hr : fitsK true r = true) (q : ∀ S', Keep [] S S' → Q (match (mget m r).find? (inS v) with
    | some x => spD x
    | none => .non) S') : (PP (n + 2)).call 21 [.ref a, r, .int v] S Q E := by
  refine call_eq rfl ⟨Nat.le_refl _, Nat.le_refl _⟩ ?_
  simp [f_Known__span_at, b_Known__span_at, Fd.start, Fd.full, kBody]
  refine wpMet_of h.1 (mth_3_4 _) ?_
  refine c_spans h hr fun p S1 hp k1 e1 => ?_
  refine srcI_lst e1 ?_
  have q := q S1 k1
  generalize mget m r = L at *
  refine forW_inv (fun i σ S' => S' = S1 ∧ (∀ x ∈ L.take i, inS v x = false) ∧ ∃ o, σ = [some (.ref a), some r, some (.int v), o]) ⟨rfl, by simp, _, rfl⟩ ?_ ?_
  · rintro i d σ S' X hd ⟨rfl, hn, o, rfl⟩ hX
    rw [List.getElem?_map] at hd
    obtain ⟨x, hx, rfl⟩ := Option.map_eq_some_iff.mp hd
    refine ⟨e1, ?_⟩
    obtain ⟨hi, ex⟩ := List.getElem?_eq_some_iff.mp hx
    have yes : inS v x = true → Q (spD x) S' := fun hy => by
      have : L.find? (inS v) = some x := by
        rw [← List.take_append_drop i L, List.find?_append]
        have : (L.take i).find? (inS v) = none := List.find?_eq_none.mpr fun y hy => by simp [hn y hy]
        rw [this, List.drop_eq_getElem_cons hi, ex]
        simp [hy]
      rw [this] at q
      exact q
    have no : inS v x = false → X [some (.ref a), some r, some (.int v), some (spD x)] S' := fun hno => hX _ _ ⟨rfl, fun y hy => by
      rw [List.take_succ, hx] at hy
      rcases List.mem_append.mp hy with z | z
      · exact hn y z
      · simp at z; subst z; exact hno, _, rfl⟩
    simp [spD]
    split
    · rename_i c1
      split
      · rename_i c2
        exact yes (by simp [inS, c1, c2])
      · rename_i c2
        exact no (by simp [inS]; intro _; omega)
    · rename_i c1
      exact no (by simp [inS]; intro _; omega)
  · rintro σ S' ⟨rfl, hn, o, rfl⟩
    refine ⟨e1, ?_⟩
    rw [List.length_map, List.take_length] at hn
    have : L.find? (inS v) = none := List.find?_eq_none.mpr fun y hy => by simp [hn y hy]
    rw [this] at q
    exact q
theorem c_at {n : Nat} {a dp : Addr} {m : KM} {nw v : Int} {r : D} {S : Store} {Q : QD} {E : QX} (h : KN S a dp m nw) (hr : fitsK true r = true) (q : ∀ S', Keep [] S S' → Q (match (mget m r).find? (inS v) with
    | some x => x.o
    | none => .non) S') : (PP (n + 3)).call 22 [.ref a, r, .int v] S Q E := by
  refine call_eq rfl ⟨Nat.le_refl _, Nat.le_refl _⟩ ?_
  simp [f_Known_at, b_Known_at, Fd.start, Fd.full, kBody]
  refine wpMet_of h.1 (mth_3_1 _) ?_
  refine c_span_at h hr fun S1 k1 => ?_
  have q := q S1 k1
  split at q
  · rename_i x e
    simp [e, spD]
    exact q
  · rename_i e
    simp [e]
    exact q
theorem c_newest {n : Nat} {a dp : Addr} {m : KM} {nw : Int} {S : Store} {Q : QD} {E : QX} (h : KN S a dp m nw) (q : Q (.int nw) S) : (PP (n + 1)).call 27 [.ref a] S Q E := by
  refine call_eq rfl ⟨Nat.le_refl _, Nat.le_refl _⟩ ?_
  simp [f_Known_newest, b_Known_newest, Fd.start, Fd.full, kBody]
  exact wpFld_of h.1 rfl q
theorem c_init {n : Nat} {a : Addr} {S : Store} {Q : QD} {E : QX} (h : S a = some (.ins 3 [])) (q : ∀ dp S', S dp = none → KN S' a dp [] (-1) → Keep [a] S S' → Q .non S') : (PP (n + 1)).call 19 [.ref a] S Q E := by
  refine call_eq rfl ⟨Nat.le_refl _, Nat.le_refl _⟩ ?_
  simp [f_Known___init, b_Known___init, Fd.start, Fd.full, kBody]
  intro p hp
  have np : a ≠ p := ne_new h hp
  refine fldC_of (C := 3) (fs := []) (by rw [su_ne np]; exact h) (by decide) (fok_3_1 _) ?_
  refine fldC_of su_same (by simp [fput]) (fok_3_2 _) ?_
  rw [su_su]
  refine q p _ hp ⟨su_same, [], by rw [su_ne np.symm]; exact su_same, trivial⟩ ?_
  exact (Keep.new hp).trans (Keep.putIn (by simp))
end L
end Fv

set_option Elab.async false
set_option linter.all false
set_option maxRecDepth 100000
set_option maxHeartbeats 4000000
namespace Fv
open PySem (Addr)
namespace L
theorem rd_fits (b : Bool) : fitsK true (rd b) = true := by cases b <;> decide
theorem tl_okN (v : Int) : okN (tl v) = true := by
  simp [okN, tl, nbT, nbL, dep, depL]
theorem rd_okN (b : Bool) : okN (rd b) = true := by cases b <;> decide
theorem c_learn {n : Nat} {a dp : Addr} {m : KM} {nw : Int} {f : F1} {S : Store} {Q : QD} {E : QX} (h : KN S a dp m nw) (hf : f.ok) (hm : m.length < 1000) (hl : (mget m (rd f.b)).length < 1000) (ho : ∀ x ∈ mget m (rd f.b), okN x.o = true) (hc : ∀ x ∈ mget m (rd f.b), x.f ≤ f.u → f.s ≤ x.l → x.o = tl (tv f.b f.s))
    (qf : (∃ x ∈ mget m (rd f.b), x.f ≤ f.s ∧ f.u ≤ x.l) → ∀ S', Keep [] S S' → Q (.bl false) S')
    (qt : (¬ ∃ x ∈ mget m (rd f.b), x.f ≤ f.s ∧ f.u ≤ x.l) → ∀ S', Keep [a, dp] S S' → KN S' a dp (mput m (rd f.b) (joined (mget m (rd f.b)) (tl (tv f.b f.s)) f.s f.u)) (if nw < f.u then f.u else nw) → Q (.bl true) S') : (PP (n + 5)).call 20 [.ref a, f.d] S Q E := by
  refine call_eq rfl ⟨Nat.le_refl _, Nat.le_refl _⟩ ?_
  simp [f_Known_learn, b_Known_learn, Fd.start, Fd.full, kBody]
  refine c_check_fact hf fun S0 k0 => ?_
  have hK0 := h.keep0 k0
  simp [F1.d, setAll]
  refine wpMet_of hK0.1 (mth_3_4 _) ?_
  refine c_spans hK0 (rd_fits _) fun p S1 hp k1 e1 => ?_
  have hK1 := hK0.keep0 k1
  refine srcI_lst e1 ?_
  refine forW_inv (fun i σ S' => S' = S1 ∧ (∀ x ∈ (mget m (rd f.b)).take i, ¬ (x.f ≤ f.s ∧ f.u ≤ x.l)) ∧ ∃ o6 o7 o8, σ = [some (.ref a), some (.tup [rd f.b, tl (tv f.b f.s), .int f.s, .int f.u]), some (rd f.b), some (tl (tv f.b f.s)), some (.int f.s), some (.int f.u), o6, o7, o8]) ⟨rfl, by simp, _, _, _, rfl⟩ ?_ ?_
  · rintro i d σ S' X hd ⟨rfl, hn, o6, o7, o8, rfl⟩ hX
    rw [List.getElem?_map] at hd
    obtain ⟨x, hx, rfl⟩ := Option.map_eq_some_iff.mp hd
    have hxL := List.mem_of_getElem? hx
    refine ⟨e1, ?_⟩
    simp [spD, setAll]
    have yes : x.f ≤ f.s → f.u ≤ x.l → Q (.bl false) S' := fun c1 c2 => qf ⟨x, hxL, c1, c2⟩ _ (k0.trans k1)
    have no : ¬ (x.f ≤ f.s ∧ f.u ≤ x.l) → X [some (.ref a), some (.tup [rd f.b, tl (tv f.b f.s), .int f.s, .int f.u]), some (rd f.b), some (tl (tv f.b f.s)), some (.int f.s), some (.int f.u), some (.int x.f), some (.int x.l), some x.o] S' := fun hno => hX _ _ ⟨rfl, fun y hy => by
      rw [List.take_succ, hx] at hy
      rcases List.mem_append.mp hy with z | z
      · exact hn y z
      · simp at z; subst z; exact hno, _, _, _, rfl⟩
    have second : (if x.f ≤ f.s then if f.u ≤ x.l then Q (.bl false) S' else X [some (.ref a), some (.tup [rd f.b, tl (tv f.b f.s), .int f.s, .int f.u]), some (rd f.b), some (tl (tv f.b f.s)), some (.int f.s), some (.int f.u), some (.int x.f), some (.int x.l), some x.o] S' else X [some (.ref a), some (.tup [rd f.b, tl (tv f.b f.s), .int f.s, .int f.u]), some (rd f.b), some (tl (tv f.b f.s)), some (.int f.s), some (.int f.u), some (.int x.f), some (.int x.l), some x.o] S') := by
      split
      · split
        · exact yes (by assumption) (by assumption)
        · exact no (by omega)
      · exact no (by omega)
    split
    · split
      · rename_i c1 c2
        refine wpEq_nb (ho x hxL) (tl_okN _) ?_
        simp [hc x hxL c1 c2]
        have := hc x hxL c1 c2
        rw [this] at second
        exact second
      · exact second
    · exact second
  · rintro σ S' ⟨rfl, hn, o6, o7, o8, rfl⟩
    rw [List.length_map, List.take_length] at hn
    refine ⟨e1, ?_⟩
    simp
    refine wpMet_of hK1.1 (mth_3_4 _) ?_
    refine c_spans hK1 (rd_fits _) fun p2 S2 hp2 k2 e2 => ?_
    have hK2 := hK1.keep0 k2
    refine c_joined e2 ho (tl_okN _) hl fun p3 S3 hp3 k3 e3 => ?_
    obtain ⟨g1, kvs, g2, g3⟩ := hK2.keep0 k3
    have nad : a ≠ dp := ne_cell g1 g2 (by simp)
    refine wpFld_of g1 rfl ?_
    refine setC_dct g2 (rd_fits _) (by rw [g3.len]; unfold LIM; omega) ?_
    have g1' : (su S3 dp (.dct true (dput kvs (rd f.b) (.ref p3)))) a = some (.ins 3 [(1, .ref dp), (2, .int nw)]) := by rw [su_ne nad]; exact g1
    refine wpFld_of g1' rfl ?_
    simp
    refine fldC_of g1' (by simp) (fok_3_2 _) ?_
    refine qt (fun ⟨x, hx, c⟩ => hn x hx c) _ ?_ ⟨?_, _, by rw [su_ne nad.symm]; exact su_same, ?_⟩
    · exact ((((k0.trans k1).trans k2).trans k3).mono (by simp)).trans ((Keep.putIn (by simp)).trans (Keep.putIn (by simp)))
    · rw [su_same]; rfl
    · refine (g3.put e3).keep (A := [dp, a]) ((Keep.putIn (by simp)).trans (Keep.putIn (by simp))) ?_
      intro x hx L
      simp at hx
      rcases hx with rfl | rfl
      · rw [g2]; simp
      · rw [g1]; simp
theorem c_reads {n : Nat} {a dp : Addr} {m : KM} {nw : Int} {S : Store} {Q : QD} {E : QX} (h : KN S a dp m nw) (hs : srtOk (m.map (·.1)) = true) (q : ∀ p S', S p = none → Keep [] S S' → S' p = some (.lst (sortD (m.map (·.1)))) → Q (.ref p) S') : (PP (n + 1)).call 25 [.ref a] S Q E := by
  refine call_eq rfl ⟨Nat.le_refl _, Nat.le_refl _⟩ ?_
  obtain ⟨h1, kvs, h2, h3⟩ := h
  simp [f_Known_reads, b_Known_reads, Fd.start, Fd.full, kBody]
  refine wpFld_of h1 rfl ?_
  rw [← h3.keys] at hs q
  exact sort_dct h2 hs fun p hp => q p _ hp (Keep.new hp) su_same
def factD (k : D) (x : Sp) : D := .tup [k, x.o, .int x.f, .int x.l]
def allF (m : KM) (ks : List D) : List D := ks.flatMap fun k => (mget m k).map (factD k)
theorem allF_len {m : KM} {N : Nat} (h : ∀ k, (mget m k).length ≤ N) : ∀ ks : List D, (allF m ks).length ≤ N * ks.length
  | [] => by simp [allF]
  | k :: r => by
    have := allF_len h r
    unfold allF at *
    simp only [List.flatMap_cons, List.length_append, List.length_map, List.length_cons]
    have := h k
    rw [Nat.mul_succ]
    omega
theorem c_facts_of {n : Nat} {a dp : Addr} {m : KM} {nw : Int} {S : Store} {Q : QD} {E : QX} (h : KN S a dp m nw) (hs : srtOk (m.map (·.1)) = true) (hm : m.length ≤ 1000) (hL : ∀ k, (mget m k).length ≤ 1000) (hk : ∀ k ∈ sortD (m.map (·.1)), (mfind m k).isSome = true ∧ fitsK true k = true) (hsl : (sortD (m.map (·.1))).length = m.length) (q : ∀ p S', S p = none → Keep [] S S' → S' p = some (.lst (allF m (sortD (m.map (·.1))))) → Q (.ref p) S') : (PP (n + 2)).call 26 [.ref a] S Q E := by
  refine call_eq rfl ⟨Nat.le_refl _, Nat.le_refl _⟩ ?_
  simp [f_Known_facts, b_Known_facts, Fd.start, Fd.full, kBody, x_lc2]
  refine wpMet_of h.1 (mth_3_5 _) ?_
  refine c_reads h hs fun p1 S1 hp1 k1 e1 => ?_
  have hK1 := h.keep0 k1
  refine srcI_lst e1 fun p hp => ?_
  have np1 : p1 ≠ p := ne_new e1 hp
  generalize sortD (m.map (·.1)) = ks at *
  have frame : ∀ ds, Keep [] S1 (su S1 p (.lst ds)) := fun ds => Keep.new hp
  have bound : ∀ i, (allF m (ks.take i)).length ≤ 1000 * m.length := fun i => by
    have := allF_len hL (ks.take i)
    have h2 : (ks.take i).length ≤ m.length := by rw [List.length_take]; omega
    exact Nat.le_trans this (Nat.mul_le_mul_left _ h2)
  refine lcW_inv (fun i S' => S' = su S1 p (.lst (allF m (ks.take i)))) (by simp [allF]) ?_ ?_
  · rintro i k S' X hd rfl hX
    refine ⟨(frame _).at e1 (by simp), ?_⟩
    obtain ⟨g1, kvs, g2, g3⟩ := hK1.keep0 (frame (allF m (ks.take i)))
    have hkk := hk k (List.mem_of_getElem? hd)
    simp [wipeE]
    refine wpFld_of g1 rfl ?_
    rcases g3.get (k := k) with ⟨z1, z2⟩ | ⟨l, L, z1, z2, z3⟩
    · rw [z2] at hkk; simp at hkk
    refine idx_dct g2 hkk.2 z1 ?_
    refine srcI_lst z3 ?_
    have hLg : mget m k = L := by simp [mget, z2]
    have lp : l ≠ p := by
      have := hK1
      obtain ⟨y1, kvs', y2, y3⟩ := hK1
      rintro rfl
      have g2' := (frame (allF m (ks.take i))).at y2 (by simp)
      rw [g2] at g2'
      cases g2'
      rcases y3.get (k := k) with ⟨w1, w2⟩ | ⟨l', L', w1, w2, w3⟩
      · rw [z2] at w2; cases w2
      · rw [z1] at w1
        cases w1
        rw [hp] at w3; cases w3
    have ext : allF m (ks.take (i + 1)) = allF m (ks.take i) ++ L.map (factD k) := by
      rw [List.take_succ, hd]
      simp [allF, hLg]
    have b1 := bound (i + 1)
    rw [ext] at hX b1
    simp only [List.length_append, List.length_map] at b1
    refine lcW_inv (fun j S' => S' = su S1 p (.lst (allF m (ks.take i) ++ (L.take j).map (factD k)))) (by simp) ?_ ?_
    · rintro j d S' Y hd2 rfl hY
      rw [List.getElem?_map] at hd2
      obtain ⟨x, hx, rfl⟩ := Option.map_eq_some_iff.mp hd2
      obtain ⟨hj, ex⟩ := List.getElem?_eq_some_iff.mp hx
      refine ⟨by have := z3; rw [su_ne lp] at this ⊢; exact this, ?_⟩
      simp [wipeE, tgL, spD, setAll]
      refine ⟨by unfold LIM; omega, ?_⟩
      refine push_lst su_same (by simp only [List.length_append, List.length_map, List.length_take]; unfold LIM; omega) ?_
      refine hY _ ?_
      rw [su_su, List.take_succ, hx]
      simp [factD]
    · rintro S' rfl
      refine ⟨by have := z3; rw [su_ne lp] at this ⊢; exact this, ?_⟩
      rw [List.length_map, List.take_length]
      exact hX _ rfl
  · rintro S' rfl
    refine ⟨(frame _).at e1 (by simp), ?_⟩
    rw [List.take_length]
    refine q p _ ?_ (k1.trans (frame _)) su_same
    cases e : S p with
    | none => rfl
    | some c => rw [k1.at e (by simp)] at hp; cases hp
end L
end Fv

set_option Elab.async false
set_option linter.all false
set_option maxRecDepth 100000
set_option maxHeartbeats 4000000
namespace Fv
open PySem (Addr PyData)
theorem pureL_of : ∀ {ds : List D}, (∀ d ∈ ds, pureD d = true) → pureL ds = true
  | [], _ => rfl
  | d :: r, h => by
    simp only [pureL, Bool.and_eq_true]
    exact ⟨h d List.mem_cons_self, pureL_of fun e he => h e (List.mem_cons_of_mem _ he)⟩
theorem depL_of {n : Nat} : ∀ {ds : List D}, (∀ d ∈ ds, dep d ≤ n) → depL ds ≤ n
  | [], _ => Nat.zero_le _
  | d :: r, h => by
    simp only [depL]
    exact Nat.max_le.mpr ⟨h d List.mem_cons_self, depL_of fun e he => h e (List.mem_cons_of_mem _ he)⟩
/-- a datum whose repr is short -/
def shw (W : Nat) (d : D) : Bool := pureD d && decide (dep d ≤ 30) && PyData.showable (toPD d) && PyData.leavesShort 8 (toPD d) && decide ((toPD d).weight ≤ W)
theorem shw_all {W : Nat} : ∀ {ds : List D}, (∀ d ∈ ds, shw W d = true) → PyData.showableAll (toPDL ds) = true ∧ PyData.leavesShortAll 8 (toPDL ds) = true ∧ PyData.weightAll (toPDL ds) ≤ ds.length * (W + 1)
  | [], _ => ⟨rfl, rfl, Nat.zero_le _⟩
  | d :: r, h => by
    have h1 := h d List.mem_cons_self
    obtain ⟨a, b, c⟩ := shw_all fun e he => h e (List.mem_cons_of_mem _ he)
    simp only [shw, Bool.and_eq_true, decide_eq_true_eq] at h1
    simp only [toPDL, PyData.showableAll, PyData.leavesShortAll, PyData.weightAll, Bool.and_eq_true, List.length_cons, Nat.succ_mul]
    exact ⟨⟨h1.1.1.2, a⟩, ⟨h1.1.2, b⟩, by omega⟩
theorem shw_nb {W : Nat} {ds : List D} (h : ∀ d ∈ ds, shw W d = true) : okL ds = true := by
  have : ∀ d ∈ ds, pureD d = true ∧ dep d ≤ 40 := fun d hd => by
    have := h d hd
    simp only [shw, Bool.and_eq_true, decide_eq_true_eq] at this
    exact ⟨this.1.1.1.1, by omega⟩
  simp only [okL, Bool.and_eq_true, decide_eq_true_eq]
  exact ⟨pureL_of fun d hd => (this d hd).1, depL_of fun d hd => (this d hd).2⟩
theorem rep_lst {a : Addr} {ds : List D} {W : Nat} {S : Store} {Q : QD} (h : S a = some (.lst ds)) (hs : ∀ d ∈ ds, shw W d = true) (hl : 10 * (ds.length * (W + 1)) + 8 ≤ LIM) (q : Q (.rtx (PyData.shown (.list (toPDL ds))).cps.toList) S) : wpBlt 2 [.ref a] S Q := by
  simp only [wpBlt, h]
  obtain ⟨h1, h2, h3⟩ := shw_all hs
  refine ⟨⟨shw_nb hs, h1, ?_⟩, q⟩
  have := PyData.shown_le 8 (by decide) (.list (toPDL ds)) h2
  simp only [PyData.weight] at this
  omega
theorem rep_tupq {ds : List D} {W : Nat} {S : Store} {Q : QD} (hs : shw W (.tup ds) = true) (hl : 10 * W + 8 ≤ LIM) (q : Q (.rtx (repD (.tup ds))) S) : wpBlt 2 [.tup ds] S Q := by
  simp only [shw, Bool.and_eq_true, decide_eq_true_eq] at hs
  simp only [wpBlt]
  refine ⟨⟨?_, hs.1.1.2, ?_⟩, q⟩
  · simp only [okD, Bool.and_eq_true, decide_eq_true_eq]
    exact ⟨hs.1.1.1.1, by omega⟩
  · have := PyData.shown_le 8 (by decide) _ hs.1.2
    show (repD (.tup ds)).length ≤ LIM
    have e : (repD (.tup ds)).length = (toPD (.tup ds)).shown.length := by simp [repD]; rfl
    rw [e]
    omega
theorem short8 {i : Int} (h : 0 ≤ i ∧ i < 100) : (PyData.shown (.int i)).length ≤ 8 ∧ i.natAbs.log2 < 1920 ∧ (if i = 0 then 0 else i.natAbs.log2 + 1) ≤ 7 := by
  have : ∀ k : Nat, k < 100 → (PyData.shown (.int (k : Int))).length ≤ 8 ∧ (k : Int).natAbs.log2 < 1920 ∧ (if (k : Int) = 0 then 0 else (k : Int).natAbs.log2 + 1) ≤ 7 := by decide +kernel
  have := this i.toNat (by omega)
  rwa [Int.toNat_of_nonneg h.1] at this
namespace L
theorem tl_shw {v : Int} (h : 0 ≤ v ∧ v < 100) : shw 100 (tl v) = true := by
  have h1 := short8 h
  simp [shw, tl, s_val, s_num, pureD, pureL, dep, depL, toPD, toPDL, PyData.showable, PyData.showableAll, PyData.leavesShort, PyData.leavesShortAll, PyData.weight, PyData.weightAll, h1.1, h1.2.1]
  have h1 := h1.2.2
  generalize (if v = 0 then 0 else v.natAbs.log2 + 1) = a1 at *
  omega
theorem fact_shw {b : Bool} {v f l : Int} (h : 0 ≤ v ∧ v < 100) (hf : 0 ≤ f ∧ f < 100) (hl : 0 ≤ l ∧ l < 100) : shw 100 (factD (rd b) ⟨f, l, tl v⟩) = true := by
  have h1 := short8 h
  have h2 := short8 hf
  have h3 := short8 hl
  cases b
  all_goals
    simp [shw, tl, factD, rd, s_at, s_dp, s_val, s_num, pureD, pureL, dep, depL, toPD, toPDL, PyData.showable, PyData.showableAll, PyData.leavesShort, PyData.leavesShortAll, PyData.weight, PyData.weightAll, h1.1, h1.2.1, h2.1, h2.2.1, h3.1, h3.2.1]
    have h1 := h1.2.2
    have h2 := h2.2.2
    have h3 := h3.2.2
    generalize (if v = 0 then 0 else v.natAbs.log2 + 1) = a1 at *
    generalize (if f = 0 then 0 else f.natAbs.log2 + 1) = a2 at *
    generalize (if l = 0 then 0 else l.natAbs.log2 + 1) = a3 at *
    omega
theorem c_alike {n : Nat} {x y : D} {S : Store} {Q : QD} {E : QX} (q : wpBlt 2 [x] S fun r S1 => wpBlt 2 [y] S1 fun s S2 => wpEq r s S2 fun b => Q (.bl b) S2) : (PP (n + 1)).call i_law_alike [x, y] S Q E := by
  refine call_eq rfl ⟨Nat.le_refl _, Nat.le_refl _⟩ ?_
  simp [f_law_alike, b_law_alike, Fd.start, Fd.full, kBody]
  exact q
end L
end Fv

set_option Elab.async false
set_option linter.all false
set_option maxRecDepth 100000
set_option maxHeartbeats 4000000
namespace Fv
open PySem (Addr PyData)
theorem mfind_put {m : KM} {k : D} {L : List Sp} : mfind (mput m k L) k = some L := by
  unfold mput
  split
  · rename_i h
    induction m with
    | nil => simp at h
    | cons p r ih =>
      by_cases e : p.1 = k
      · simp [mfind, e]
      · simp [e] at h
        have := ih (by simpa using h)
        simpa [mfind, e] using this
  · rename_i h
    have h : ∀ p ∈ m, p.1 ≠ k := fun p hp e => h (List.any_eq_true.mpr ⟨p, hp, by simpa using e⟩)
    unfold mfind
    have : m.find? (fun p => decide (p.1 = k)) = none := List.find?_eq_none.mpr fun p hp => by simp [h p hp]
    rw [List.find?_append, this]
    simp
theorem mfind_put_ne {m : KM} {k j : D} {L : List Sp} (n : j ≠ k) : mfind (mput m k L) j = mfind m j := by
  unfold mput
  split
  · rename_i h
    clear h
    induction m with
    | nil => rfl
    | cons p r ih =>
      by_cases e : p.1 = k
      · have : ¬ p.1 = j := fun z => n (z.symm.trans e)
        have n2 : ¬ k = j := fun z => n z.symm
        simpa [mfind, e, n2] using ih
      · by_cases e2 : p.1 = j
        · have n2 : ¬ j = k := n
          simp [mfind, e2, n2]
        · simpa [mfind, e, e2] using ih
  · unfold mfind
    rw [List.find?_append]
    have : ¬ k = j := fun z => n z.symm
    simp [this]
theorem mfind_keys {m : KM} {k : D} : (mfind m k).isSome = true ↔ k ∈ m.map (·.1) := by
  unfold mfind
  simp [List.find?_isSome]
theorem keys_put {m : KM} {k : D} {L : List Sp} : (mput m k L).map (·.1) = if k ∈ m.map (·.1) then m.map (·.1) else m.map (·.1) ++ [k] := by
  unfold mput
  by_cases h : k ∈ m.map (·.1)
  · have : (m.any fun p => decide (p.1 = k)) = true := by
      obtain ⟨p, hp, e⟩ := List.mem_map.mp h
      exact List.any_eq_true.mpr ⟨p, hp, by simpa using e⟩
    rw [if_pos this, if_pos h, List.map_map]
    apply List.map_congr_left
    intro p hp
    simp only [Function.comp]
    split <;> rfl
  · have : ¬ (m.any fun p => decide (p.1 = k)) = true := by
      intro z
      obtain ⟨p, hp, e⟩ := List.any_eq_true.mp z
      exact h (List.mem_map.mpr ⟨p, hp, by simpa using e⟩)
    rw [if_neg this, if_neg h, List.map_append]
    rfl
theorem Canon.len {T : Int → D} {C : Int → Prop} {L : List Sp} {N : Nat} (h : Canon T C L) (hC : ∀ v, C v → 0 ≤ v ∧ v < N) : L.length ≤ N := by
  have go : ∀ (L : List Sp) (lo : Nat), L.Pairwise (fun x y => x.f < y.f) → (∀ x ∈ L, (lo : Int) ≤ x.f ∧ x.f < N) → lo + L.length ≤ N ∨ L = [] := by
    intro L
    induction L with
    | nil => intro lo _ _; exact .inr rfl
    | cons a r ih =>
      intro lo hp hb
      have h1 := List.pairwise_cons.mp hp
      have ha := hb a List.mem_cons_self
      left
      rcases ih (lo + 1) h1.2 (fun x hx => by
        have := h1.1 x hx
        have := hb x (List.mem_cons_of_mem _ hx)
        omega) with z | z
      · simp; omega
      · subst z; simp; omega
  rcases go L 0 h.lt (fun x hx => by
    have hx' := h.cov x hx
    have := hC _ (hx'.2 x.f (Int.le_refl _) hx'.1).1
    omega) with z | z
  · omega
  · subst z; simp
namespace L
def TT (b : Bool) (v : Int) : D := tl (tv b v)
structure KV (m : KM) (nw : Int) (C : Bool → Int → Prop) : Prop where
  can : ∀ b, Canon (TT b) (C b) (mget m (rd b))
  keys : m.map (·.1) = [] ∨ m.map (·.1) = [rd false] ∨ m.map (·.1) = [rd true] ∨ m.map (·.1) = [rd false, rd true] ∨ m.map (·.1) = [rd true, rd false]
  kex : ∀ b, rd b ∈ m.map (·.1) ↔ ∃ v, C b v
  rng : ∀ b v, C b v → 0 ≤ v ∧ v < 30
  new : (∀ b v, C b v → v ≤ nw) ∧ ((nw = -1 ∧ ∀ b v, ¬ C b v) ∨ ∃ b, C b nw)
def cu (C : Bool → Int → Prop) (f : F1) : Bool → Int → Prop := fun b v => C b v ∨ (b = f.b ∧ f.s ≤ v ∧ v ≤ f.u)
theorem rd_ne {b c : Bool} (h : b ≠ c) : rd b ≠ rd c := by revert h; cases b <;> cases c <;> decide
theorem KV.nil : KV [] (-1) (fun _ _ => False) := ⟨fun b => Canon.nil fun _ h => h, .inl rfl, fun b => by simp, fun _ _ h => h.elim, fun _ _ h => h.elim, .inl ⟨rfl, fun _ _ h => h⟩⟩
theorem tv_in {f : F1} (h : f.ok) {v : Int} (h1 : f.s ≤ v) (h2 : v ≤ f.u) : TT f.b v = tl (tv f.b f.s) := by
  unfold F1.ok at h
  unfold TT tv
  split
  · rfl
  · have : v / 10 = f.s / 10 := by omega
    rw [this]
theorem KV.mlen {m : KM} {nw : Int} {C : Bool → Int → Prop} (k : KV m nw C) : m.length ≤ 2 := by
  have : (m.map (·.1)).length ≤ 2 := by rcases k.keys with h | h | h | h | h <;> rw [h] <;> decide
  simpa using this
theorem KV.llen {m : KM} {nw : Int} {C : Bool → Int → Prop} (k : KV m nw C) (b : Bool) : (mget m (rd b)).length ≤ 30 := (k.can b).len (N := 30) (k.rng b)
theorem KV.iff {m : KM} {nw : Int} {C C2 : Bool → Int → Prop} (k : KV m nw C) (h : ∀ b v, C b v ↔ C2 b v) : KV m nw C2 := by
  have : C = C2 := by funext b v; exact propext (h b v)
  subst this; exact k
theorem KV.noc {m : KM} {nw : Int} {C : Bool → Int → Prop} (k : KV m nw C) {f : F1} (h : f.ok) : ∀ x ∈ mget m (rd f.b), x.f ≤ f.u → f.s ≤ x.l → x.o = tl (tv f.b f.s) := by
  intro x hx h1 h2
  have hc := (k.can f.b).cov x hx
  have hs : f.s ≤ f.u := h.2.2.1
  have : ∃ v, x.f ≤ v ∧ v ≤ x.l ∧ f.s ≤ v ∧ v ≤ f.u := by
    by_cases w : x.f ≤ f.s
    · exact ⟨f.s, by omega⟩
    · exact ⟨x.f, by omega⟩
  obtain ⟨v, v1, v2, v3, v4⟩ := this
  exact (hc.2 v v1 v2).2.symm.trans (tv_in h v3 v4)
theorem KV.put {m : KM} {nw : Int} {C : Bool → Int → Prop} (k : KV m nw C) {f : F1} (h : f.ok) : KV (mput m (rd f.b) (joined (mget m (rd f.b)) (tl (tv f.b f.s)) f.s f.u)) (if nw < f.u then f.u else nw) (cu C f) := by
  have hs : f.s ≤ f.u := h.2.2.1
  have hj := joined_ok (t := tl (tv f.b f.s)) (k.can f.b) hs fun v a b => tv_in h a b
  have g1 : mget (mput m (rd f.b) (joined (mget m (rd f.b)) (tl (tv f.b f.s)) f.s f.u)) (rd f.b) = joined (mget m (rd f.b)) (tl (tv f.b f.s)) f.s f.u := by
    unfold mget; rw [mfind_put]; rfl
  have hrng : f.u < 30 := by have := h; unfold F1.ok at this; omega
  have h0 : 0 ≤ f.s := h.1
  refine ⟨fun b => ?_, ?_, fun b => ?_, fun b v hv => ?_, ?_⟩
  · by_cases e : b = f.b
    · subst e
      rw [g1]
      exact hj.iff fun v => by simp [cu]
    · have : mget (mput m (rd f.b) (joined (mget m (rd f.b)) (tl (tv f.b f.s)) f.s f.u)) (rd b) = mget m (rd b) := by
        unfold mget; rw [mfind_put_ne (rd_ne e)]
      rw [this]
      exact (k.can b).iff fun v => by simp [cu, e]
  · rw [keys_put]
    have n1 : rd true ≠ rd false := by decide
    have n2 : rd false ≠ rd true := by decide
    rcases k.keys with e | e | e | e | e <;> rw [e] <;> cases f.b <;> simp [n1, n2]
  · rw [keys_put]
    have := k.kex b
    by_cases e : b = f.b
    · subst e
      have hv : ∃ v, cu C f f.b v := ⟨f.s, .inr ⟨rfl, Int.le_refl _, hs⟩⟩
      split
      · rename_i z
        exact ⟨fun _ => hv, fun _ => z⟩
      · exact ⟨fun _ => hv, fun _ => by simp⟩
    · have e2 : (∃ v, cu C f b v) ↔ ∃ v, C b v := by simp [cu, e]
      rw [e2, ← this]
      have := rd_ne e
      split
      · rfl
      · simp [this]
  · rcases hv with hv | ⟨_, a, c⟩
    · exact k.rng b v hv
    · omega
  · refine ⟨fun b v hv => ?_, ?_⟩
    · rcases hv with hv | ⟨_, a, c⟩
      · have := k.new.1 b v hv
        split <;> omega
      · split <;> omega
    · right
      split
      · exact ⟨f.b, .inr ⟨rfl, hs, Int.le_refl _⟩⟩
      · rename_i hn
        rcases k.new.2 with ⟨e, _⟩ | ⟨b, hb⟩
        · omega
        · exact ⟨b, .inl hb⟩
theorem KV.ins {m : KM} {nw : Int} {C : Bool → Int → Prop} (k : KV m nw C) {f : F1} (h : f.ok) (hx : ∃ x ∈ mget m (rd f.b), x.f ≤ f.s ∧ f.u ≤ x.l) : KV m nw (cu C f) := by
  obtain ⟨x, hx, a, c⟩ := hx
  have hc := (k.can f.b).cov x hx
  refine k.iff fun b v => ⟨.inl, ?_⟩
  rintro (hv | ⟨rfl, v1, v2⟩)
  · exact hv
  · exact (hc.2 v (by omega) (by omega)).1
theorem c_learn' {n : Nat} {a dp : Addr} {m : KM} {nw : Int} {C : Bool → Int → Prop} {f : F1} {S : Store} {Q : QD} {E : QX} (h : KN S a dp m nw) (k : KV m nw C) (hf : f.ok) (q : ∀ S' m' nw' r, Keep [a, dp] S S' → KN S' a dp m' nw' → KV m' nw' (cu C f) → ((∀ v, f.s ≤ v → v ≤ f.u → C f.b v) → r = false) → Q (.bl r) S') : (PP (n + 5)).call 20 [.ref a, f.d] S Q E := by
  have hs : f.s ≤ f.u := hf.2.2.1
  refine c_learn h hf (by have := k.mlen; omega) (by have := k.llen f.b; omega) ?_ (k.noc hf) ?_ ?_
  · intro x hx
    have hc := (k.can f.b).cov x hx
    have := (hc.2 x.f (Int.le_refl _) hc.1).2
    rw [← this]
    exact tl_okN _
  · intro hx S' k1
    exact q S' m nw false (k1.mono (by simp)) (h.keep0 k1) (k.ins hf hx) fun _ => rfl
  · intro hx S' k1 g
    refine q S' _ _ true k1 g (k.put hf) fun hall => ?_
    exact absurd ((k.can f.b).inside (t := tl (tv f.b f.s)) hs fun v a b => ⟨hall v a b, tv_in hf a b⟩) hx
/-- two that know alike -/
theorem KV.same {m m2 : KM} {nw nw2 : Int} {C : Bool → Int → Prop} (k : KV m nw C) (k2 : KV m2 nw2 C) : nw = nw2 ∧ sortD (m.map (·.1)) = sortD (m2.map (·.1)) ∧ ∀ b, mget m (rd b) = mget m2 (rd b) := by
  refine ⟨?_, ?_, fun b => (k.can b).uniq (k2.can b)⟩
  · rcases k.new.2 with ⟨e1, h1⟩ | ⟨b, hb⟩
    · rcases k2.new.2 with ⟨e2, h2⟩ | ⟨b2, hb2⟩
      · omega
      · exact absurd hb2 (h1 _ _)
    · rcases k2.new.2 with ⟨e2, h2⟩ | ⟨b2, hb2⟩
      · exact absurd hb (h2 _ _)
      · have := k.new.1 _ _ hb2
        have := k2.new.1 _ _ hb
        omega
  · have hk : ∀ b, rd b ∈ m.map (·.1) ↔ rd b ∈ m2.map (·.1) := fun b => (k.kex b).trans (k2.kex b).symm
    have h0 := hk false
    have h1 := hk true
    have n1 : rd true ≠ rd false := by decide
    have n2 : rd false ≠ rd true := by decide
    have l1 : leD (rd false) (rd true) = true := by decide +kernel
    have l2 : leD (rd true) (rd false) = false := by decide +kernel
    have s1 : sortD [rd false, rd true] = sortD [rd true, rd false] := by
      simp [sortD, List.mergeSort, List.MergeSort.Internal.splitInTwo, List.merge, l1, l2]
    rcases k.keys with e | e | e | e | e <;> rcases k2.keys with e2 | e2 | e2 | e2 | e2 <;> rw [e, e2] at h0 h1 ⊢ <;> first | rfl | exact s1 | exact s1.symm | (exfalso; revert h0 h1; simp [n1, n2])
theorem KV.srt {m : KM} {nw : Int} {C : Bool → Int → Prop} (k : KV m nw C) : srtOk (m.map (·.1)) = true ∧ (sortD (m.map (·.1))).length = m.length ∧ (∀ j ∈ sortD (m.map (·.1)), (mfind m j).isSome = true ∧ ∃ b, j = rd b) := by
  refine ⟨?_, ?_, ?_⟩
  · rcases k.keys with e | e | e | e | e <;> rw [e] <;> decide +kernel
  · unfold sortD
    rw [List.length_mergeSort, List.length_map]
  · intro j hj
    have : j ∈ m.map (·.1) := by
      unfold sortD at hj
      exact List.mem_mergeSort.mp hj
    refine ⟨mfind_keys.mpr this, ?_⟩
    rcases k.keys with e | e | e | e | e <;> rw [e] at this <;> simp at this
    · exact ⟨_, this⟩
    · exact ⟨_, this⟩
    · rcases this with h | h <;> exact ⟨_, h⟩
    · rcases this with h | h <;> exact ⟨_, h⟩
end L
end Fv

set_option Elab.async false
set_option linter.all false
set_option maxRecDepth 100000
set_option maxHeartbeats 4000000
namespace Fv
open PySem (Addr PyData)
namespace L
theorem KN.ndp {S : Store} {a dp : Addr} {m : KM} {nw : Int} (h : KN S a dp m nw) : a ≠ dp := by
  obtain ⟨h1, kvs, h2, _⟩ := h
  exact ne_cell h1 h2 (by simp)
theorem KN.nlst {S : Store} {a dp x : Addr} {m : KM} {nw : Int} {ds : List D} (h : KN S a dp m nw) (hx : S x = some (.lst ds)) : x ≠ a ∧ x ≠ dp := by
  obtain ⟨h1, kvs, h2, _⟩ := h
  exact ⟨ne_cell hx h1 (by simp), ne_cell hx h2 (by simp)⟩
theorem KN.other {S S' : Store} {a1 d1 a2 d2 : Addr} {m1 m2 : KM} {n1 n2 : Int} (h1 : KN S a1 d1 m1 n1) (h2 : KN S a2 d2 m2 n2) (na : a1 ≠ a2) (nd : d1 ≠ d2) (k : Keep [a1, d1] S S') : KN S' a2 d2 m2 n2 := by
  obtain ⟨x1, kv1, y1, _⟩ := h1
  have h2' := h2
  obtain ⟨x2, kv2, y2, _⟩ := h2
  refine h2'.keep k ?_ ?_ ?_
  · have := ne_cell x2 y1 (by simp)
    simp [na.symm, this]
  · have := ne_cell y2 x1 (by simp)
    simp [nd.symm, this]
  · intro x hx L
    simp at hx
    rcases hx with rfl | rfl
    · rw [x1]; simp
    · rw [y1]; simp
theorem KN.box {S S' : Store} {a d b dl : Addr} {m : KM} {nw : Int} (h : KN S a d m nw) (hb : Box S b dl) (k : Keep [b] S S') : KN S' a d m nw := by
  obtain ⟨i, ds, b1, b2, b3, b4⟩ := hb
  have n := h.nlst b1
  refine h.keep k (by simp [n.1.symm]) (by simp [n.2.symm]) ?_
  intro x hx L
  simp at hx
  subst hx
  rw [b1]
  cases L <;> simp [spD]
theorem Box.kn {S S' : Store} {a d b dl : Addr} {m : KM} {nw : Int} (hb : Box S b dl) (h : KN S a d m nw) (k : Keep [a, d] S S') : Box S' b dl := by
  have hb' := hb
  obtain ⟨i, ds, b1, b2, b3, b4⟩ := hb
  have n := h.nlst b1
  have n2 := h.nlst b3
  exact hb'.keep k (by simp [n.1, n.2]) (by simp [n2.1, n2.2])
theorem Box.fl {S : Store} {b dl fp : Addr} {fs : List F1} (hb : Box S b dl) (h : S fp = some (.lst (fs.map F1.d))) : fp ≠ b := by
  obtain ⟨i, ds, b1, b2, b3, b4⟩ := hb
  refine ne_cell h b1 ?_
  cases fs <;> simp [F1.d]
theorem KN.fl {S S' : Store} {a dp x : Addr} {m : KM} {nw : Int} {ds : List D} (h : KN S a dp m nw) (hx : S x = some (.lst ds)) (k : Keep [a, dp] S S') : S' x = some (.lst ds) := by
  have n := h.nlst hx
  exact k.at hx (by simp [n.1, n.2])
def covF (fs : List F1) : Bool → Int → Prop := fun b v => ∃ f ∈ fs, f.b = b ∧ f.s ≤ v ∧ v ≤ f.u
theorem cov_snoc {fs : List F1} {i : Nat} {f : F1} (h : fs[i]? = some f) (b : Bool) (v : Int) : cu (covF (fs.take i)) f b v ↔ covF (fs.take (i + 1)) b v := by
  unfold cu covF
  rw [List.take_succ, h]
  simp only [Option.toList_some, List.mem_append, List.mem_singleton]
  constructor
  · rintro (⟨g, hg, c⟩ | ⟨e, c⟩)
    · exact ⟨g, .inl hg, c⟩
    · exact ⟨f, .inr rfl, e.symm, c⟩
  · rintro ⟨g, hg | rfl, c⟩
    · exact .inl ⟨g, hg, c⟩
    · exact .inr ⟨c.1.symm, c.2⟩
theorem cov_in {fs : List F1} {f : F1} (h : f ∈ fs) (b : Bool) (v : Int) : cu (covF fs) f b v ↔ covF fs b v := ⟨fun z => by
  rcases z with z | ⟨e, c⟩
  · exact z
  · exact ⟨f, h, e.symm, c⟩, .inl⟩
theorem cov_mem {fs ts : List F1} (h : ∀ x, x ∈ ts ↔ x ∈ fs) (b : Bool) (v : Int) : covF ts b v ↔ covF fs b v := ⟨fun ⟨f, hf, c⟩ => ⟨f, (h f).mp hf, c⟩, fun ⟨f, hf, c⟩ => ⟨f, (h f).mpr hf, c⟩⟩
/-- what is known at a version that is known -/
theorem KV.at {m : KM} {nw : Int} {C : Bool → Int → Prop} (k : KV m nw C) {b : Bool} {v : Int} (h : C b v) : ∃ x, (mget m (rd b)).find? (inS v) = some x ∧ x.o = TT b v := by
  obtain ⟨x, hx, a, c⟩ := (k.can b).all v h
  cases e : (mget m (rd b)).find? (inS v) with
  | none => exact absurd (by simp [inS, a, c]) (List.find?_eq_none.mp e x hx)
  | some y =>
    have hy := List.find?_some e
    simp [inS] at hy
    exact ⟨y, rfl, (((k.can b).cov y (List.mem_of_find?_eq_some e)).2 v hy.1 hy.2).2.symm⟩
theorem KV.at_none {m : KM} {nw : Int} {C : Bool → Int → Prop} (k : KV m nw C) {b : Bool} {v : Int} (h : ¬ C b v) : (mget m (rd b)).find? (inS v) = none := by
  rw [List.find?_eq_none]
  intro x hx hy
  simp [inS] at hy
  exact h (((k.can b).cov x hx).2 v hy.1 hy.2).1
theorem KV.no {m : KM} {nw : Int} {C : Bool → Int → Prop} (k : KV m nw C) {r : D} (h0 : r ≠ rd false) (h1 : r ≠ rd true) : mget m r = [] := by
  have : ¬ (mfind m r).isSome = true := by
    rw [mfind_keys]
    rcases k.keys with e | e | e | e | e <;> rw [e] <;> simp [h0, h1]
  unfold mget
  cases e : mfind m r with
  | none => rfl
  | some x => rw [e] at this; simp at this
theorem KV.facts_shw {m : KM} {nw : Int} {C : Bool → Int → Prop} (k : KV m nw C) : (∀ d ∈ allF m (sortD (m.map (·.1))), shw 100 d = true) ∧ (allF m (sortD (m.map (·.1)))).length ≤ 60 := by
  obtain ⟨s1, s2, s3⟩ := k.srt
  constructor
  · intro d hd
    unfold allF at hd
    obtain ⟨j, hj, hd⟩ := List.mem_flatMap.mp hd
    obtain ⟨x, hx, rfl⟩ := List.mem_map.mp hd
    obtain ⟨_, b, rfl⟩ := s3 j hj
    have hc := (k.can b).cov x hx
    have a := hc.2 x.f (Int.le_refl _) hc.1
    have c := hc.2 x.l hc.1 (Int.le_refl _)
    have r1 := k.rng b _ a.1
    have r2 := k.rng b _ c.1
    have e : x.o = tl (tv b x.f) := a.2.symm
    have hv : 0 ≤ tv b x.f ∧ tv b x.f < 100 := by unfold tv; split <;> omega
    have : x = ⟨x.f, x.l, tl (tv b x.f)⟩ := by rw [← e]
    rw [this]
    exact fact_shw hv (by omega) (by omega)
  · have hb : ∀ j, (mget m j).length ≤ 30 := by
      intro j
      by_cases h0 : j = rd false
      · subst h0; exact k.llen false
      · by_cases h1 : j = rd true
        · subst h1; exact k.llen true
        · rw [k.no h0 h1]; simp
    have := allF_len hb (sortD (m.map (·.1)))
    rw [s2] at this
    have := k.mlen
    omega
theorem KV.allF_same {m m2 : KM} {nw nw2 : Int} {C : Bool → Int → Prop} (k : KV m nw C) (k2 : KV m2 nw2 C) : allF m (sortD (m.map (·.1))) = allF m2 (sortD (m2.map (·.1))) := by
  obtain ⟨_, e, h⟩ := k.same k2
  have : ∀ j, mget m j = mget m2 j := by
    intro j
    by_cases h0 : j = rd false
    · subst h0; exact h _
    · by_cases h1 : j = rd true
      · subst h1; exact h _
      · rw [k.no h0 h1, k2.no h0 h1]
  rw [e]
  unfold allF
  simp only [this]
theorem c_facts_k {n : Nat} {a dp : Addr} {m : KM} {nw : Int} {C : Bool → Int → Prop} {S : Store} {Q : QD} {E : QX} (h : KN S a dp m nw) (k : KV m nw C) (q : ∀ p S', S p = none → Keep [] S S' → S' p = some (.lst (allF m (sortD (m.map (·.1))))) → Q (.ref p) S') : (PP (n + 2)).call 26 [.ref a] S Q E := by
  obtain ⟨s1, s2, s3⟩ := k.srt
  refine c_facts_of h s1 (by have := k.mlen; omega) (fun j => ?_) (fun j hj => ?_) s2 q
  · by_cases h0 : j = rd false
    · subst h0; have := k.llen false; omega
    · by_cases h1 : j = rd true
      · subst h1; have := k.llen true; omega
      · rw [k.no h0 h1]; simp
  · obtain ⟨z, b, rfl⟩ := s3 j hj
    exact ⟨z, rd_fits b⟩
theorem c_alike_tl {n : Nat} {v : Int} {S : Store} {Q : QD} {E : QX} (h : 0 ≤ v ∧ v < 100) (q : Q (.bl true) S) : (PP (n + 1)).call i_law_alike [tl v, tl v] S Q E := by
  refine c_alike (rep_tupq (W := 100) (tl_shw h) (by decide) (rep_tupq (W := 100) (tl_shw h) (by decide) ?_))
  simp [wpEq]
  exact q
theorem c_alike_lst {n : Nat} {x y : Addr} {ds : List D} {S : Store} {Q : QD} {E : QX} (hx : S x = some (.lst ds)) (hy : S y = some (.lst ds)) (h : ∀ d ∈ ds, shw 100 d = true) (hl : ds.length ≤ 60) (q : Q (.bl true) S) : (PP (n + 1)).call i_law_alike [.ref x, .ref y] S Q E := by
  have b : 10 * (ds.length * (100 + 1)) + 8 ≤ LIM := by unfold LIM; omega
  refine c_alike (rep_lst hx h b (rep_lst hy h b ?_))
  simp [wpEq]
  exact q
end L
end Fv

set_option Elab.async false
set_option linter.all false
set_option maxRecDepth 100000
set_option maxHeartbeats 4000000
namespace Fv
open PySem (Addr PyData)
namespace L
theorem law_true : pd.true_ 12 f_law := by
  intro ns hl
  simp [f_law, b_law, Fd.start, Fd.full, kBody]
  refine c_digits fun p1 hp1 ds => ?_
  refine ⟨by unfold LIM; omega, ?_⟩
  intro b hb
  have B0 : Box (su (su (fun _ => none) p1 (.lst (ds.map .int))) b (.lst [.ref p1, .int 0])) b p1 := by
    have n1 : p1 ≠ b := ne_new (c := .lst (ds.map .int)) su_same hb
    exact ⟨0, ds, su_same, Int.le_refl _, by rw [su_ne n1]; exact su_same, n1⟩
  generalize su (su (fun _ => none) p1 (.lst (ds.map .int))) b (.lst [.ref p1, .int 0]) = S0 at *
  refine c_draw' B0 (by decide) fun k S1 k0 k1 B1 _ => ?_
  simp
  refine c_facts B1 (by omega) fun fp S2 fs _ B2 _ F2 ok2 len2 => ?_
  have nfb := B2.fl F2
  -- the first
  intro a1 ha1
  refine c_init su_same fun d1 S3 hd1 N3 K3 => ?_
  refine ⟨rfl, ?_⟩
  have K3' : Keep [] S2 S3 := Keep.drop (p := a1) ((Keep.new ha1).trans K3) ha1
  have B3 := B2.keep K3' (by simp) (by simp)
  have F3 := K3'.at F2 (by simp)
  clear K3 K3' B2 F2
  -- the second
  intro a2 ha2
  have N3k := N3.keep0 (Keep.new (A := []) (c := .ins 3 []) ha2)
  refine c_init su_same fun d2 S4 hd2 N4 K4 => ?_
  refine ⟨rfl, ?_⟩
  have na : a1 ≠ a2 := ne_new N3.1 ha2
  have nd : d1 ≠ d2 := by
    obtain ⟨_, kv, y, _⟩ := N3k
    exact ne_new y hd2
  have K4' : Keep [] S3 S4 := Keep.drop (p := a2) ((Keep.new ha2).trans K4) ha2
  have B4 := B3.keep K4' (by simp) (by simp)
  have F4 := K4'.at F3 (by simp)
  have M4 := N3.keep0 K4'
  clear K4 K4' B3 F3 N3 N3k hd1 hd2 ha1 ha2
  -- what one learns
  refine srcI_lst F4 ?_
  refine forW_inv (fun i σ S' => ∃ m1 n1, Box S' b p1 ∧ S' fp = some (.lst (fs.map F1.d)) ∧ KN S' a1 d1 m1 n1 ∧ KN S' a2 d2 [] (-1) ∧ KV m1 n1 (covF (fs.take i)) ∧ ∃ o5 o6, σ = [some (.rl (ns.map .int)), some (.ref b), some (.ref fp), some (.ref a1), some (.ref a2), o5, o6]) ⟨[], -1, B4, F4, M4, N4, KV.nil.iff (by simp [covF]), _, _, rfl⟩ ?_ ?_
  · rintro i d σ S5 X hd ⟨m1, n1, B5, F5, M5, N5, V5, o5, o6, rfl⟩ hX
    rw [List.getElem?_map] at hd
    obtain ⟨f, hf, rfl⟩ := Option.map_eq_some_iff.mp hd
    refine ⟨F5, ?_⟩
    simp
    refine wpMet_of M5.1 (mth_3_0 _) ?_
    refine c_learn' M5 V5 (ok2 f (List.mem_of_getElem? hf)) fun S6 m1' n1' r K6 M6 V6 _ => ?_
    exact hX _ _ ⟨m1', n1', B5.kn M5 K6, M5.fl F5 K6, M6, M5.other N5 na nd K6, V6.iff (cov_snoc hf), _, _, rfl⟩
  rintro σ S5 ⟨m1, n1, B5, F5, M5, N5, V5, o5, o6, rfl⟩
  refine ⟨F5, ?_⟩
  rw [List.length_map, List.take_length] at V5
  clear B4 F4 M4 N4
  simp
  -- what two learns
  refine c_turned B5 F5 nfb (by omega) fun tp S6 ts _ B6 K6 T6 hm => ?_
  have M6 := M5.box B5 K6
  have N6 := N5.box B5 K6
  have F6 := K6.at F5 (by simp [nfb])
  refine srcI_lst T6 ?_
  refine forW_inv (fun i σ S' => ∃ m2 n2, S' tp = some (.lst (ts.map F1.d)) ∧ S' fp = some (.lst (fs.map F1.d)) ∧ KN S' a1 d1 m1 n1 ∧ KN S' a2 d2 m2 n2 ∧ KV m2 n2 (covF (ts.take i)) ∧ ∃ o5 o6, σ = [some (.rl (ns.map .int)), some (.ref b), some (.ref fp), some (.ref a1), some (.ref a2), o5, o6]) ⟨[], -1, T6, F6, M6, N6, KV.nil.iff (by simp [covF]), _, _, rfl⟩ ?_ ?_
  · rintro i d σ S7 X hd ⟨m2, n2, T7, F7, M7, N7, V7, o5, o6, rfl⟩ hX
    rw [List.getElem?_map] at hd
    obtain ⟨f, hf, rfl⟩ := Option.map_eq_some_iff.mp hd
    refine ⟨T7, ?_⟩
    simp
    refine wpMet_of N7.1 (mth_3_0 _) ?_
    refine c_learn' N7 V7 (ok2 f ((hm f).mp (List.mem_of_getElem? hf))) fun S8 m2' n2' r K8 N8 V8 _ => ?_
    exact hX _ _ ⟨m2', n2', N7.fl T7 K8, N7.fl F7 K8, N7.other M7 na.symm nd.symm K8, N8, V8.iff (cov_snoc hf), _, _, rfl⟩
  rintro σ S7 ⟨m2, n2, T7, F7, M7, N7, V7, o5, o6, rfl⟩
  refine ⟨T7, ?_⟩
  rw [List.length_map, List.take_length] at V7
  have V7 := V7.iff (cov_mem hm)
  clear B5 F5 M5 N5 B6 T6 M6 N6 F6 K6 T7
  -- they know alike
  simp
  refine wpMet_of M7.1 (mth_3_6 _) ?_
  refine c_facts_k M7 V5 fun q1 S8 _ K8 e8 => ?_
  have M8 := M7.keep0 K8
  have N8 := N7.keep0 K8
  have F8 := K8.at F7 (by simp)
  clear M7 N7 F7
  refine wpMet_of N8.1 (mth_3_6 _) ?_
  refine c_facts_k N8 V7 fun q2 S9 _ K9 e9 => ?_
  have M9 := M8.keep0 K9
  have N9 := N8.keep0 K9
  have F9 := K9.at F8 (by simp)
  have e8 := K9.at e8 (by simp)
  rw [V7.allF_same V5] at e9
  refine c_alike_lst e8 e9 V5.facts_shw.1 V5.facts_shw.2 ?_
  simp
  refine wpMet_of M9.1 (mth_3_7 _) ?_
  refine c_newest M9 ?_
  refine wpMet_of N9.1 (mth_3_7 _) ?_
  refine c_newest N9 ?_
  have en := (V5.same V7).1
  simp [en]
  clear M8 N8 F8 e8 e9 K8 K9
  -- each is known
  refine srcI_lst F9 ?_
  refine forW_inv (fun i σ S' => ∃ m1 n1 m2 n2, S' fp = some (.lst (fs.map F1.d)) ∧ KN S' a1 d1 m1 n1 ∧ KN S' a2 d2 m2 n2 ∧ KV m1 n1 (covF fs) ∧ KV m2 n2 (covF fs) ∧ ∃ o5 o6, σ = [some (.rl (ns.map .int)), some (.ref b), some (.ref fp), some (.ref a1), some (.ref a2), o5, o6]) ⟨m1, n1, m2, n2, F9, M9, N9, V5, V7, _, _, rfl⟩ ?_ ?_
  · clear F9 M9 N9 V5 V7 en
    rintro i d σ S7 X hd ⟨m1, n1, m2, n2, F7, M7, N7, V5, V7, o5, o6, rfl⟩ hX
    rw [List.getElem?_map] at hd
    obtain ⟨f, hf, rfl⟩ := Option.map_eq_some_iff.mp hd
    have hfm := List.mem_of_getElem? hf
    have okf := ok2 f hfm
    refine ⟨F7, ?_⟩
    simp
    refine wpMet_of N7.1 (mth_3_0 _) ?_
    refine c_learn' N7 V7 okf fun S8 m2' n2' r2 K8 N8 V8 r2f => ?_
    have r2f := r2f fun v a c => ⟨f, hfm, rfl, a, c⟩
    subst r2f
    have M8 := N7.other M7 na.symm nd.symm K8
    have F8 := N7.fl F7 K8
    have V8 := V8.iff (cov_in hfm)
    simp [isSc]
    refine wpMet_of M8.1 (mth_3_0 _) ?_
    refine c_learn' M8 V5 okf fun S9 m1' n1' r1 K9 M9 V9 r1f => ?_
    have r1f := r1f fun v a c => ⟨f, hfm, rfl, a, c⟩
    subst r1f
    have N9 := M8.other N8 na nd K9
    have F9 := M8.fl F8 K9
    have V9 := V9.iff (cov_in hfm)
    clear F7 M7 N7 V5 V7 M8 N8 F8 K8 K9
    simp [isSc, F1.d]
    have okf' := okf
    unfold F1.ok at okf'
    refine ⟨⟨by unfold r62; omega, by unfold r62; omega⟩, ?_⟩
    refine forW_inv (fun j σ S' => S' fp = some (.lst (fs.map F1.d)) ∧ KN S' a1 d1 m1' n1' ∧ KN S' a2 d2 m2' n2' ∧ ∃ o6, σ = [some (.rl (ns.map .int)), some (.ref b), some (.ref fp), some (.ref a1), some (.ref a2), some f.d, o6]) ⟨F9, M9, N9, _, rfl⟩ ?_ ?_
    · rintro j d σ S' Y hd2 ⟨F, M, N, o6, rfl⟩ hY
      obtain ⟨rfl, hj⟩ := rngL_get hd2
      refine ⟨trivial, ?_⟩
      have hC : covF fs f.b (f.s + j) := ⟨f, hfm, rfl, by omega, by omega⟩
      have ht : TT f.b (f.s + j) = tl (tv f.b f.s) := tv_in okf (by omega) (by omega)
      have hv : 0 ≤ tv f.b f.s ∧ tv f.b f.s < 100 := by have := tv_bd f okf; omega
      simp [F1.d]
      refine wpMet_of N.1 (mth_3_2 _) ?_
      refine c_at N (rd_fits _) fun S1 k1 => ?_
      obtain ⟨x, hx, ho⟩ := V8.at hC
      rw [hx]
      simp only [ho, ht]
      refine c_alike_tl hv ?_
      have M1 := M.keep0 k1
      simp
      refine wpMet_of M1.1 (mth_3_2 _) ?_
      refine c_at M1 (rd_fits _) fun S2 k2 => ?_
      obtain ⟨x, hx, ho⟩ := V9.at hC
      rw [hx]
      simp only [ho, ht]
      refine c_alike_tl hv ?_
      simp
      exact hY _ _ ⟨k2.at (k1.at F (by simp)) (by simp), M1.keep0 k2, (N.keep0 k1).keep0 k2, _, rfl⟩
    · rintro σ S' ⟨F, M, N, o6, rfl⟩
      exact ⟨trivial, hX _ _ ⟨m1', n1', m2', n2', F, M, N, V9, V8, _, _, rfl⟩⟩
  · clear F9 M9 N9 V5 V7 en
    rintro σ S7 ⟨m1, n1, m2, n2, F7, M7, N7, V5, V7, o5, o6, rfl⟩
    refine ⟨F7, ?_⟩
    have l3 : 3 ≤ LIM := l3
    have l2 : 2 ≤ LIM := by unfold LIM; omega
    simp [l3, l2]
    refine wpMet_of N7.1 (mth_3_2 _) ?_
    refine c_at (r := rd false) N7 (rd_fits _) fun S8 k8 => ?_
    have n30 : ¬ covF fs false 30 := fun h => by have := V7.rng _ _ h; omega
    rw [V7.at_none n30]
    have N8 := N7.keep0 k8
    simp [l2]
    refine wpMet_of N8.1 (mth_3_2 _) ?_
    refine c_at N8 (by decide) fun S9 k9 => ?_
    rw [V7.no (by decide) (by decide)]
    simp
end L
end Fv

set_option Elab.async false
set_option linter.all false
set_option maxRecDepth 100000
set_option maxHeartbeats 4000000
namespace Fv
namespace L
end L
end Fv
open PySem PySem.W PySem.Calls PyProof.Rows
theorem PySem.Challenge.cw_farfacts_k50_order_of_facts_does_not_mat_holds : PySem.Challenge.rw_farfacts_k50_order_of_facts_does_not_mat.Holds := by
  w_on; o_law
  refine HandSHeadRun.head_any (r := Fv.L.R) (q := view Fv.L.R.prog [37]) (H := Fv.L.pd.hook 5) (ob := Fv.L.pd.ob 5) (M := 6000) (loose := Fv.L.loose) (d := HandSHeadRun.topDef Fv.L.R.prog 37) (kwd := []) (Fv.PD.ob_eq Fv.L.pd 5)
    (by kernel_rfl) (fun s => by kernel_rfl) Fv.L.run (by kernel_rfl) (by kernel_rfl) (by kernel_rfl) (by rfl) (by first | assumption | decide +kernel) (by decide +kernel) ⟨rfl, rfl, rfl, rfl, rfl, by decide +kernel⟩ ?hw ?hc
  case hw => w_witness2
  case hc =>
    refine Fv.walk_ofG (l := PySem.Challenge.rw_farfacts_k50_order_of_facts_does_not_mat) (n := 63) (k := 29) (x := "_law_script") rfl (by decide) (by kernel_rfl) ⟨rfl, by decide, by decide⟩ ?F
    intro w mg fa h Y G hmg0
    obtain ⟨K, KX, c⟩ := Y
    have hmg : mg ("law" : PySem.Str) = some (.ref fa) := by
      have e : (HandSHeadRun.topDef Fv.L.R.prog 37).name = ("law" : PySem.Str) := by kernel_rfl
      rw [← e]
      exact hmg0
    obtain ⟨fd, sp, h1, h2, h3⟩ := Fv.PD.facts (P := PySem.Challenge.rw_farfacts_k50_order_of_facts_does_not_mat.prog) (w := w) (n := 12) (fl := 18) (d := Fv.L.f_law) (x := "_law_script") (nm := "law") Fv.L.stat_ok Fv.L.fld_ok rfl rfl rfl rfl rfl Fv.L.law_true KX G c hmg
    exact ⟨K, fd, sp, KX, h1, h2, h3⟩

