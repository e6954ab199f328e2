import PyProof.Rows.All
import HandS.Codes
import HandS.Deep
import HandS.Defaults
import HandS.Ends
import HandS.Exc
import HandS.ExcOwn
import HandS.Flow
import HandS.ForMost
import HandS.Head0
import HandS.Head1
import HandS.Head2
import HandS.HeadEnd
import HandS.HeadHook1
import HandS.HeadHook2
import HandS.IsInst
import HandS.Iter
import HandS.More
import HandS.Set
import HandS.Strs
import HandS.Style
import HandS.TryOnly
import HandS.TupAny
import HandS.TupMul
import HandS.Wide
import HandS.WordsExc
import HandS.Zip
import KE.KStateDown
import Lean
import OpenK.AllK
import PyProof.EqLayable
import PyProof.Rows.SortStr
import PyProof.Rows.StrMeet
import PyProof.Rows.TmSorted
import PySem.Challenge.RW_knownahead_k29_whole_known_inputs
import PySem.Spec
import Wide.All
import Wide.FinOn
set_option Elab.async false
set_option linter.all false
set_option autoImplicit false
set_option maxRecDepth 100000
set_option maxHeartbeats 16000000
/-! DE1: a small language of Python's own pieces over deep values, and its evaluator. -/
namespace DE
open PySem (Str PyData sizeLine)

/-- a deep value. tup: a tuple with no store object inside; mix: a tuple that may hold some; ref: an object of the store; glo: a def or a class of the module, by its name's code -/
inductive D where
  | non | bl (b : Bool) | int (i : Int) | str (x : Str) | tup (ds : List D) | mix (ds : List D) | ref (n : Nat) | glo (c : Nat)
  deriving Inhabited
def D.pure : D → Bool
  | .mix _ => false
  | .ref _ => false
  | _ => true
def mkT (ds : List D) : D := match ds.all D.pure with
  | true => .tup ds
  | false => .mix ds
mutual
def below (m : Nat) : D → Bool
  | .ref n => Nat.blt n m
  | .mix ds => belows m ds
  | _ => true
def belows (m : Nat) : List D → Bool
  | [] => true
  | d :: ds => below m d && belows m ds
end
/-- an object of the store: a list, the locked script, a dict (keys ints and texts) -/
inductive O where
  | lst (ds : List D) | fl (ds : List D) | dk (kvs : List (D × D))
  deriving Inhabited
abbrev Sto := List O
abbrev Env := List (Option D)
inductive R (α : Type) where
  | ok (a : α) (S : Sto) | ex (c : Nat) (x : D) (S : Sto) | no
namespace R
def bind {α β : Type} : R α → (α → Sto → R β) → R β
  | .ok a S, f => f a S
  | .ex c x S, _ => .ex c x S
  | .no, _ => .no
def ofO {α : Type} (S : Sto) : Option α → R α
  | some a => .ok a S
  | none => .no
end R

inductive Bop where | add | sub | mul | fdiv | mod | pow
inductive Cop where | eq | ne | lt | le | gt | ge | is | isn | isin | notin
inductive Blt where
  | len | all | any | list | tuple | abs | int | max2 | sum | sorted | dict | lenset | isI | isB | isS | isT | isL
inductive Mth where | append | extend | pop | get1
inductive Tg where | v (i : Nat) | t (is : List Nat)
mutual
inductive Ex where
  | loc (i : Nat) | cst (d : D)
  | bin (o : Bop) (a b : Ex) | cmp (o : Cop) (a b : Ex) | chn (o p : Cop) (a b c : Ex)
  | and (a b : Ex) | or (a b : Ex) | not (a : Ex) | neg (a : Ex) | ite (c a b : Ex)
  | tup (es : Exs) | lst (es : Exs) | dic0
  | call (f : Nat) (es : Exs) | blt (b : Blt) (es : Exs) | mth (m : Mth) (o : Ex) (es : Exs)
  | idx (a b : Ex) | slc (a lo hi : Ex) | rev (a : Ex) | ci (a : Ex)
  | lc (own : List Nat) (g : Tg) (it : Itx) (cs : Exs) (e : Ex)
inductive Exs where | nil | cons (e : Ex) (es : Exs)
inductive Itx where
  | seq (e : Ex) | rng (e : Ex) | enu (e : Ex) | zip (a b : Ex)
end
inductive Ss where
  | asg (i : Nat) (e : Ex) | asgT (is : List Nat) (e : Ex) | par (is : List Nat) (es : Exs) | setI (o i e : Ex)
  | ret (e : Ex) | iff (c : Ex) (a b : List Ss) | whl (kill : List Nat) (c : Ex) (b : List Ss) | for (kill : List Nat) (g : Tg) (it : Itx) (b : List Ss)
  | exp (e : Ex) | pass | brk | cnt | rse (c : Nat) | nev

/-! ### values -/
def seqOf (S : Sto) : D → Option (List D)
  | .tup ds => some ds
  | .mix ds => some ds
  | .ref n => match S[n]? with
    | some (.lst ds) => some ds
    | some (.fl ds) => some ds
    | _ => none
  | _ => none
def tupOf : D → Option (List D)
  | .tup ds => some ds
  | .mix ds => some ds
  | _ => none
def lstOf (S : Sto) : D → Option (Nat × List D)
  | .ref n => match S[n]? with
    | some (.lst ds) => some (n, ds)
    | _ => none
  | _ => none
def optAll {α β : Type} (f : α → Option β) : List α → Option (List β)
  | [] => some []
  | a :: l => match f a with
    | none => none
    | some b => match optAll f l with
      | none => none
      | some bs => some (b :: bs)
/-- the data that a value is -/
def toP (S : Sto) : Nat → D → Option PyData
  | 0, _ => none
  | f + 1, d => match d with
    | .non => some .none
    | .bl b => some (.bool b)
    | .int i => some (.int i)
    | .str x => some (.str x)
    | .tup ds => (optAll (fun d => toP S f d) ds).map .tuple
    | .mix ds => (optAll (fun d => toP S f d) ds).map .tuple
    | .ref n => match S[n]? with
      | some (.lst ds) => (optAll (fun d => toP S f d) ds).map .list
      | some (.fl ds) => (optAll (fun d => toP S f d) ds).map .list
      | _ => none
    | .glo _ => none
def eqB (S : Sto) (a b : D) : Option Bool := match toP S 5000 a, toP S 5000 b with
  | some x, some y => match x.canLay0 && y.canLay0 && Nat.ble (min x.depth y.depth) 64 with
    | true => some (PyData.eqv x y)
    | false => none
  | _, _ => none
/-- a flat value (what `in` compares) -/
def flat : D → Bool
  | .non => true
  | .bl _ => true
  | .int _ => true
  | .str _ => true
  | _ => false
def eqF : D → D → Bool
  | .non, .non => true
  | .bl a, .bl b => a == b
  | .int a, .int b => decide (a = b)
  | .bl a, .int b => decide ((if a then 1 else 0) = b)
  | .int a, .bl b => decide (a = (if b then 1 else 0))
  | .str a, .str b => decide (a = b)
  | _, _ => false
def boolOf : D → Option Bool
  | .bl b => some b
  | _ => none
def intOf : D → Option Int
  | .int i => some i
  | _ => none
def strOf : D → Option Str
  | .str x => some x
  | _ => none
def newL (ds : List D) (S : Sto) : R D := match Nat.ble ds.length sizeLine with
  | true => .ok (.ref S.length) (S ++ [.lst ds])
  | false => .no
def small (i : Int) : Bool := decide (-(2 ^ 64) < i ∧ i < 2 ^ 64)

def bin (o : Bop) (a b : D) (S : Sto) : R D := match o, a, b with
  | .add, .int i, .int j => .ok (.int (i + j)) S
  | .sub, .int i, .int j => .ok (.int (i - j)) S
  | .mul, .int i, .int j => match small i || small j with
    | true => .ok (.int (i * j)) S
    | false => .no
  | .fdiv, .int i, .int j => match decide (0 < j) && decide (j.natAbs.log2 < 9000) with
    | true => .ok (.int (i / j)) S
    | false => .no
  | .mod, .int i, .int j => match decide (0 < j) with
    | true => .ok (.int (i % j)) S
    | false => .no
  | .pow, .int i, .int j => match decide (0 ≤ j) && decide (j ≤ 1000000) && decide (i.natAbs < 2 ^ 64) with
    | true => .ok (.int (i ^ j.toNat)) S
    | false => .no
  | .add, .str x, .str y => match Nat.ble (x.length + y.length) sizeLine with
    | true => .ok (.str (x ++ y)) S
    | false => .no
  | .add, .ref _, .ref _ => match lstOf S a, lstOf S b with
    | some (_, ds), some (_, es) => newL (ds ++ es) S
    | _, _ => .no
  | .mul, .ref _, .int k => match lstOf S a with
    | some (_, ds) => match decide (0 ≤ k) && Nat.ble (ds.length * k.toNat) sizeLine && decide (k < 2 ^ 63) with
      | true => newL (List.replicate k.toNat ds).flatten S
      | false => .no
    | none => .no
  | .mul, _, .int k => match tupOf a with
    | some ds => match decide (0 ≤ k) && decide (k ≤ 1000) && Nat.ble ds.length 1000 with
      | true => .ok (mkT (List.replicate k.toNat ds).flatten) S
      | false => .no
    | none => .no
  | .add, _, _ => match tupOf a, tupOf b with
    | some ds, some es => match Nat.ble (ds.length + es.length) sizeLine with
      | true => .ok (mkT (ds ++ es)) S
      | false => .no
    | _, _ => .no
  | _, _, _ => .no
def cmpI (o : Cop) (i j : Int) : Option Bool := match o with
  | .lt => some (decide (i < j))
  | .le => some (decide (i ≤ j))
  | .gt => some (decide (j < i))
  | .ge => some (decide (j ≤ i))
  | _ => none
def isD (a b : D) : Option Bool := match a, b with
  | .non, .non => some true
  | _, .non => some false
  | .bl a, .bl b => some (a == b)
  | _, _ => none
def dkGet (kvs : List (D × D)) (k : D) : Option D := match kvs with
  | [] => none
  | (k', v) :: r => match eqF k' k with
    | true => some v
    | false => dkGet r k
def dkPut (kvs : List (D × D)) (k v : D) : List (D × D) := match kvs.any fun p => eqF p.1 k with
  | true => kvs.map fun p => match eqF p.1 k with
    | true => (p.1, v)
    | false => p
  | false => kvs ++ [(k, v)]
def keyOk : D → Bool
  | .int _ => true
  | .str _ => true
  | _ => false
def inD (S : Sto) (a b : D) : Option Bool := match b with
  | .str y => match a with
    | .str x => match Nat.beq x.cps.size 1 with
      | true => some (y.cps.toList.contains (x.cps.getD 0 0))
      | false => none
    | _ => none
  | .ref n => match S[n]? with
    | some (.dk kvs) => match keyOk a with
      | true => some (dkGet kvs a).isSome
      | false => none
    | some (.lst ds) => match flat a && ds.all flat with
      | true => some (ds.any fun d => eqF d a)
      | false => (match toP S 70 a, toP S 70 b with
        | some x, some (.list ys) => match PySem.SeqAt.shaped x && PySem.SeqAt.shaped (.list ys) with
          | true => some (ys.any fun z => PyData.eqv z x)
          | false => none
        | _, _ => none)
    | _ => none
  | _ => match tupOf b with
    | some ds => match flat a && ds.all flat with
      | true => some (ds.any fun d => eqF d a)
      | false => none
    | none => none
def cmp (o : Cop) (a b : D) (S : Sto) : Option Bool := match o with
  | .eq => eqB S a b
  | .ne => (eqB S a b).map (!·)
  | .is => isD a b
  | .isn => (isD a b).map (!·)
  | .isin => inD S a b
  | .notin => (inD S a b).map (!·)
  | o => match a, b with
    | .int i, .int j => cmpI o i j
    | _, _ => none
/-- a place in a sequence -/
def ixN (n : Nat) (i : Int) : Option Nat := if 0 ≤ i then (if i < n then some i.toNat else none) else if -(n : Int) ≤ i then some (i + n).toNat else none
def idx (a b : D) (S : Sto) : Option D := match a, b with
  | .str x, .int i => match Nat.ble x.length sizeLine with
    | true => (match ixN x.cps.size i with
      | some j => (x.cps[j]?).map fun c => .str ⟨#[c]⟩
      | none => none)
    | false => none
  | .ref n, .int i => match S[n]? with
    | some (.lst ds) => (ixN ds.length i).bind fun j => ds[j]?
    | some (.fl ds) => (ixN ds.length i).bind fun j => ds[j]?
    | some (.dk kvs) => dkGet kvs b
    | _ => none
  | .ref n, .str _ => match S[n]? with
    | some (.dk kvs) => dkGet kvs b
    | _ => none
  | _, .int i => match tupOf a with
    | some ds => (ixN ds.length i).bind fun j => ds[j]?
    | none => none
  | _, _ => none
def sIx (n d : Nat) : Option Int → Nat
  | none => d
  | some v => if v < 0 then (v + (n : Int)).toNat else min v.toNat n
def cut (ds : List D) (lo hi : Option Int) : List D := (ds.drop (sIx ds.length 0 lo)).take (sIx ds.length ds.length hi - sIx ds.length 0 lo)
def partOf : D → Option (Option Int)
  | .non => some none
  | .int i => some (some i)
  | _ => none
def slc (a lo hi : D) (S : Sto) : R D := match partOf lo, partOf hi with
  | some l, some h => match a with
    | .ref n => (match S[n]? with
      | some (.lst ds) => newL (cut ds l h) S
      | some (.fl ds) => newL (cut ds l h) S
      | _ => .no)
    | _ => (match tupOf a with
      | some ds => .ok (mkT (cut ds l h)) S
      | none => .no)
  | _, _ => .no
def rev (a : D) (S : Sto) : R D := match lstOf S a with
  | some (_, ds) => newL ds.reverse S
  | none => .no
def pairs (S : Sto) : List D → Option (List (D × D))
  | [] => some []
  | d :: r => match tupOf d with
    | some [k, v] => (match keyOk k with
      | true => (pairs S r).map ((k, v) :: ·)
      | false => none)
    | _ => none
def putAll (kvs : List (D × D)) : List (D × D) → List (D × D)
  | [] => kvs
  | (k, v) :: r => putAll (dkPut kvs k v) r
def insS (x : Str) : List Str → List Str
  | [] => [x]
  | y :: r => match PySem.Spec.ltCps y.cps.toList x.cps.toList with
    | false => x :: y :: r
    | true => y :: insS x r
def sortS (l : List Str) : List Str := l.foldr insS []
def dedup (l : List Str) : List Str := l.foldl (fun acc x => if acc.contains x then acc else acc ++ [x]) []
def one (f : D → Sto → R D) (args : List D) (S : Sto) : R D := match args with
  | [a] => f a S
  | _ => .no
def zero (f : Sto → R D) (args : List D) (S : Sto) : R D := match args with
  | [] => f S
  | _ => .no
def two (f : D → D → Sto → R D) (args : List D) (S : Sto) : R D := match args with
  | [a, b] => f a b S
  | _ => .no
def bLen (a : D) (S : Sto) : R D := match a with
  | .str x => (match Nat.ble x.length sizeLine with
    | true => .ok (.int x.length) S
    | false => .no)
  | .ref n => (match S[n]? with
    | some (.lst ds) => .ok (.int ds.length) S
    | some (.fl ds) => .ok (.int ds.length) S
    | some (.dk kvs) => .ok (.int kvs.length) S
    | none => .no)
  | _ => (match tupOf a with
    | some ds => .ok (.int ds.length) S
    | none => .no)
def bAll (a : D) (S : Sto) : R D := match lstOf S a with
  | some (_, ds) => (match optAll boolOf ds with
    | some bs => .ok (.bl (bs.all id)) S
    | none => .no)
  | none => .no
def bAny (a : D) (S : Sto) : R D := match lstOf S a with
  | some (_, ds) => (match optAll boolOf ds with
    | some bs => .ok (.bl (bs.any id)) S
    | none => .no)
  | none => .no
def bList (a : D) (S : Sto) : R D := match seqOf S a with
  | some ds => newL ds S
  | none => .no
def bTuple (a : D) (S : Sto) : R D := match a with
  | .ref n => (match seqOf S (.ref n) with
    | some ds => .ok (mkT ds) S
    | none => .no)
  | .tup ds => .ok (.tup ds) S
  | .mix ds => .ok (.mix ds) S
  | _ => .no
def bAbs (a : D) (S : Sto) : R D := match a with
  | .int i => .ok (.int (if i < 0 then -i else i)) S
  | _ => .no
def bInt (a : D) (S : Sto) : R D := match a with
  | .int i => .ok (.int i) S
  | _ => .no
def bMax2 (a b : D) (S : Sto) : R D := match a, b with
  | .int i, .int j => .ok (.int (if j > i then j else i)) S
  | _, _ => .no
def bSum (a : D) (S : Sto) : R D := match lstOf S a with
  | some (_, ds) => (match optAll intOf ds with
    | some is => .ok (.int is.sum) S
    | none => .no)
  | none => .no
def bSorted (a : D) (S : Sto) : R D := match a with
  | .ref n => (match S[n]? with
    | some (.dk kvs) => (match optAll strOf (kvs.map (·.1)) with
      | some xs => (match Nat.blt xs.length 64 with
        | true => newL ((sortS xs).map .str) S
        | false => .no)
      | none => .no)
    | _ => .no)
  | _ => .no
def bDict (a : D) (S : Sto) : R D := match lstOf S a with
  | some (_, ds) => (match pairs S ds with
    | some kvs => .ok (.ref S.length) (S ++ [.dk (putAll [] kvs)])
    | none => .no)
  | none => .no
def bLenset (a : D) (S : Sto) : R D := match tupOf a with
  | some ds => (match optAll strOf ds with
    | some xs => (match Nat.blt xs.length 4000 with
      | true => .ok (.int (dedup xs).length) S
      | false => .no)
    | none => .no)
  | none => .no
inductive Ty where | int | bool | str | tuple | list
inductive Kd where | non | bl | int | str | tup | lst | dk
def kindOf (S : Sto) : D → Option Kd
  | .non => some .non
  | .bl _ => some .bl
  | .int _ => some .int
  | .str _ => some .str
  | .tup _ => some .tup
  | .mix _ => some .tup
  | .ref n => match S[n]? with
    | some (.lst _) => some .lst
    | some (.fl _) => some .lst
    | some (.dk _) => some .dk
    | none => none
  | .glo _ => none
def isKd : Ty → Kd → Bool
  | .int, .int => true
  | .int, .bl => true
  | .bool, .bl => true
  | .str, .str => true
  | .tuple, .tup => true
  | .list, .lst => true
  | _, _ => false
/-- isinstance(a, T) -/
def isTy (t : Ty) (S : Sto) (a : D) : Option Bool := match kindOf S a with
  | some k => some (isKd t k)
  | none => none
def bIs (t : Ty) (a : D) (S : Sto) : R D := match isTy t S a with
  | some k => .ok (.bl k) S
  | none => .no
def blt (b : Blt) : List D → Sto → R D := match b with
  | .len => one bLen
  | .all => one bAll
  | .any => one bAny
  | .list => one bList
  | .tuple => one bTuple
  | .abs => one bAbs
  | .int => one bInt
  | .max2 => two bMax2
  | .sum => one bSum
  | .sorted => one bSorted
  | .dict => one bDict
  | .lenset => one bLenset
  | .isI => one (bIs .int)
  | .isB => one (bIs .bool)
  | .isS => one (bIs .str)
  | .isT => one (bIs .tuple)
  | .isL => one (bIs .list)
def setAt (S : Sto) (n : Nat) (o : O) : Sto := S.set n o
def mAppend (o a : D) (S : Sto) : R D := match lstOf S o with
  | some (n, ds) => (match below n a && Nat.blt ds.length sizeLine with
    | true => .ok .non (setAt S n (.lst (ds ++ [a])))
    | false => .no)
  | none => .no
def mExtend (o a : D) (S : Sto) : R D := match lstOf S o with
  | some (n, ds) => (match lstOf S a with
    | some (_, es) => (match belows n es && Nat.ble (ds.length + es.length) sizeLine with
      | true => .ok .non (setAt S n (.lst (ds ++ es)))
      | false => .no)
    | none => .no)
  | none => .no
def mPop (o : D) (S : Sto) : R D := match lstOf S o with
  | some (n, ds) => (match ds[ds.length - 1]? with
    | some a => .ok a (setAt S n (.lst ds.dropLast))
    | none => .no)
  | none => .no
def mGet1 (o a : D) (S : Sto) : R D := match o with
  | .ref n => (match S[n]? with
    | some (.dk kvs) => (match keyOk a with
      | true => .ok ((dkGet kvs a).getD .non) S
      | false => .no)
    | _ => .no)
  | _ => .no
def mth (m : Mth) (o : D) (args : List D) (S : Sto) : R D := match m with
  | .append => one (mAppend o) args S
  | .extend => one (mExtend o) args S
  | .pop => zero (mPop o) args S
  | .get1 => one (mGet1 o) args S
def mthOk (m : Mth) (o : D) (S : Sto) : Bool := match m with
  | .get1 => (match o with
    | .ref n => (match S[n]? with
      | some (.dk _) => true
      | _ => false)
    | _ => false)
  | _ => (lstOf S o).isSome
def setI (o i v : D) (S : Sto) : R Unit := match o with
  | .ref n => (match S[n]? with
    | some (.lst ds) => (match i with
      | .int k => (match ixN ds.length k with
        | some j => (match below n v with
          | true => .ok () (setAt S n (.lst (ds.set j v)))
          | false => .no)
        | none => .no)
      | _ => .no)
    | some (.dk kvs) => (match keyOk i && below n v && Nat.blt kvs.length sizeLine with
      | true => .ok () (setAt S n (.dk (dkPut kvs i v)))
      | false => .no)
    | _ => .no)
  | _ => .no

/-! ### loops -/
/-- what a loop walks: things that stay, a list as it stands at each turn -/
inductive IV where
  | fix (ds : List D) | dyn (n : Nat) | enu (n : Nat) | zip (a b : IV)
def ivGet (S : Sto) (i : Nat) : IV → Option (Option D)
  | .fix ds => some ds[i]?
  | .dyn n => (match S[n]? with
    | some (.lst ds) => some ds[i]?
    | some (.fl ds) => some ds[i]?
    | _ => none)
  | .enu n => (match S[n]? with
    | some (.lst ds) => some ((ds[i]?).map fun d => mkT [.int i, d])
    | _ => none)
  | .zip a b => (match ivGet S i a, ivGet S i b with
    | some (some x), some (some y) => some (some (mkT [x, y]))
    | some _, some _ => some none
    | _, _ => none)
def chars (x : Str) : List D := x.cps.toList.map fun c => .str ⟨#[c]⟩
def ivOf (S : Sto) : D → Option IV
  | .tup ds => some (.fix ds)
  | .mix ds => some (.fix ds)
  | .str x => some (.fix (chars x))
  | .ref n => (match S[n]? with
    | some (.lst _) => some (.dyn n)
    | some (.fl _) => some (.dyn n)
    | _ => none)
  | _ => none
def zipOf (S : Sto) (x y : D) : Option IV := match tupOf x, tupOf y with
  | some ds, some es => some (.zip (.fix ds) (.fix es))
  | none, none => (match ivOf S x, ivOf S y with
    | some (.dyn n), some (.dyn m) => some (.zip (.dyn n) (.dyn m))
    | _, _ => none)
  | _, _ => none
def setMany (env : Env) : List Nat → List D → Env
  | i :: is, d :: ds => setMany (env.set i (some d)) is ds
  | _, _ => env
def bindT (g : Tg) (d : D) (env : Env) : Option Env := match g with
  | .v i => some (env.set i (some d))
  | .t is => (match tupOf d with
    | some ds => (match Nat.beq ds.length is.length with
      | true => some (setMany env is ds)
      | false => none)
    | none => none)
def wipe (env : Env) : List Nat → Env
  | [] => env
  | v :: vs => (wipe env vs).set v none
def envBelow (m : Nat) : Env → Bool
  | [] => true
  | none :: r => envBelow m r
  | some d :: r => below m d && envBelow m r
/-- the store behind a turn: what no name holds is let go -/
def trim (m : Nat) (env : Env) (S : Sto) : Sto := match envBelow m env with
  | true => S.take m
  | false => S
/-- how a comprehension goes on: body tells the new item, if any -/
def lcGo (body : D → Sto → R (Option D)) (iv : IV) : Nat → Nat → List D → Sto → R (List D)
  | 0, _, _, _ => .no
  | f + 1, i, acc, S => match ivGet S i iv with
    | none => .no
    | some none => .ok acc S
    | some (some d) => (match body d S with
      | .ok (some e) S1 => lcGo body iv f (i + 1) (acc ++ [e]) (match below S.length e with
        | true => S1.take S.length
        | false => S1)
      | .ok none S1 => lcGo body iv f (i + 1) acc (S1.take S.length)
      | _ => .no)
/-- the fuel of loops -/
def fuel : Nat := 1000000

abbrev CF := Nat → List D → Sto → R D
mutual
def ev (cf : CF) : Ex → Env → Sto → R D
  | .loc i, env, S => (match env[i]? with
    | some (some d) => .ok d S
    | _ => .no)
  | .cst d, _, S => .ok d S
  | .bin o a b, env, S => (ev cf a env S).bind fun x S1 => (ev cf b env S1).bind fun y S2 => bin o x y S2
  | .cmp o a b, env, S => (ev cf a env S).bind fun x S1 => (ev cf b env S1).bind fun y S2 => (match cmp o x y S2 with
    | some k => .ok (.bl k) S2
    | none => .no)
  | .chn o p a b c, env, S => (ev cf a env S).bind fun x S1 => (ev cf b env S1).bind fun y S2 => (match cmp o x y S2 with
    | some true => (ev cf c env S2).bind fun z S3 => (match cmp p y z S3 with
      | some k => .ok (.bl k) S3
      | none => .no)
    | some false => .ok (.bl false) S2
    | none => .no)
  | .and a b, env, S => (ev cf a env S).bind fun x S1 => (match x with
    | .bl true => ev cf b env S1
    | .bl false => .ok (.bl false) S1
    | _ => .no)
  | .or a b, env, S => (ev cf a env S).bind fun x S1 => (match x with
    | .bl true => .ok (.bl true) S1
    | .bl false => ev cf b env S1
    | _ => .no)
  | .not a, env, S => (ev cf a env S).bind fun x S1 => (match x with
    | .bl k => .ok (.bl (!k)) S1
    | _ => .no)
  | .neg a, env, S => (ev cf a env S).bind fun x S1 => (match x with
    | .int i => .ok (.int (-i)) S1
    | _ => .no)
  | .ite c a b, env, S => (ev cf c env S).bind fun x S1 => (match x with
    | .bl true => ev cf a env S1
    | .bl false => ev cf b env S1
    | _ => .no)
  | .tup es, env, S => (evs cf es env S).bind fun ds S1 => (match Nat.ble ds.length sizeLine with
    | true => .ok (mkT ds) S1
    | false => .no)
  | .lst es, env, S => (evs cf es env S).bind fun ds S1 => newL ds S1
  | .dic0, _, S => .ok (.ref S.length) (S ++ [.dk []])
  | .call f es, env, S => (evs cf es env S).bind fun ds S1 => cf f ds S1
  | .blt b es, env, S => (evs cf es env S).bind fun ds S1 => blt b ds S1
  | .mth m o es, env, S => (ev cf o env S).bind fun x S1 => (match mthOk m x S1 with
    | true => (evs cf es env S1).bind fun ds S2 => mth m x ds S2
    | false => .no)
  | .ci a, env, S => (ev cf a env S).bind fun x S1 => (match x with
    | .int i => .ok (.int i) S1
    | _ => .no)
  | .idx a b, env, S => (ev cf a env S).bind fun x S1 => (ev cf b env S1).bind fun y S2 => R.ofO S2 (idx x y S2)
  | .slc a lo hi, env, S => (ev cf a env S).bind fun x S1 => (ev cf lo env S1).bind fun y S2 => (ev cf hi env S2).bind fun z S3 => slc x y z S3
  | .rev a, env, S => (ev cf a env S).bind fun x S1 => rev x S1
  | .lc own g it cs e, env, S => (evi cf it env S).bind fun iv S1 =>
    (lcGo (fun d S2 => match bindT g d (wipe env own) with
      | none => .no
      | some env2 => (evc cf cs env2 S2).bind fun k S3 => (match k with
        | true => (ev cf e env2 S3).bind fun x S4 => .ok (some x) S4
        | false => .ok none S3)) iv fuel 0 [] S1).bind fun ds S2 => newL ds S2
def evs (cf : CF) : Exs → Env → Sto → R (List D)
  | .nil, _, S => .ok [] S
  | .cons e es, env, S => (ev cf e env S).bind fun d S1 => (evs cf es env S1).bind fun ds S2 => .ok (d :: ds) S2
/-- a comprehension's tests (one at most) -/
def evc (cf : CF) : Exs → Env → Sto → R Bool
  | .nil, _, S => .ok true S
  | .cons e es, env, S => (ev cf e env S).bind fun x S1 => (match x with
    | .bl k => (match es with
      | .nil => .ok k S1
      | _ => .no)
    | _ => .no)
def evi (cf : CF) : Itx → Env → Sto → R IV
  | .seq e, env, S => (ev cf e env S).bind fun d S1 => R.ofO S1 (ivOf S1 d)
  | .rng e, env, S => (ev cf e env S).bind fun d S1 => (match d with
    | .int n => (match decide (n < 2 ^ 62) && decide (-(2 ^ 62) ≤ n) with
      | true => .ok (.fix ((List.range n.toNat).map fun (i : Nat) => D.int i)) S1
      | false => .no)
    | _ => .no)
  | .enu e, env, S => (ev cf e env S).bind fun d S1 => (match lstOf S1 d with
    | some (n, _) => .ok (.enu n) S1
    | none => .no)
  | .zip a b, env, S => (ev cf a env S).bind fun x S1 => (ev cf b env S1).bind fun y S2 => R.ofO S2 (zipOf S2 x y)
end
/-- how a statement ends -/
inductive Fl where | nx | rt (d : D) | bk | ct
inductive RX where
  | ok (f : Fl) (e : Env) (S : Sto) | ex (c : Nat) (x : D) (e : Env) (S : Sto) | no
/-- a statement goes on behind an expression -/
def R.go {α : Type} (env : Env) : R α → (α → Sto → RX) → RX
  | .ok a S, f => f a S
  | .ex c x S, _ => .ex c x env S
  | .no, _ => .no
def whlGo (c : Env → Sto → R D) (b : Env → Sto → RX) (kill : List Nat) : Nat → Env → Sto → RX
  | 0, _, _ => .no
  | f + 1, env, S => (c env S).go env fun k S1 => match k with
    | .bl false => .ok .nx env (trim S.length env S1)
    | .bl true => (match b env S1 with
      | .ok .nx e2 S2 => whlGo c b kill f (wipe e2 kill) (trim S.length (wipe e2 kill) S2)
      | .ok .ct e2 S2 => whlGo c b kill f (wipe e2 kill) (trim S.length (wipe e2 kill) S2)
      | .ok .bk e2 S2 => .ok .nx e2 S2
      | r => r)
    | _ => .no
def forGo (g : Tg) (b : Env → Sto → RX) (kill : List Nat) (iv : IV) : Nat → Nat → Env → Sto → RX
  | 0, _, _, _ => .no
  | f + 1, i, env, S => match ivGet S i iv with
    | none => .no
    | some none => .ok .nx env S
    | some (some d) => (match bindT g d env with
      | none => .no
      | some e1 => (match b e1 S with
        | .ok .nx e2 S2 => forGo g b kill iv f (i + 1) (wipe e2 kill) (trim S.length (wipe e2 kill) S2)
        | .ok .ct e2 S2 => forGo g b kill iv f (i + 1) (wipe e2 kill) (trim S.length (wipe e2 kill) S2)
        | .ok .bk e2 S2 => .ok .nx e2 S2
        | r => r))
mutual
def exec (cf : CF) : Ss → Env → Sto → RX
  | .asg i e, env, S => (ev cf e env S).go env fun d S1 => .ok .nx (env.set i (some d)) S1
  | .asgT is e, env, S => (ev cf e env S).go env fun d S1 => (match bindT (.t is) d env with
    | some e2 => .ok .nx e2 S1
    | none => .no)
  | .par is es, env, S => (evs cf es env S).go env fun ds S1 => (match Nat.beq ds.length is.length with
    | true => .ok .nx (setMany env is ds) S1
    | false => .no)
  | .setI o i e, env, S => (ev cf e env S).go env fun v S1 => (ev cf o env S1).go env fun x S2 => (ev cf i env S2).go env fun y S3 => (setI x y v S3).go env fun _ S4 => .ok .nx env S4
  | .ret e, env, S => (ev cf e env S).go env fun d S1 => .ok (.rt d) env S1
  | .iff c a b, env, S => (ev cf c env S).go env fun k S1 => (match k with
    | .bl true => execs cf a env S1
    | .bl false => execs cf b env S1
    | _ => .no)
  | .whl kill c b, env, S => whlGo (fun env S => ev cf c env S) (fun env S => execs cf b env S) kill fuel env S
  | .for kill g it b, env, S => (evi cf it env S).go env fun iv S1 => forGo g (fun env S => execs cf b env S) kill iv fuel 0 env S1
  | .exp e, env, S => (ev cf e env S).go env fun _ S1 => .ok .nx env S1
  | .pass, env, S => .ok .nx env S
  | .brk, env, S => .ok .bk env S
  | .cnt, env, S => .ok .ct env S
  | .rse c, env, S => .ex c .non env S
  | .nev, _, _ => .no
def execs (cf : CF) : List Ss → Env → Sto → RX
  | [], env, S => .ok .nx env S
  | s :: r, env, S => (match exec cf s env S with
    | .ok .nx e2 S1 => execs cf r e2 S1
    | x => x)
end
/-- a def: how many parameters, how many slots, its body -/
structure Fn where
  np : Nat
  nl : Nat
  body : List Ss
/-- behind a call: the store without what the call made, but for the value -/
def fin (m : Nat) (d : D) (S : Sto) : R D := match below m d with
  | true => .ok d (S.take m)
  | false => match d with
    | .ref n => (match S[n]? with
      | some (.lst ds) => (match belows m ds with
        | true => .ok (.ref m) (S.take m ++ [.lst ds])
        | false => .ok d S)
      | _ => .ok d S)
    | _ => .ok d S
def lookF (FT : List (Nat × Fn)) (f : Nat) : Option Fn := match FT with
  | [] => none
  | (g, fn) :: r => match Nat.beq g f with
    | true => some fn
    | false => lookF r f
def callF (FT : List (Nat × Fn)) : Nat → CF
  | 0, _, _, _ => .no
  | k + 1, f, ds, S => match lookF FT f with
    | none => .no
    | some fn => (match Nat.beq ds.length fn.np with
      | true => (match execs (callF FT k) fn.body (ds.map some ++ List.replicate (fn.nl - fn.np) none) S with
        | .ok (.rt d) _ S1 => fin S.length d S1
        | .ok .nx _ S1 => .ok .non (S1.take S.length)
        | .ex c x _ S1 => (match below S.length x with
          | true => .ex c x (S1.take S.length)
          | false => .no)
        | _ => .no)
      | false => .no)
end DE
/-! DE2: what the store and its values stand for. -/
namespace DE
open PySem PySem.Spec PyProof.Rows L2

/-- what is fixed: the written part, the module's names, the addresses of its defs and classes by code -/
structure Gx where
  K : PySem.W.Frag
  ga : Nat → Option Addr
  /-- an exception by its class's code and what it keeps: its class, its dict -/
  xr : Nat → D → Value → Option Addr → Hp → Prop

section
variable (G : Gx) (ρ : List Addr) (H : Hp)
mutual
def RV : D → V → Prop
  | .non, v => v = .non
  | .bl b, v => v = .bl b
  | .int i, v => v = .int i
  | .str x, v => v = .str x
  | .ref n, v => ∃ a, ρ[n]? = some a ∧ v = .ref a
  | .glo c, v => ∃ a, G.ga c = some a ∧ v = .ref a
  | .tup ds, v => ds.all D.pure = true ∧ ds.length ≤ sizeLine ∧ ∃ a vs, v = .ref a ∧ SqT G.K H a vs ∧ RVs ds vs
  | .mix ds, v => ds.length ≤ sizeLine ∧ ∃ a vs, v = .ref a ∧ SqT G.K H a vs ∧ RVs ds vs
def RVs : List D → List V → Prop
  | [], vs => vs = []
  | d :: ds, vs => ∃ w ws, vs = w :: ws ∧ RV d w ∧ RVs ds ws
end
def keyR : D → Key → Prop
  | .int i, k => k = .inl i
  | .str x, k => k = .inr x
  | _, _ => False
def RK (kvs : List (D × D)) (ws : List (Key × V)) : Prop := Paired (fun p q => keyR p.1 q.1 ∧ RV G ρ H p.2 q.2) kvs ws
/-- a list that is locked, or of the module -/
def Lk (a : Addr) (vs : List V) : Prop := (∃ o, H a = some (.frz o (.lst vs))) ∨ (∀ H' : Hp, SqL G.K H' a vs)
def RO : O → Addr → Prop
  | .lst ds, a => ∃ vs, H a = some (.lst vs) ∧ RVs G ρ H ds vs
  | .fl ds, a => ∃ vs, Lk G H a vs ∧ RVs G ρ H ds vs
  | .dk kvs, a => ∃ ws, H a = some (.dK ws) ∧ RK G ρ H kvs ws
end
def oBelow (n : Nat) : O → Bool
  | .lst ds => belows n ds
  | .fl ds => belows n ds
  | .dk kvs => belows n (kvs.map (·.2))
def isFl (S : Sto) (n : Nat) : Bool := match S[n]? with
  | some (.fl _) => true
  | _ => false
abbrev Frm := List (Addr × HO)
/-- the store stands for the heap; what F names stands as it stands -/
structure RS (G : Gx) (ρ : List Addr) (F : Frm) (H : Hp) (S : Sto) : Prop where
  len : ρ.length = S.length
  inj : ∀ (n m : Nat) (a : Addr), ρ[n]? = some a → ρ[m]? = some a → isFl S n = false → isFl S m = false → n = m
  obj : ∀ (n : Nat) (o : O) (a : Addr), S[n]? = some o → ρ[n]? = some a → RO G ρ H o a
  bel : ∀ (n : Nat) (o : O), S[n]? = some o → oBelow n o = true
  frm : ∀ p ∈ F, H p.1 = some p.2 ∧ ∀ (n : Nat) (a : Addr), ρ[n]? = some a → isFl S n = false → p.1 ≠ a
structure Ext (ρ : List Addr) (H : Hp) (ρ' : List Addr) (H' : Hp) : Prop where
  pre : ∃ τ, ρ' = ρ ++ τ
  tup : ∀ a xs, H a = some (.tup xs) → H' a = some (.tup xs)
  frz : ∀ a o u, H a = some (.frz o u) → H' a = some (.frz o u)
def REnv (G : Gx) (ρ : List Addr) (H : Hp) (env : Env) (σ : L2.St) : Prop := env.length = σ.length ∧ ∀ (i : Nat) d, env[i]? = some (some d) → ∃ v, σ[i]? = some (some v) ∧ RV G ρ H d v

section
variable {G : Gx} {ρ ρ1 ρ' : List Addr} {H H1 H' : Hp} {F : Frm} {S S' : Sto}
theorem Ext.refl : Ext ρ H ρ H := ⟨⟨[], by simp⟩, fun _ _ h => h, fun _ _ _ h => h⟩
theorem Ext.trans (a : Ext ρ H ρ1 H1) (b : Ext ρ1 H1 ρ' H') : Ext ρ H ρ' H' := by
  obtain ⟨τ, e⟩ := a.pre
  obtain ⟨τ', e'⟩ := b.pre
  exact ⟨⟨τ ++ τ', by rw [e', e, List.append_assoc]⟩, fun x xs h => b.tup x xs (a.tup x xs h), fun x o u h => b.frz x o u (a.frz x o u h)⟩
theorem Ext.get (e : Ext ρ H ρ' H') {n : Nat} {a : Addr} (h : ρ[n]? = some a) : ρ'[n]? = some a := by
  obtain ⟨τ, e⟩ := e.pre
  subst e
  rw [List.getElem?_append_left (List.getElem?_eq_some_iff.mp h).1]
  exact h
theorem Ext.sqT (e : Ext ρ H ρ' H') {a : Addr} {vs : List V} (h : SqT G.K H a vs) : SqT G.K H' a vs := by
  rcases h with (h | ⟨o, h⟩) | h
  · exact .inl (.inl (e.tup _ _ h))
  · exact .inl (.inr ⟨o, e.frz _ _ _ h⟩)
  · exact .inr h
mutual
theorem RV.mono (e : Ext ρ H ρ' H') : ∀ (d : D) (v : V), RV G ρ H d v → RV G ρ' H' d v
  | .non, _, h => h
  | .bl _, _, h => h
  | .int _, _, h => h
  | .str _, _, h => h
  | .ref n, v, h => by
    obtain ⟨a, h1, h2⟩ := h
    exact ⟨a, e.get h1, h2⟩
  | .glo c, v, h => h
  | .tup ds, v, h => by
    obtain ⟨h1, hl, a, vs, h2, h3, h4⟩ := h
    exact ⟨h1, hl, a, vs, h2, e.sqT h3, RVs.mono e ds vs h4⟩
  | .mix ds, v, h => by
    obtain ⟨hl, a, vs, h2, h3, h4⟩ := h
    exact ⟨hl, a, vs, h2, e.sqT h3, RVs.mono e ds vs h4⟩
theorem RVs.mono (e : Ext ρ H ρ' H') : ∀ (ds : List D) (vs : List V), RVs G ρ H ds vs → RVs G ρ' H' ds vs
  | [], _, h => h
  | d :: ds, vs, h => by
    obtain ⟨w, ws, h1, h2, h3⟩ := h
    exact ⟨w, ws, h1, RV.mono e d w h2, RVs.mono e ds ws h3⟩
end
/-! from the longer names' list to the shorter one -/
mutual
theorem RV.back {τ : List Addr} : ∀ (d : D) (v : V), below ρ.length d = true → RV G (ρ ++ τ) H d v → RV G ρ H d v
  | .non, _, _, h => h
  | .bl _, _, _, h => h
  | .int _, _, _, h => h
  | .str _, _, _, h => h
  | .ref n, v, b, h => by
    obtain ⟨a, h1, h2⟩ := h
    have hn : n < ρ.length := by
      have b' : Nat.blt n ρ.length = true := b
      exact Nat.le_of_ble_eq_true b'
    rw [List.getElem?_append_left hn] at h1
    exact ⟨a, h1, h2⟩
  | .glo c, v, _, h => h
  | .tup ds, v, _, h => by
    obtain ⟨h1, hl, a, vs, h2, h3, h4⟩ := h
    exact ⟨h1, hl, a, vs, h2, h3, RVs.backP ds vs h1 h4⟩
  | .mix ds, v, b, h => by
    obtain ⟨hl, a, vs, h2, h3, h4⟩ := h
    exact ⟨hl, a, vs, h2, h3, RVs.back ds vs b h4⟩
theorem RVs.back {τ : List Addr} : ∀ (ds : List D) (vs : List V), belows ρ.length ds = true → RVs G (ρ ++ τ) H ds vs → RVs G ρ H ds vs
  | [], _, _, h => h
  | d :: ds, vs, b, h => by
    obtain ⟨w, ws, h1, h2, h3⟩ := h
    have b' : (below ρ.length d && belows ρ.length ds) = true := b
    obtain ⟨b1, b2⟩ := Bool.and_eq_true_iff.mp b'
    exact ⟨w, ws, h1, RV.back d w b1 h2, RVs.back ds ws b2 h3⟩
theorem RVs.backP {τ : List Addr} : ∀ (ds : List D) (vs : List V), ds.all D.pure = true → RVs G (ρ ++ τ) H ds vs → RVs G ρ H ds vs
  | [], _, _, h => h
  | d :: ds, vs, b, h => by
    obtain ⟨w, ws, h1, h2, h3⟩ := h
    rw [List.all_cons] at b
    obtain ⟨b1, b2⟩ := Bool.and_eq_true_iff.mp b
    refine ⟨w, ws, h1, ?_, RVs.backP ds ws b2 h3⟩
    cases d with
    | ref n => exact absurd b1 Bool.false_ne_true
    | mix ds => exact absurd b1 Bool.false_ne_true
    | non => exact h2
    | bl b => exact h2
    | int i => exact h2
    | str x => exact h2
    | glo c => exact h2
    | tup es => exact RV.back (.tup es) w rfl h2
end
theorem below_pure {n : Nat} {d : D} (h : d.pure = true) : below n d = true := by
  cases d with
  | ref n => exact absurd h Bool.false_ne_true
  | mix ds => exact absurd h Bool.false_ne_true
  | _ => rfl
theorem belows_pure {n : Nat} : ∀ {ds : List D}, ds.all D.pure = true → belows n ds = true
  | [], _ => rfl
  | d :: ds, h => by
    rw [List.all_cons] at h
    obtain ⟨h1, h2⟩ := Bool.and_eq_true_iff.mp h
    exact Bool.and_eq_true_iff.mpr ⟨below_pure h1, belows_pure h2⟩
mutual
theorem below_mono {m n : Nat} (h : m ≤ n) : ∀ d : D, below m d = true → below n d = true
  | .non, _ => rfl
  | .bl _, _ => rfl
  | .int _, _ => rfl
  | .str _, _ => rfl
  | .ref k, b => by
    have b' : Nat.blt k m = true := b
    have : k < m := Nat.le_of_ble_eq_true b'
    exact Nat.ble_eq_true_of_le (Nat.lt_of_lt_of_le this h)
  | .glo _, _ => rfl
  | .tup _, _ => rfl
  | .mix ds, b => belows_mono h ds b
theorem belows_mono {m n : Nat} (h : m ≤ n) : ∀ ds : List D, belows m ds = true → belows n ds = true
  | [], _ => rfl
  | d :: ds, b => by
    obtain ⟨b1, b2⟩ := Bool.and_eq_true_iff.mp (show (below m d && belows m ds) = true from b)
    exact Bool.and_eq_true_iff.mpr ⟨below_mono h d b1, belows_mono h ds b2⟩
end
theorem oBelow_mono {m n : Nat} (h : m ≤ n) {o : O} (b : oBelow m o = true) : oBelow n o = true := by
  cases o with
  | lst ds => exact belows_mono h ds b
  | fl ds => exact belows_mono h ds b
  | dk kvs => exact belows_mono h _ b
mutual
theorem RV.below : ∀ (d : D) (v : V), RV G ρ H d v → below ρ.length d = true
  | .non, _, _ => rfl
  | .bl _, _, _ => rfl
  | .int _, _, _ => rfl
  | .str _, _, _ => rfl
  | .ref k, _, h => by
    obtain ⟨a, h1, _⟩ := h
    exact Nat.ble_eq_true_of_le (List.getElem?_eq_some_iff.mp h1).1
  | .glo _, _, _ => rfl
  | .tup _, _, _ => rfl
  | .mix ds, _, h => by
    obtain ⟨_, _, vs, _, _, h4⟩ := h
    exact RVs.below ds vs h4
theorem RVs.below : ∀ (ds : List D) (vs : List V), RVs G ρ H ds vs → belows ρ.length ds = true
  | [], _, _ => rfl
  | d :: ds, vs, h => by
    obtain ⟨w, ws, _, h2, h3⟩ := h
    exact Bool.and_eq_true_iff.mpr ⟨RV.below d w h2, RVs.below ds ws h3⟩
end
theorem RVs.length : ∀ {ds : List D} {vs : List V}, RVs G ρ H ds vs → ds.length = vs.length
  | [], _, h => by rw [show _ = [] from h]; rfl
  | d :: ds, vs, h => by
    obtain ⟨w, ws, rfl, _, h3⟩ := h
    rw [List.length_cons, List.length_cons, RVs.length h3]
theorem RVs.get : ∀ {ds : List D} {vs : List V} {i : Nat} {d : D}, RVs G ρ H ds vs → ds[i]? = some d → ∃ v, vs[i]? = some v ∧ RV G ρ H d v
  | [], _, _, _, _, e => by simp at e
  | d :: ds, vs, i, x, h, e => by
    obtain ⟨w, ws, rfl, h2, h3⟩ := h
    cases i with
    | zero =>
      rw [List.getElem?_cons_zero] at e
      cases e
      exact ⟨w, rfl, h2⟩
    | succ i =>
      rw [List.getElem?_cons_succ] at e
      obtain ⟨v, h4, h5⟩ := RVs.get h3 e
      exact ⟨v, h4, h5⟩
theorem RVs.append : ∀ {ds es : List D} {vs ws : List V}, RVs G ρ H ds vs → RVs G ρ H es ws → RVs G ρ H (ds ++ es) (vs ++ ws)
  | [], _, _, _, h, h' => by rw [show _ = [] from h]; exact h'
  | d :: ds, es, vs, ws, h, h' => by
    obtain ⟨w, ws', rfl, h2, h3⟩ := h
    exact ⟨w, ws' ++ ws, rfl, h2, RVs.append h3 h'⟩
theorem RVs.drop : ∀ {ds : List D} {vs : List V} (n : Nat), RVs G ρ H ds vs → RVs G ρ H (ds.drop n) (vs.drop n)
  | _, _, 0, h => h
  | [], _, n + 1, h => by rw [show _ = [] from h]; rfl
  | d :: ds, vs, n + 1, h => by
    obtain ⟨w, ws, rfl, _, h3⟩ := h
    exact RVs.drop n h3
theorem RVs.take : ∀ {ds : List D} {vs : List V} (n : Nat), RVs G ρ H ds vs → RVs G ρ H (ds.take n) (vs.take n)
  | _, _, 0, _ => rfl
  | [], _, n + 1, h => by rw [show _ = [] from h]; rfl
  | d :: ds, vs, n + 1, h => by
    obtain ⟨w, ws, rfl, h2, h3⟩ := h
    exact ⟨w, ws.take n, rfl, h2, RVs.take n h3⟩
theorem RVs.set : ∀ {ds : List D} {vs : List V} (n : Nat) {d : D} {v : V}, RV G ρ H d v → RVs G ρ H ds vs → RVs G ρ H (ds.set n d) (vs.set n v)
  | [], _, _, _, _, _, h => by rw [show _ = [] from h]; rfl
  | _ :: ds, vs, 0, d, v, r, h => by
    obtain ⟨w, ws, rfl, h2, h3⟩ := h
    exact ⟨v, ws, rfl, r, h3⟩
  | _ :: ds, vs, n + 1, d, v, r, h => by
    obtain ⟨w, ws, rfl, h2, h3⟩ := h
    exact ⟨w, ws.set n v, rfl, h2, RVs.set n r h3⟩
theorem RVs.reverse : ∀ {ds : List D} {vs : List V}, RVs G ρ H ds vs → RVs G ρ H ds.reverse vs.reverse
  | [], _, h => by rw [show _ = [] from h]; rfl
  | d :: ds, vs, h => by
    obtain ⟨w, ws, rfl, h2, h3⟩ := h
    rw [List.reverse_cons, List.reverse_cons]
    exact RVs.append (RVs.reverse h3) ⟨w, [], rfl, h2, rfl⟩
theorem RVs.dropLast {ds : List D} {vs : List V} (h : RVs G ρ H ds vs) : RVs G ρ H ds.dropLast vs.dropLast := by
  rw [List.dropLast_eq_take, List.dropLast_eq_take, h.length]
  exact RVs.take _ h
theorem RVs.rep {ds : List D} {vs : List V} (h : RVs G ρ H ds vs) : ∀ k : Nat, RVs G ρ H (List.replicate k ds).flatten (List.replicate k vs).flatten
  | 0 => rfl
  | k + 1 => by
    rw [List.replicate_succ, List.replicate_succ, List.flatten_cons, List.flatten_cons]
    exact RVs.append h (RVs.rep h k)
theorem RVs.nil_iff {ds : List D} {vs : List V} (h : RVs G ρ H ds vs) (e : vs = []) : ds = [] := by
  have := h.length
  rw [e] at this
  exact List.eq_nil_of_length_eq_zero this
/-- a tuple's value -/
theorem RV.mkT {ds : List D} {a : Addr} {vs : List V} (hl : ds.length ≤ sizeLine) (h : SqT G.K H a vs) (r : RVs G ρ H ds vs) : RV G ρ H (mkT ds) (.ref a) := by
  unfold DE.mkT
  cases e : ds.all D.pure with
  | true => exact ⟨e, hl, a, vs, rfl, h, r⟩
  | false => exact ⟨hl, a, vs, rfl, h, r⟩
theorem RV.tupOf {d : D} {v : V} {ds : List D} (h : RV G ρ H d v) (e : tupOf d = some ds) : ds.length ≤ sizeLine ∧ ∃ a vs, v = .ref a ∧ SqT G.K H a vs ∧ RVs G ρ H ds vs := by
  cases d with
  | tup es =>
    cases e
    exact h.2
  | mix es =>
    cases e
    exact h
  | _ => cases e
theorem Lk.sq {a : Addr} {vs : List V} (h : Lk G H a vs) : SqL G.K H a vs := by
  rcases h with ⟨o, h⟩ | h
  · exact .inl (.inr ⟨o, h⟩)
  · exact h H
theorem Lk.mono (e : Ext ρ H ρ' H') {a : Addr} {vs : List V} (h : Lk G H a vs) : Lk G H' a vs := by
  rcases h with ⟨o, h⟩ | h
  · exact .inl ⟨o, e.frz _ _ _ h⟩
  · exact .inr h
theorem RK.mono (e : Ext ρ H ρ' H') {kvs : List (D × D)} {ws : List (Key × V)} (h : RK G ρ H kvs ws) : RK G ρ' H' kvs ws := Paired.mapP h fun _ _ x => ⟨x.1, RV.mono e _ _ x.2⟩
theorem RK.vals : ∀ {kvs : List (D × D)} {ws : List (Key × V)}, RK G ρ H kvs ws → RVs G ρ H (kvs.map (·.2)) (ws.map (·.2))
  | _, _, .nil => rfl
  | _, _, .cons x t => ⟨_, _, rfl, x.2, RK.vals t⟩
theorem RK.back {τ : List Addr} : ∀ {kvs : List (D × D)} {ws : List (Key × V)}, belows ρ.length (kvs.map (·.2)) = true → RK G (ρ ++ τ) H kvs ws → RK G ρ H kvs ws
  | _, _, _, .nil => .nil
  | _, _, b, .cons x t => by
    obtain ⟨b1, b2⟩ := Bool.and_eq_true_iff.mp (show (below ρ.length _ && belows ρ.length _) = true from b)
    exact .cons ⟨x.1, RV.back _ _ b1 x.2⟩ (RK.back b2 t)
/-- objects under a change of the heap that leaves them -/
theorem RO.mono (e : Ext ρ H ρ' H') {o : O} {a : Addr} (h : RO G ρ H o a) (hk : H' a = H a) : RO G ρ' H' o a := by
  cases o with
  | lst ds =>
    obtain ⟨vs, h1, h2⟩ := h
    exact ⟨vs, hk.trans h1, RVs.mono e _ _ h2⟩
  | fl ds =>
    obtain ⟨vs, h1, h2⟩ := h
    exact ⟨vs, h1.mono e, RVs.mono e _ _ h2⟩
  | dk kvs =>
    obtain ⟨ws, h1, h2⟩ := h
    exact ⟨ws, hk.trans h1, h2.mono e⟩
theorem RO.back {τ : List Addr} {o : O} {a : Addr} (b : oBelow ρ.length o = true) (h : RO G (ρ ++ τ) H o a) : RO G ρ H o a := by
  cases o with
  | lst ds =>
    obtain ⟨vs, h1, h2⟩ := h
    exact ⟨vs, h1, RVs.back _ _ b h2⟩
  | fl ds =>
    obtain ⟨vs, h1, h2⟩ := h
    exact ⟨vs, h1, RVs.back _ _ b h2⟩
  | dk kvs =>
    obtain ⟨ws, h1, h2⟩ := h
    exact ⟨ws, h1, RK.back b h2⟩
theorem REnv.mono (e : Ext ρ H ρ' H') {env : Env} {σ : L2.St} (h : REnv G ρ H env σ) : REnv G ρ' H' env σ := ⟨h.1, fun i d q => by
  obtain ⟨v, h1, h2⟩ := h.2 i d q
  exact ⟨v, h1, RV.mono e d v h2⟩⟩

/-! ### changes -/
theorem RS.addr (r : RS G ρ F H S) {n : Nat} {o : O} (h : S[n]? = some o) : ∃ a, ρ[n]? = some a := by
  have hn : n < ρ.length := by
    rw [r.len]
    exact (List.getElem?_eq_some_iff.mp h).1
  exact ⟨_, List.getElem?_eq_getElem hn⟩
theorem RS.lst (r : RS G ρ F H S) {n : Nat} {ds : List D} {a : Addr} (h : S[n]? = some (.lst ds)) (ha : ρ[n]? = some a) : ∃ vs, H a = some (.lst vs) ∧ RVs G ρ H ds vs := r.obj n _ a h ha
/-- what stands at a named address that is no locked list -/
theorem RS.at (r : RS G ρ F H S) {n : Nat} {a : Addr} (ha : ρ[n]? = some a) (hf : isFl S n = false) : ∃ u, H a = some u ∧ Mut (some u) ∧ (∀ xs, u ≠ .tup xs) ∧ ∀ o v, u ≠ .frz o v := by
  have hn : n < S.length := by
    rw [← r.len]
    exact (List.getElem?_eq_some_iff.mp ha).1
  have q := r.obj n S[n] a (List.getElem?_eq_getElem hn) ha
  have e : S[n]? = some S[n] := List.getElem?_eq_getElem hn
  unfold isFl at hf
  rw [e] at hf
  generalize S[n] = o at q hf
  cases o with
  | lst ds =>
    obtain ⟨vs, q1, _⟩ := q
    exact ⟨_, q1, trivial, fun _ z => (nomatch z), fun _ _ z => nomatch z⟩
  | fl ds => exact absurd hf (by simp)
  | dk kvs =>
    obtain ⟨ws, q1, _⟩ := q
    exact ⟨_, q1, trivial, fun _ z => (nomatch z), fun _ _ z => nomatch z⟩
theorem ext_new {p : Addr} {o : HO} (hp : H p = none) {τ : List Addr} : Ext ρ H (ρ ++ τ) (upd H p o) :=
  ⟨⟨τ, rfl⟩, fun a xs h => by rw [upd_ne (ne_of_none h hp)]; exact h, fun a x u h => by rw [upd_ne (ne_of_none h hp)]; exact h⟩
theorem RO.new {p : Addr} {o : HO} (hp : H p = none) {τ : List Addr} {ob : O} {a : Addr} (q : RO G ρ H ob a) : RO G (ρ ++ τ) (upd H p o) ob a := by
  cases ob with
  | lst ds =>
    obtain ⟨vs, q1, q2⟩ := q
    exact ⟨vs, by rw [upd_ne (ne_of_none q1 hp)]; exact q1, RVs.mono (ext_new hp) _ _ q2⟩
  | fl ds =>
    obtain ⟨vs, q1, q2⟩ := q
    exact ⟨vs, q1.mono (ext_new hp (ρ := ρ) (τ := τ)), RVs.mono (ext_new hp) _ _ q2⟩
  | dk kvs =>
    obtain ⟨ws, q1, q2⟩ := q
    exact ⟨ws, by rw [upd_ne (ne_of_none q1 hp)]; exact q1, q2.mono (ext_new hp)⟩
/-- a tuple is laid (or anything that the store does not name) -/
theorem RS.laid (r : RS G ρ F H S) {p : Addr} {o : HO} (hp : H p = none) : RS G ρ F (upd H p o) S ∧ Ext ρ H ρ (upd H p o) := by
  have ex : Ext ρ H ρ (upd H p o) := by
    have := ext_new (ρ := ρ) (o := o) hp (τ := [])
    rwa [List.append_nil] at this
  refine ⟨⟨r.len, r.inj, fun n ob a h1 h2 => ?_, r.bel, fun q hq => ?_⟩, ex⟩
  · have := RO.new (o := o) hp (τ := []) (r.obj n ob a h1 h2)
    rwa [List.append_nil] at this
  · obtain ⟨q1, q2⟩ := r.frm q hq
    exact ⟨by rw [upd_ne (ne_of_none q1 hp)]; exact q1, q2⟩
theorem isFl_append {S : Sto} {o : O} {n : Nat} (h : n < S.length) : isFl (S ++ [o]) n = isFl S n := by
  unfold isFl
  rw [List.getElem?_append_left h]
/-- a new object gets the next name -/
theorem RS.push (r : RS G ρ F H S) {p : Addr} {o : HO} {ob : O} (hp : H p = none) (hb : oBelow S.length ob = true) (hf : ∀ ds, ob ≠ .fl ds) (ho : RO G (ρ ++ [p]) (upd H p o) ob p) :
    RS G (ρ ++ [p]) F (upd H p o) (S ++ [ob]) ∧ Ext ρ H (ρ ++ [p]) (upd H p o) ∧ RV G (ρ ++ [p]) (upd H p o) (.ref S.length) (.ref p) := by
  have ex : Ext ρ H (ρ ++ [p]) (upd H p o) := ext_new hp
  have ne : ∀ (n : Nat) (a : Addr), ρ[n]? = some a → isFl S n = false → a ≠ p := fun n a h hf => by
    obtain ⟨u, hu, _⟩ := r.at h hf
    exact ne_of_none hu hp
  have low : ∀ {n : Nat} {a : Addr}, (ρ ++ [p])[n]? = some a → (n < ρ.length ∧ ρ[n]? = some a) ∨ (n = ρ.length ∧ a = p) := fun {n a} h => by
    by_cases hn : n < ρ.length
    · rw [List.getElem?_append_left hn] at h
      exact .inl ⟨hn, h⟩
    · rw [List.getElem?_append_right (Nat.le_of_not_lt hn)] at h
      have hl := (List.getElem?_eq_some_iff.mp h).1
      simp only [List.length_cons, List.length_nil] at hl
      have e : n - ρ.length = 0 := by omega
      rw [e] at h
      have h' : some p = some a := h
      cases h'
      exact .inr ⟨by omega, rfl⟩
  refine ⟨⟨by simp [r.len], fun n m a h1 h2 f1 f2 => ?_, fun n ob' a h1 h2 => ?_, fun n ob' h1 => ?_, fun q hq => ?_⟩, ex, p, ?_, rfl⟩
  · rcases low h1 with ⟨l1, h1⟩ | ⟨l1, h1⟩ <;> rcases low h2 with ⟨l2, h2⟩ | ⟨l2, h2⟩
    · rw [isFl_append (by rw [← r.len]; exact l1)] at f1
      rw [isFl_append (by rw [← r.len]; exact l2)] at f2
      exact r.inj n m a h1 h2 f1 f2
    · rw [isFl_append (by rw [← r.len]; exact l1)] at f1
      exact absurd h2 (ne n a h1 f1)
    · rw [isFl_append (by rw [← r.len]; exact l2)] at f2
      exact absurd h1 (ne m a h2 f2)
    · omega
  · rcases low h2 with ⟨l2, h2⟩ | ⟨l2, h2⟩
    · rw [List.getElem?_append_left (by rw [← r.len]; exact l2)] at h1
      exact RO.new hp (r.obj n ob' a h1 h2)
    · rw [l2, r.len, List.getElem?_append_right (Nat.le_refl _), Nat.sub_self] at h1
      cases h1
      rw [h2]
      exact ho
  · by_cases hn : n < S.length
    · rw [List.getElem?_append_left hn] at h1
      exact r.bel n ob' h1
    · rw [List.getElem?_append_right (Nat.le_of_not_lt hn)] at h1
      have hl := (List.getElem?_eq_some_iff.mp h1).1
      simp only [List.length_cons, List.length_nil] at hl
      have e : n = S.length := by omega
      rw [e, Nat.sub_self] at h1
      cases h1
      rw [e]
      exact hb
  · obtain ⟨q1, q2⟩ := r.frm q hq
    refine ⟨by rw [upd_ne (ne_of_none q1 hp)]; exact q1, fun n a h f => ?_⟩
    rcases low h with ⟨l, h⟩ | ⟨l, h⟩
    · rw [isFl_append (by rw [← r.len]; exact l)] at f
      exact q2 n a h f
    · rw [h]
      exact ne_of_none q1 hp
  · rw [← r.len, List.getElem?_append_right (Nat.le_refl _), Nat.sub_self]
    rfl
theorem belows_append {n : Nat} : ∀ {ds es : List D}, belows n (ds ++ es) = (belows n ds && belows n es)
  | [], es => by simp [belows]
  | d :: ds, es => by
    show (below n d && belows n (ds ++ es)) = ((below n d && belows n ds) && belows n es)
    rw [belows_append, Bool.and_assoc]
theorem belows_sub {n : Nat} {ds : List D} (h : belows n ds = true) : ∀ d ∈ ds, below n d = true := by
  induction ds with
  | nil => intro d hd; cases hd
  | cons x l ih =>
    obtain ⟨h1, h2⟩ := Bool.and_eq_true_iff.mp (show (below n x && belows n l) = true from h)
    intro d hd
    rcases List.mem_cons.mp hd with rfl | hd
    · exact h1
    · exact ih h2 d hd
theorem belows_of {n : Nat} {ds : List D} (h : ∀ d ∈ ds, below n d = true) : belows n ds = true := by
  induction ds with
  | nil => rfl
  | cons x l ih => exact Bool.and_eq_true_iff.mpr ⟨h x List.mem_cons_self, ih fun d hd => h d (List.mem_cons_of_mem _ hd)⟩
theorem ext_upd (r : RS G ρ F H S) {n : Nat} {a : Addr} {o : O} {u : HO} (hn : S[n]? = some o) (ha : ρ[n]? = some a) (hf : isFl S n = false) : Ext ρ H ρ (upd H a u) := by
  obtain ⟨u0, hu0, mu, nt, nf⟩ := r.at ha hf
  exact ⟨⟨[], by simp⟩, fun b xs h => by rw [upd_ne (ne_of h hu0 (fun z => nt xs z.symm))]; exact h, fun b x v h => by rw [upd_ne (ne_of h hu0 (fun z => nf x v z.symm))]; exact h⟩
/-- an object is written -/
theorem RS.write (r : RS G ρ F H S) {n : Nat} {a : Addr} {o o' : O} {u : HO} (hn : S[n]? = some o) (ha : ρ[n]? = some a) (hf : isFl S n = false) (hf' : ∀ ds, o' ≠ .fl ds) (hb : oBelow n o' = true)
    (ho : RO G ρ (upd H a u) o' a) : RS G ρ F (upd H a u) (S.set n o') ∧ Ext ρ H ρ (upd H a u) := by
  obtain ⟨u0, hu0, mu, nt, nf⟩ := r.at ha hf
  have ex : Ext ρ H ρ (upd H a u) := ⟨⟨[], by simp⟩, fun b xs h => by rw [upd_ne (ne_of h hu0 (fun z => nt xs z.symm))]; exact h, fun b x v h => by rw [upd_ne (ne_of h hu0 (fun z => nf x v z.symm))]; exact h⟩
  have hl : n < S.length := (List.getElem?_eq_some_iff.mp hn).1
  have fl : ∀ m, isFl (S.set n o') m = false → isFl S m = false := fun m h => by
    by_cases e : n = m
    · rw [← e]
      exact hf
    · unfold isFl at h ⊢
      rw [List.getElem?_set_ne e] at h
      exact h
  refine ⟨⟨by rw [List.length_set]; exact r.len, fun i j b h1 h2 f1 f2 => r.inj i j b h1 h2 (fl i f1) (fl j f2), fun m ob b h1 h2 => ?_, fun m ob h1 => ?_, fun q hq => ?_⟩, ex⟩
  · by_cases e : n = m
    · subst e
      rw [List.getElem?_set_self hl] at h1
      cases h1
      rw [ha] at h2
      cases h2
      exact ho
    · rw [List.getElem?_set_ne e] at h1
      have q := r.obj m ob b h1 h2
      cases ob with
      | lst ds =>
        have hfm : isFl S m = false := by unfold isFl; rw [h1]
        have hne : b ≠ a := fun z => by subst z; exact e (r.inj n m b ha h2 hf hfm)
        exact RO.mono ex q (upd_ne hne)
      | fl ds =>
        obtain ⟨vs, q1, q2⟩ := q
        exact ⟨vs, q1.mono ex, RVs.mono ex _ _ q2⟩
      | dk kvs =>
        have hfm : isFl S m = false := by unfold isFl; rw [h1]
        have hne : b ≠ a := fun z => by subst z; exact e (r.inj n m b ha h2 hf hfm)
        exact RO.mono ex q (upd_ne hne)
  · by_cases e : n = m
    · subst e
      rw [List.getElem?_set_self hl] at h1
      cases h1
      exact hb
    · rw [List.getElem?_set_ne e] at h1
      exact r.bel m ob h1
  · obtain ⟨q1, q2⟩ := r.frm q hq
    exact ⟨by rw [upd_ne (q2 n a ha hf)]; exact q1, fun m b h f => q2 m b h (fl m f)⟩
/-- the young objects are let go -/
theorem RS.trim {τ : List Addr} (r : RS G (ρ ++ τ) F H S) : RS G ρ F H (S.take ρ.length) := by
  have hl : ρ.length ≤ S.length := by rw [← r.len, List.length_append]; omega
  have get : ∀ {n : Nat} {o : O}, (S.take ρ.length)[n]? = some o → n < ρ.length ∧ S[n]? = some o := fun {n o} h => by
    have h1 := (List.getElem?_eq_some_iff.mp h).1
    rw [List.length_take] at h1
    have : n < ρ.length := by omega
    rw [List.getElem?_take_of_lt this] at h
    exact ⟨this, h⟩
  have pre : ∀ {n : Nat} {a : Addr}, ρ[n]? = some a → (ρ ++ τ)[n]? = some a ∧ n < ρ.length := fun {n a} h => by
    have h1 := (List.getElem?_eq_some_iff.mp h).1
    rw [List.getElem?_append_left h1]
    exact ⟨h, h1⟩
  have fl : ∀ {n : Nat}, n < ρ.length → isFl (S.take ρ.length) n = isFl S n := fun {n} h => by
    unfold isFl
    rw [List.getElem?_take_of_lt h]
  refine ⟨by rw [List.length_take]; omega, fun n m a h1 h2 f1 f2 => ?_, fun n o a h1 h2 => ?_, fun n o h1 => r.bel n o (get h1).2, fun q hq => ?_⟩
  · rw [fl (pre h1).2] at f1
    rw [fl (pre h2).2] at f2
    exact r.inj n m a (pre h1).1 (pre h2).1 f1 f2
  · obtain ⟨hn, h1⟩ := get h1
    exact RO.back (oBelow_mono (Nat.le_of_lt hn) (r.bel n o h1)) (r.obj n o a h1 (pre h2).1)
  · obtain ⟨q1, q2⟩ := r.frm q hq
    refine ⟨q1, fun n a h f => ?_⟩
    rw [fl (pre h).2] at f
    exact q2 n a (pre h).1 f
theorem Ext.drop {τ : List Addr} (e : Ext ρ H (ρ ++ τ) H') : Ext ρ H ρ H' := ⟨⟨[], by simp⟩, e.tup, e.frz⟩
end
end DE
/-! T2: tuple * int at its ends: once, none. -/
namespace DE
open PySem PySem.Spec PyProof.Rows L2
theorem mul_self (l : Addr) (items : Array Value) (n : Nat) (dd : Option Addr) (sl : Array (Option Value)) (x : Int) (u : Tok) (c0 : (decide (x < -(2 ^ 63)) || decide (x ≥ 2 ^ 63)) = false) (c1 : (items.isEmpty || x == 1) = true) :
    Meets (Builtin.«tuple.__mul__» ⟨[.ref l, .int x u], []⟩) (fun _ R s => s.heap.get? l = some { cls := .type "tuple", dict := dd, data := .seq items n, slots := sl } ∧ R (.ok (.ret (Value.ref l))) s) :=
  .of_wp fun prog w A R s h => by
    obtain ⟨hp, g, d, tk, os⟩ := s
    obtain ⟨hl, h⟩ := h
    have f1 := AutoSeq1.idx_int
    wp_walk using wpAny_loadPart' hl
    repeat (first
      | (refine wpAny_ite_false (decide_eq_false (by rw [c0]; exact Bool.false_ne_true)) ?_; wp_walk using wpAny_loadPart' hl)
      | (refine wpAny_ite_true (decide_eq_true c1) ?_; wp_walk using wpAny_loadPart' hl))
    exact ⟨_, rfl, h⟩
theorem mul_none (l : Addr) (items : Array Value) (n : Nat) (dd : Option Addr) (sl : Array (Option Value)) (x : Int) (u : Tok) (c0 : (decide (x < -(2 ^ 63)) || decide (x ≥ 2 ^ 63)) = false) (c1 : (items.isEmpty || x == 1) = false) (c2 : (decide (x ≤ 0) || items.isEmpty) = true) :
    Meets (Builtin.«tuple.__mul__» ⟨[.ref l, .int x u], []⟩) (fun _ R s => s.heap.get? l = some { cls := .type "tuple", dict := dd, data := .seq items n, slots := sl } ∧
      R (.ok (.ret (Value.ref s.heap.objs.size))) { s with heap := s.heap.push { cls := Value.type "tuple", data := Data.seq #[] }, toks := s.toks }) :=
  .of_wp fun prog w A R s h => by
    obtain ⟨hp, g, d, tk, os⟩ := s
    obtain ⟨hl, h⟩ := h
    have f1 := AutoSeq1.idx_int
    wp_walk using wpAny_loadPart' hl
    repeat (first
      | (refine wpAny_ite_false (decide_eq_false (by rw [c0]; exact Bool.false_ne_true)) ?_; wp_walk using wpAny_loadPart' hl)
      | (refine wpAny_ite_false (decide_eq_false (by rw [c1]; exact Bool.false_ne_true)) ?_; wp_walk using wpAny_loadPart' hl)
      | (refine wpAny_ite_true (decide_eq_true c2) ?_; wp_walk using wpAny_loadPart' hl))
    exact ⟨_, rfl, h⟩
def rRepA (K : PySem.W.Frag) : R2 := fun x y H Q => ∃ l k xs, x = .ref l ∧ y = .int k ∧ SqT K H l xs ∧ 0 ≤ k ∧ k ≤ 1000 ∧ xs.length ≤ 1000 ∧ (xs = [] ∨ k = 1 → Q (.ref l) H) ∧ (¬ (xs = [] ∨ k = 1) → ∀ p, H p = none → Q (.ref p) (upd H p (.tup (List.replicate k.toNat xs).flatten)))
section
variable {X : Cx}
theorem op_repA : OpR X (binaryOp .Mult) (rRepA X.K) := by
  intro pins s σ H x y v u Q I rx ry h
  obtain ⟨l, k, xs, rfl, rfl, hT, h0, h1, hz, q0, q1⟩ := h
  by_cases hc : ¬ (xs = [] ∨ k = 1) ∧ 2 ≤ k
  · exact op_repT pins s σ H _ _ v u Q I rx ry ⟨l, k, xs, rfl, rfl, hT, fun e => hc.1 (.inl e), hc.2, h1, hz, q1 hc.1⟩
  · cases rx
    obtain ⟨t, rfl⟩ := ry
    obtain ⟨its, r, ⟨⟨cls, dd, data, sl⟩, ho, hcl, n, hd⟩, hs⟩ := I.tuple hT
    simp only at hcl hd
    subst hcl hd
    have hle : its.length = xs.length := r.length.symm
    have c0 : (decide (k < -(2 ^ 63)) || decide (k ≥ 2 ^ 63)) = false := by
      rw [decide_eq_false (by omega), decide_eq_false (by omega)] <;> rfl
    by_cases hx : xs = [] ∨ k = 1
    · have c1 : (its.toArray.isEmpty || k == 1) = true := by
        rcases hx with rfl | rfl
        · rw [List.length_nil] at hle
          rw [List.eq_nil_of_length_eq_zero hle]
          rfl
        · simp
      refine wpAny_binaryOp_repeat_ref (T := "tuple") (U := "int") (by decide) ⟨_, ho, rfl⟩ (fun s' => typeIs_int s' k t) noFill_tuple_mul PySem.F.fills_int_mul PySem.F.slot_int_rmul repeat_tuple PySem.F.slot_int_index.lookup
        (call_meets PySem.F.slot_int_rmul (typeIs_int s k t) PySem.F.entry_int_rmul (PySem.F.args_int_rmul_2 _ _) (int_rmul_tuple k t l its.toArray n dd sl)
          ⟨ho, rfl, ⟨_, ho, rfl⟩, call_meets PySem.F.slot_tuple_mul ⟨_, ho, rfl⟩ PySem.F.entry_tuple_mul (PySem.F.args_tuple_mul_2 _ _) (mul_self l its.toArray n dd sl k t c0 c1) ⟨ho, ?_⟩⟩)
      exact ⟨.ref l, H, I, rfl, q0 hx⟩
    · have hk0 : k = 0 := by
        by_cases h2 : 2 ≤ k
        · exact absurd ⟨hx, h2⟩ hc
        · have : k ≠ 1 := fun e => hx (.inr e)
          omega
      subst hk0
      have hn : its ≠ [] := fun e => hx (.inl (by
        rw [e] at hle
        exact List.eq_nil_of_length_eq_zero hle.symm))
      have hi : its.toArray.isEmpty = false := by
        cases its with
        | nil => exact absurd rfl hn
        | cons a b => rfl
      have c1 : (its.toArray.isEmpty || (0 : Int) == 1) = false := by rw [hi]; rfl
      have c2 : (decide ((0 : Int) ≤ 0) || its.toArray.isEmpty) = true := by rw [hi]; rfl
      refine wpAny_binaryOp_repeat_ref (T := "tuple") (U := "int") (by decide) ⟨_, ho, rfl⟩ (fun s' => typeIs_int s' 0 t) noFill_tuple_mul PySem.F.fills_int_mul PySem.F.slot_int_rmul repeat_tuple PySem.F.slot_int_index.lookup
        (call_meets PySem.F.slot_int_rmul (typeIs_int s 0 t) PySem.F.entry_int_rmul (PySem.F.args_int_rmul_2 _ _) (int_rmul_tuple 0 t l its.toArray n dd sl)
          ⟨ho, rfl, ⟨_, ho, rfl⟩, call_meets PySem.F.slot_tuple_mul ⟨_, ho, rfl⟩ PySem.F.entry_tuple_mul (PySem.F.args_tuple_mul_2 _ _) (mul_none l its.toArray n dd sl 0 t c0 c1 c2) ⟨ho, ?_⟩⟩)
      refine ⟨.ref s.heap.objs.size, _, I.laid (t' := s.toks) (o := .tup []) (fun b ob q => Heap.get?_push_of_some _ q) (Nat.le_refl _) ?_, rfl, q1 hx _ (I.hok.fresh (Nat.le_refl _))⟩
      exact ⟨Nat.zero_le _, [], .nil, IsTup.new _ _⟩
end
end DE
/-! DE3: the operations by values. -/
namespace DE
open PySem PySem.Spec PyProof.Rows L2

section
variable {G : Gx} {ρ ρ' : List Addr} {H H' : Hp} {F : Frm} {S S' : Sto} {Q : VK}
def okR (G : Gx) (ρ : List Addr) (F : Frm) (H : Hp) (Q : VK) (r : R D) : Prop := match r with
  | .ok d S' => ∀ v ρ' H', Ext ρ H ρ' H' → RS G ρ' F H' S' → RV G ρ' H' d v → Q v H'
  | _ => False
theorem okR.same {d : D} {v : V} (h : okR G ρ F H Q (.ok d S)) (r : RS G ρ F H S) (hv : RV G ρ H d v) : Q v H := h v ρ H Ext.refl r hv
theorem okR.newL {ds : List D} {vs : List V} (r : RS G ρ F H S) (hv : RVs G ρ H ds vs) (h : okR G ρ F H Q (newL ds S)) : vs.length ≤ sizeLine ∧ ∀ p, H p = none → Q (.ref p) (upd H p (.lst vs)) := by
  unfold DE.newL at h
  split at h
  · rename_i e
    have hl := Nat.le_of_ble_eq_true e
    refine ⟨by rw [← hv.length]; exact hl, fun p hp => ?_⟩
    have hb : oBelow S.length (.lst ds) = true := by
      rw [← r.len]
      exact RVs.below _ _ hv
    obtain ⟨r', ex, hr⟩ := r.push (o := .lst vs) (ob := .lst ds) hp hb (fun _ z => nomatch z) ⟨vs, upd_same, RVs.mono (ext_new hp) _ _ hv⟩
    exact h _ _ _ ex r' hr
  · exact h.elim
theorem okR.mkT_ {ds : List D} {vs : List V} (r : RS G ρ F H S) (hv : RVs G ρ H ds vs) (hz : vs.length ≤ sizeLine) (h : okR G ρ F H Q (.ok (DE.mkT ds) S)) : ∀ p, H p = none → Q (.ref p) (upd H p (.tup vs)) := fun p hp => by
  obtain ⟨r', ex⟩ := r.laid (o := .tup vs) hp
  exact h _ _ _ ex r' (RV.mkT (by rw [hv.length]; exact hz) (.inl (.inl upd_same)) (RVs.mono ex _ _ hv))
theorem okR.mkTs {ds : List D} {vs : List V} {a : Addr} (r : RS G ρ F H S) (hz : ds.length ≤ sizeLine) (hs : SqT G.K H a vs) (hv : RVs G ρ H ds vs) (h : okR G ρ F H Q (.ok (DE.mkT ds) S)) : Q (.ref a) H := h.same r (RV.mkT hz hs hv)
theorem okR.write {n : Nat} {a : Addr} {o o' : O} {u : HO} {d : D} {v : V} (r : RS G ρ F H S) (hn : S[n]? = some o) (ha : ρ[n]? = some a) (hf : isFl S n = false) (hf' : ∀ ds, o' ≠ .fl ds) (hb : oBelow n o' = true)
    (ho : RO G ρ (upd H a u) o' a) (hv : RV G ρ H d v) (h : okR G ρ F H Q (.ok d (setAt S n o'))) : Q v (upd H a u) := by
  obtain ⟨r', ex⟩ := r.write hn ha hf hf' hb ho
  exact h v ρ _ ex r' (RV.mono ex d v hv)
theorem lstOf_at {d : D} {n : Nat} {ds : List D} {v : V} (r : RS G ρ F H S) (hv : RV G ρ H d v) (e : lstOf S d = some (n, ds)) : S[n]? = some (.lst ds) ∧ isFl S n = false ∧ ∃ a vs, v = .ref a ∧ ρ[n]? = some a ∧ H a = some (.lst vs) ∧ RVs G ρ H ds vs := by
  cases d with
  | ref k =>
    have e2 : (match S[k]? with
      | some (.lst ds) => some (k, ds)
      | _ => none) = some (n, ds) := e
    obtain ⟨a, ha, rfl⟩ := hv
    split at e2
    · rename_i es hk
      cases e2
      obtain ⟨vs, h1, h2⟩ := r.obj _ _ a hk ha
      exact ⟨hk, by unfold isFl; rw [hk], a, vs, rfl, ha, h1, h2⟩
    · cases e2
  | _ => cases e
theorem seqOf_at {d : D} {ds : List D} {v : V} (r : RS G ρ F H S) (hv : RV G ρ H d v) (e : seqOf S d = some ds) : ∃ a vs, v = .ref a ∧ RVs G ρ H ds vs ∧ (SqL G.K H a vs ∨ SqT G.K H a vs) := by
  cases d with
  | tup es =>
    cases e
    obtain ⟨_, _, a, vs, h1, h2, h3⟩ := hv
    exact ⟨a, vs, h1, h3, .inr h2⟩
  | mix es =>
    cases e
    obtain ⟨_, a, vs, h1, h2, h3⟩ := hv
    exact ⟨a, vs, h1, h3, .inr h2⟩
  | ref k =>
    have e2 : (match S[k]? with
      | some (.lst ds) => some ds
      | some (.fl ds) => some ds
      | _ => none) = some ds := e
    obtain ⟨a, ha, rfl⟩ := hv
    split at e2
    · rename_i es hk
      cases e2
      obtain ⟨vs, h1, h2⟩ := r.obj _ _ a hk ha
      exact ⟨a, vs, rfl, h2, .inl (.inl (.inl h1))⟩
    · rename_i es hk
      cases e2
      obtain ⟨vs, h1, h2⟩ := r.obj _ _ a hk ha
      exact ⟨a, vs, rfl, h2, .inl h1.sq⟩
    · cases e2
  | _ => cases e
/-- the value of a list as the store has it, locked or not -/
theorem seqRef_at {k : Nat} {ds : List D} {v : V} (r : RS G ρ F H S) (hv : RV G ρ H (.ref k) v) (e : S[k]? = some (.lst ds) ∨ S[k]? = some (.fl ds)) : ∃ a vs, v = .ref a ∧ RVs G ρ H ds vs ∧ SqL G.K H a vs := by
  obtain ⟨a, ha, rfl⟩ := hv
  rcases e with hk | hk
  · obtain ⟨vs, h1, h2⟩ := r.obj _ _ a hk ha
    exact ⟨a, vs, rfl, h2, .inl (.inl h1)⟩
  · obtain ⟨vs, h1, h2⟩ := r.obj _ _ a hk ha
    exact ⟨a, vs, rfl, h2, h1.sq⟩
theorem dk_at {k : Nat} {kvs : List (D × D)} {v : V} (r : RS G ρ F H S) (hv : RV G ρ H (.ref k) v) (e : S[k]? = some (.dk kvs)) : ∃ a ws, v = .ref a ∧ ρ[k]? = some a ∧ H a = some (.dK ws) ∧ RK G ρ H kvs ws := by
  obtain ⟨a, ha, rfl⟩ := hv
  obtain ⟨ws, h1, h2⟩ := r.obj _ _ a e ha
  exact ⟨a, ws, rfl, ha, h1, h2⟩

/-! ### data -/
mutual
theorem toP_ok (r : RS G ρ F H S) : ∀ (f : Nat) (d : D) (v : V) (x : PyData), RV G ρ H d v → toP S f d = some x → Dp G.K H v x
  | 0, _, _, _, _, e => by cases e
  | f + 1, .non, v, x, h, e => by
    cases e
    rw [show v = _ from h]
    exact .non
  | f + 1, .bl b, v, x, h, e => by
    cases e
    rw [show v = _ from h]
    exact .bl b
  | f + 1, .int i, v, x, h, e => by
    cases e
    rw [show v = _ from h]
    exact .int i
  | f + 1, .str y, v, x, h, e => by
    cases e
    rw [show v = _ from h]
    exact .str y
  | f + 1, .tup ds, v, x, h, e => by
    obtain ⟨_, _, a, vs, rfl, h2, h3⟩ := h
    obtain ⟨xs, e1, rfl⟩ := Option.map_eq_some_iff.mp (show (optAll (fun d => toP S f d) ds).map PyData.tuple = some x from e)
    exact .tup h2 (toPs_ok r f ds vs xs h3 e1)
  | f + 1, .mix ds, v, x, h, e => by
    obtain ⟨_, a, vs, rfl, h2, h3⟩ := h
    obtain ⟨xs, e1, rfl⟩ := Option.map_eq_some_iff.mp (show (optAll (fun d => toP S f d) ds).map PyData.tuple = some x from e)
    exact .tup h2 (toPs_ok r f ds vs xs h3 e1)
  | f + 1, .ref n, v, x, h, e => by
    have e2 : (match S[n]? with
      | some (.lst ds) => (optAll (fun d => toP S f d) ds).map PyData.list
      | some (.fl ds) => (optAll (fun d => toP S f d) ds).map PyData.list
      | _ => none) = some x := e
    split at e2
    · rename_i ds hk
      obtain ⟨a, vs, rfl, h2, h3⟩ := seqRef_at r h (.inl hk)
      obtain ⟨xs, e1, rfl⟩ := Option.map_eq_some_iff.mp e2
      exact .lst h3 (toPs_ok r f ds vs xs h2 e1)
    · rename_i ds hk
      obtain ⟨a, vs, rfl, h2, h3⟩ := seqRef_at r h (.inr hk)
      obtain ⟨xs, e1, rfl⟩ := Option.map_eq_some_iff.mp e2
      exact .lst h3 (toPs_ok r f ds vs xs h2 e1)
    · cases e2
  | f + 1, .glo c, v, x, h, e => by cases e
theorem toPs_ok (r : RS G ρ F H S) : ∀ (f : Nat) (ds : List D) (vs : List V) (xs : List PyData), RVs G ρ H ds vs → optAll (fun d => toP S f d) ds = some xs → DpAll G.K H vs xs
  | f, [], vs, xs, h, e => by
    cases e
    rw [show vs = [] from h]
    exact .nil
  | f, d :: ds, vs, xs, h, e => by
    obtain ⟨w, ws, rfl, h2, h3⟩ := h
    unfold optAll at e
    split at e
    · cases e
    · rename_i y hy
      split at e
      · cases e
      · rename_i ys hys
        cases e
        exact .cons (toP_ok r f d w y h2 hy) (toPs_ok r f ds ws ys h3 hys)
end
theorem eqB_ok (r : RS G ρ F H S) {a b : D} {v u : V} {k : Bool} (ha : RV G ρ H a v) (hb : RV G ρ H b u) (e : eqB S a b = some k) :
    ∃ x y, Dp G.K H v x ∧ Dp G.K H u y ∧ x.canLay0 = true ∧ y.canLay0 = true ∧ min x.depth y.depth ≤ 64 ∧ PyData.eqv x y = k := by
  unfold eqB at e
  split at e
  · rename_i x y e1 e2
    split at e
    · rename_i e3
      obtain ⟨e3, s3⟩ := Bool.and_eq_true_iff.mp e3
      obtain ⟨s1, s2⟩ := Bool.and_eq_true_iff.mp e3
      exact ⟨x, y, toP_ok r _ _ _ _ ha e1, toP_ok r _ _ _ _ hb e2, s1, s2, Nat.le_of_ble_eq_true s3, Option.some.inj e⟩
    · cases e
  · cases e
/-- == of data, one of which is no deeper than 64 -/
theorem op_eqm {X : Cx} (hu : X.A.units + 65 < cLine) : OpR X (compareOp .Eq) (fun x y H Q => ∃ d e, Dp X.K H x d ∧ Dp X.K H y e ∧ d.canLay0 = true ∧ e.canLay0 = true ∧ min d.depth e.depth ≤ 64 ∧ Q (.bl (PyData.eqv d e)) H) := by
  intro pins s σ H x y v u Q I rx ry ⟨d, e, hd, he, sd, se, hm, q⟩
  obtain ⟨as, r1⟩ := Dp.reads I d x v hd rx
  obtain ⟨bs, r2⟩ := Dp.reads I e y u he ry
  exact SeqAt.compareEq_reads r1 r2 sd se (by omega) ⟨.bl _, H, I, rfl, q⟩
theorem op_nem {X : Cx} (hu : X.A.units + 65 < cLine) : OpR X (compareOp .NotEq) (fun x y H Q => ∃ d e, Dp X.K H x d ∧ Dp X.K H y e ∧ d.canLay0 = true ∧ e.canLay0 = true ∧ min d.depth e.depth ≤ 64 ∧ Q (.bl (!PyData.eqv d e)) H) := by
  intro pins s σ H x y v u Q I rx ry ⟨d, e, hd, he, sd, se, hm, q⟩
  obtain ⟨as, r1⟩ := Dp.reads I d x v hd rx
  obtain ⟨bs, r2⟩ := Dp.reads I e y u he ry
  exact SeqAt.compareNe_reads r1 r2 sd se (by omega) ⟨.bl _, H, I, rfl, q⟩
theorem flat_ok {d : D} {v : V} (h : RV G ρ H d v) (f : flat d = true) : flatV v = true := by
  cases d with
  | non => rw [show v = _ from h]; rfl
  | bl b => rw [show v = _ from h]; rfl
  | int i => rw [show v = _ from h]; rfl
  | str x => rw [show v = _ from h]; rfl
  | _ => cases f
theorem flats_ok : ∀ {ds : List D} {vs : List V}, RVs G ρ H ds vs → ds.all flat = true → vs.all flatV = true
  | [], _, h, _ => by rw [show _ = [] from h]; rfl
  | d :: ds, _, h, f => by
    obtain ⟨w, ws, rfl, h2, h3⟩ := h
    rw [List.all_cons] at f ⊢
    obtain ⟨f1, f2⟩ := Bool.and_eq_true_iff.mp f
    rw [flat_ok h2 f1, flats_ok h3 f2]
    rfl
theorem eqF_ok {a b : D} {v u : V} (ha : RV G ρ H a v) (hb : RV G ρ H b u) (fa : flat a = true) (fb : flat b = true) : eqF a b = eqV v u := by
  cases a <;> cases b <;> first | cases fa; done | cases fb; done | (rw [show v = _ from ha, show u = _ from hb]; rfl)
theorem anyF_ok {a : D} {v : V} (ha : RV G ρ H a v) (fa : flat a = true) : ∀ {ds : List D} {vs : List V}, RVs G ρ H ds vs → ds.all flat = true → (ds.any fun d => eqF d a) = inV v vs
  | [], _, h, _ => by rw [show _ = [] from h]; rfl
  | d :: ds, _, h, f => by
    obtain ⟨w, ws, rfl, h2, h3⟩ := h
    rw [List.all_cons] at f
    obtain ⟨f1, f2⟩ := Bool.and_eq_true_iff.mp f
    rw [List.any_cons, anyF_ok ha fa h3 f2, eqF_ok h2 ha f1 fa]
    rfl

/-! ### operations -/
def r2 (G : Gx) (f : D → D → Sto → R D) : R2 := fun x y H Q => ∃ ρ F S a b, RS G ρ F H S ∧ RV G ρ H a x ∧ RV G ρ H b y ∧ okR G ρ F H Q (f a b S)
def bopOf : Bop → Operator
  | .add => .Add | .sub => .Sub | .mul => .Mult | .fdiv => .FloorDiv | .mod => .Mod | .pow => .Pow
theorem small_ok {i : Int} (h : small i = true) : -(2 ^ 64) < i ∧ i < 2 ^ 64 := of_decide_eq_true h
variable {X : Cx}
theorem bin_ok (hK : X.K = G.K) (o : Bop) : OpR X (binaryOp (bopOf o)) (r2 G (bin o)) := by
  intro pins s σ H x y v u Q I rx ry h
  obtain ⟨ρ, F, S, a, b, r, ha, hb, h⟩ := h
  unfold bin at h
  split at h
  · rw [show x = _ from ha] at rx; rw [show y = _ from hb] at ry
    exact op_add pins s σ H _ _ v u Q I rx ry ⟨_, _, rfl, rfl, h.same r rfl⟩
  · rw [show x = _ from ha] at rx; rw [show y = _ from hb] at ry
    exact op_sub pins s σ H _ _ v u Q I rx ry ⟨_, _, rfl, rfl, h.same r rfl⟩
  · rename_i i j
    split at h
    · rename_i e
      rw [show x = _ from ha] at rx; rw [show y = _ from hb] at ry
      refine op_mul pins s σ H _ _ v u Q I rx ry ⟨_, _, rfl, rfl, ?_, h.same r rfl⟩
      rcases Bool.or_eq_true_iff.mp e with e | e
      · exact .inl (small_ok e)
      · exact .inr (small_ok e)
    · exact h.elim
  · rename_i i j
    split at h
    · rename_i e
      obtain ⟨e1, e2⟩ := Bool.and_eq_true_iff.mp e
      rw [show x = _ from ha] at rx; rw [show y = _ from hb] at ry
      exact op_fdivW pins s σ H _ _ v u Q I rx ry ⟨_, _, rfl, rfl, ⟨of_decide_eq_true e1, of_decide_eq_true e2⟩, h.same r rfl⟩
    · exact h.elim
  · rename_i i j
    split at h
    · rename_i e
      rw [show x = _ from ha] at rx; rw [show y = _ from hb] at ry
      exact op_mod pins s σ H _ _ v u Q I rx ry ⟨_, _, rfl, rfl, of_decide_eq_true e, h.same r rfl⟩
    · exact h.elim
  · rename_i i j
    split at h
    · rename_i e
      obtain ⟨e1, e3⟩ := Bool.and_eq_true_iff.mp e
      obtain ⟨e1, e2⟩ := Bool.and_eq_true_iff.mp e1
      rw [show x = _ from ha] at rx; rw [show y = _ from hb] at ry
      exact op_pow pins s σ H _ _ v u Q I rx ry ⟨_, _, rfl, rfl, ⟨of_decide_eq_true e1, of_decide_eq_true e2, of_decide_eq_true e3⟩, h.same r rfl⟩
    · exact h.elim
  · rename_i i j
    split at h
    · rename_i e
      rw [show x = _ from ha] at rx; rw [show y = _ from hb] at ry
      exact op_add_str pins s σ H _ _ v u Q I rx ry ⟨_, _, rfl, rfl, Nat.le_of_ble_eq_true e, h.same r rfl⟩
    · exact h.elim
  · split at h
    · rename_i ds _ es e1 e2
      obtain ⟨_, _, a1, vs, rfl, _, h1, h2⟩ := lstOf_at r ha e1
      obtain ⟨_, _, a2, ws, rfl, _, h3, h4⟩ := lstOf_at r hb e2
      obtain ⟨q1, q2⟩ := h.newL r (h2.append h4)
      exact op_cat pins s σ H _ _ v u Q I rx ry ⟨_, _, _, _, rfl, rfl, h1, h3, by rw [List.length_append] at q1; exact q1, q2⟩
    · exact h.elim
  · split at h
    · rename_i ds e1
      split at h
      · rename_i e
        obtain ⟨e2, e4⟩ := Bool.and_eq_true_iff.mp e
        obtain ⟨e2, e3⟩ := Bool.and_eq_true_iff.mp e2
        have e2 := of_decide_eq_true e2
        have e4 := of_decide_eq_true e4
        obtain ⟨_, _, a1, vs, rfl, _, h1, h2⟩ := lstOf_at r ha e1
        rw [show y = _ from hb] at ry
        obtain ⟨q1, q2⟩ := h.newL r (h2.rep _)
        exact op_rep pins s σ H _ _ v u Q I rx ry ⟨_, _, _, rfl, rfl, h1, by omega, e4, by rw [← h2.length]; exact Nat.le_of_ble_eq_true e3, q2⟩
      · exact h.elim
    · exact h.elim
  · split at h
    · rename_i ds e1
      split at h
      · rename_i e
        obtain ⟨e2, e4⟩ := Bool.and_eq_true_iff.mp e
        obtain ⟨e2, e3⟩ := Bool.and_eq_true_iff.mp e2
        have e2 := of_decide_eq_true e2
        have e3 := of_decide_eq_true e3
        have e4 := Nat.le_of_ble_eq_true e4
        have e5 := Int.toNat_le.mpr (show _ ≤ ((1000 : Nat) : Int) from e3)
        obtain ⟨_, a1, vs, rfl, h1, h2⟩ := ha.tupOf e1
        rw [show y = _ from hb] at ry
        have hvl : vs.length ≤ 1000 := by rw [← h2.length]; exact e4
        refine op_repA pins s σ H _ _ v u Q I rx ry ⟨a1, _, vs, rfl, rfl, by rw [hK]; exact h1, e2, e3, hvl, fun hc => ?_, fun _ => h.mkT_ r (h2.rep _) (by
          rw [PyProof.Rows.lm_len_rep_flat]
          have := Nat.mul_le_mul e5 hvl
          rw [sizeLine_eq]
          omega)⟩
        refine h.mkTs r ?_ h1 ?_
        · rw [PyProof.Rows.lm_len_rep_flat, h2.length]
          have := Nat.mul_le_mul e5 hvl
          rw [sizeLine_eq]
          omega
        · rcases hc with rfl | rfl
          · rw [h2.nil_iff rfl]
            simp
            trivial
          · simp
            exact h2
      · exact h.elim
    · exact h.elim
  · split at h
    · rename_i ds es e1 e2
      split at h
      · rename_i e3
        obtain ⟨_, a1, vs, rfl, h1, h2⟩ := ha.tupOf e1
        obtain ⟨_, a2, ws, rfl, h3, h4⟩ := hb.tupOf e2
        have hz : vs.length + ws.length ≤ sizeLine := by
          rw [← h2.length, ← h4.length]
          exact Nat.le_of_ble_eq_true e3
        have hz' : (ds ++ es).length ≤ sizeLine := by
          rw [List.length_append]
          exact Nat.le_of_ble_eq_true e3
        refine op_catA pins s σ H _ _ v u Q I rx ry ⟨a1, a2, vs, ws, rfl, rfl, by rw [hK]; exact h1, by rw [hK]; exact h3, hz, fun e => ?_, fun _ e => ?_, fun _ _ => h.mkT_ r (h2.append h4) (by rw [List.length_append]; exact hz)⟩
        · subst e
          rw [h2.nil_iff rfl, List.nil_append] at h
          exact h.mkTs r (by rw [h4.length]; simpa using hz) h3 h4
        · subst e
          rw [h4.nil_iff rfl, List.append_nil] at h
          exact h.mkTs r (by rw [h2.length]; simpa using hz) h1 h2
      · exact h.elim
    · exact h.elim
  · exact h.elim

/-! ### comparisons -/
def rc (f : D → D → Sto → Option Bool) (a b : D) (S : Sto) : R D := match f a b S with
  | some k => .ok (.bl k) S
  | none => .no
def copOf : Cop → CmpOp
  | .eq => .Eq | .ne => .NotEq | .lt => .Lt | .le => .LtE | .gt => .Gt | .ge => .GtE | .is => .Is | .isn => .IsNot | .isin => .In | .notin => .NotIn
theorem isD_ok {a b : D} {v u : V} {k : Bool} (ha : RV G ρ H a v) (hb : RV G ρ H b u) (e : isD a b = some k) : (u = .non ∧ k = decide (v = .non)) ∨ ∃ x y : Bool, v = .bl x ∧ u = .bl y ∧ k = decide (x = y) := by
  unfold isD at e
  split at e
  · cases e
    exact .inl ⟨hb, by rw [show v = _ from ha]; rfl⟩
  · rename_i hn
    cases e
    refine .inl ⟨hb, ?_⟩
    cases a with
    | non => exact absurd rfl hn
    | bl b => rw [show v = _ from ha]; rfl
    | int i => rw [show v = _ from ha]; rfl
    | str x => rw [show v = _ from ha]; rfl
    | ref n =>
      obtain ⟨_, _, rfl⟩ := ha
      rfl
    | glo c =>
      obtain ⟨_, _, rfl⟩ := ha
      rfl
    | tup ds =>
      obtain ⟨_, _, _, _, rfl, _⟩ := ha
      rfl
    | mix ds =>
      obtain ⟨_, _, _, rfl, _⟩ := ha
      rfl
  · cases e
    refine .inr ⟨_, _, ha, hb, ?_⟩
    rename_i x y
    cases x <;> cases y <;> rfl
  · cases e
theorem keyR_of {d : D} {v : V} (h : RV G ρ H d v) (k : keyOk d = true) : ∃ key, keyR d key ∧ v = kV key := by
  cases d with
  | int i => exact ⟨.inl i, rfl, h⟩
  | str x => exact ⟨.inr x, rfl, h⟩
  | _ => cases k
theorem keyR_eq {a b : D} {x y : Key} (ha : keyR a x) (hb : keyR b y) : eqF a b = decide (x = y) := by
  cases a with
  | int i =>
    cases b with
    | int j =>
      rw [show x = _ from ha, show y = _ from hb, key_ll]
      show decide (i = j) = (i == j)
      by_cases e : i = j <;> simp [e]
    | str z =>
      rw [show x = _ from ha, show y = _ from hb, key_lr]
      rfl
    | _ => exact hb.elim
  | str z =>
    cases b with
    | int j =>
      rw [show x = _ from ha, show y = _ from hb, key_rl]
      rfl
    | str z2 =>
      rw [show x = _ from ha, show y = _ from hb, key_rr]
      rfl
    | _ => exact hb.elim
  | _ => exact ha.elim
def RVo (G : Gx) (ρ : List Addr) (H : Hp) : Option D → Option V → Prop
  | some d, some v => RV G ρ H d v
  | none, none => True
  | _, _ => False
theorem dkGet_ok {k : D} {key : Key} (hk : keyR k key) : ∀ {kvs : List (D × D)} {ws : List (Key × V)}, RK G ρ H kvs ws → RVo G ρ H (dkGet kvs k) (valV ws key)
  | _, _, .nil => trivial
  | (k', d) :: kvs, (key', v) :: ws, .cons x t => by
    unfold dkGet
    rw [keyR_eq x.1 hk]
    by_cases e : key' = key
    · rw [valV_pos (p := (key', v)) e, decide_eq_true e]
      exact x.2
    · rw [valV_neg (p := (key', v)) e, decide_eq_false e]
      exact dkGet_ok hk t
theorem dkAny_ok {k : D} {key : Key} (hk : keyR k key) : ∀ {kvs : List (D × D)} {ws : List (Key × V)}, RK G ρ H kvs ws → (kvs.any fun p => eqF p.1 k) = ws.any fun q => decide (q.1 = key)
  | _, _, .nil => rfl
  | (k', d) :: kvs, (key', v) :: ws, .cons x t => by
    rw [List.any_cons, List.any_cons, dkAny_ok hk t, keyR_eq x.1 hk]
theorem dkMap_ok {k : D} {key : Key} {d : D} {v : V} (hk : keyR k key) (hv : RV G ρ H d v) : ∀ {kvs : List (D × D)} {ws : List (Key × V)}, RK G ρ H kvs ws →
    RK G ρ H (kvs.map fun p => match eqF p.1 k with
      | true => (p.1, d)
      | false => p) (ws.map fun q => if q.1 = key then (q.1, v) else q)
  | _, _, .nil => .nil
  | (k', d') :: kvs, (key', v') :: ws, .cons x t => by
    rw [List.map_cons, List.map_cons]
    refine .cons ?_ (dkMap_ok hk hv t)
    rw [keyR_eq x.1 hk]
    by_cases e : key' = key
    · rw [decide_eq_true e, if_pos e]
      exact ⟨x.1, hv⟩
    · rw [decide_eq_false e, if_neg e]
      exact x
theorem RK.snoc {kvs : List (D × D)} {ws : List (Key × V)} {p : D × D} {q : Key × V} (h : RK G ρ H kvs ws) (hp : keyR p.1 q.1 ∧ RV G ρ H p.2 q.2) : RK G ρ H (kvs ++ [p]) (ws ++ [q]) := by
  induction h with
  | nil => exact .cons hp .nil
  | cons x t ih => exact .cons x ih
theorem dkPut_ok {kvs : List (D × D)} {ws : List (Key × V)} {k d : D} {key : Key} {v : V} (h : RK G ρ H kvs ws) (hk : keyR k key) (hv : RV G ρ H d v) : RK G ρ H (dkPut kvs k d) (putK ws key v) := by
  unfold dkPut putK
  rw [dkAny_ok hk h]
  split
  · rename_i e
    rw [if_pos e]
    exact dkMap_ok hk hv h
  · rename_i e
    rw [if_neg (by rw [e]; exact Bool.false_ne_true)]
    exact h.snoc ⟨hk, hv⟩
theorem RK.length {kvs : List (D × D)} {ws : List (Key × V)} (h : RK G ρ H kvs ws) : kvs.length = ws.length := Paired.length h
theorem isSome_ok {o : Option D} {w : Option V} (h : RVo G ρ H o w) : o.isSome = w.isSome := by
  cases o <;> cases w <;> first | rfl | exact h.elim
theorem inD_ok (hK : X.K = G.K) (hu : X.A.units + 65 < cLine) {pins : List (Addr × Obj)} {s : Shared} {σ : L2.St} {x y : V} {v u : Value} (I : Inv X pins σ H s) (rx : RelV x v) (ry : RelV y u) (r : RS G ρ F H S) {a b : D} (ha : RV G ρ H a x) (hb : RV G ρ H b y) {k : Bool}
    (e : inD S a b = some k) : (Q (.bl k) H → wpAny (model X.prog X.w) X.A (compareOp .In v u) (EP X pins σ Q) X.xe s) ∧ (Q (.bl (!k)) H → wpAny (model X.prog X.w) X.A (compareOp .NotIn v u) (EP X pins σ Q) X.xe s) := by
  unfold inD at e
  split at e
  · rename_i z
    split at e
    · rename_i w
      split at e
      · rename_i e1
        cases e
        rw [show x = _ from ha] at rx
        rw [show y = _ from hb] at ry
        obtain ⟨c, hc⟩ : ∃ c, w = ⟨#[c]⟩ := by
          obtain ⟨⟨l⟩⟩ := w
          have e2 : l.length = 1 := Nat.eq_of_beq_eq_true e1
          match l, e2 with
          | [c], _ => exact ⟨c, rfl⟩
        subst hc
        have hh : z.cps.toList.contains ((⟨#[c]⟩ : Str).cps.getD 0 0) = decide (c ∈ z.cps.toList) := by
          show z.cps.toList.contains c = _
          exact List.contains_eq_mem ..
        rw [hh]
        exact ⟨fun q => op_in_sign pins s σ H _ _ v u Q I rx ry ⟨c, z, rfl, rfl, q⟩, fun q => op_notIn_sign pins s σ H _ _ v u Q I rx ry ⟨c, z, rfl, rfl, q⟩⟩
      · cases e
    · cases e
  · rename_i n
    split at e
    · rename_i kvs hn
      split at e
      · rename_i e1
        cases e
        obtain ⟨key, h1, rfl⟩ := keyR_of ha e1
        obtain ⟨a1, ws, rfl, _, h2, h3⟩ := dk_at r hb hn
        cases ry
        have g := DGet.k (k := key) h2
        rw [isSome_ok (dkGet_ok h1 h3)]
        refine ⟨fun q => ?_, fun q => ?_⟩
        · exact d_in (by omega) I g rx fun s' I' => ⟨.bl _, H, I', rfl, q⟩
        · exact d_notIn (by omega) I g rx fun s' I' => ⟨.bl _, H, I', rfl, q⟩
      · cases e
    · rename_i ds hn
      obtain ⟨a1, vs, rfl, h2, h3⟩ := seqRef_at r hb (.inl hn)
      split at e
      · rename_i e1
        cases e
        obtain ⟨f1, f2⟩ := Bool.and_eq_true_iff.mp e1
        rw [anyF_ok ha f1 h2 f2]
        exact ⟨fun q => op_in_seq pins s σ H _ _ v u Q I rx ry ⟨a1, vs, rfl, .inl (by rw [hK]; exact h3), flat_ok ha f1, flats_ok h2 f2, q⟩,
          fun q => op_notIn_seq pins s σ H _ _ v u Q I rx ry ⟨a1, vs, rfl, .inl (by rw [hK]; exact h3), flat_ok ha f1, flats_ok h2 f2, q⟩⟩
      · split at e
        · rename_i xd yd e1 e2
          split at e
          · rename_i e3
            obtain ⟨s1, s2⟩ := Bool.and_eq_true_iff.mp e3
            cases e
            have d1 := toP_ok r _ _ _ _ ha e1
            have d2 := toP_ok r _ _ _ _ hb e2
            exact ⟨fun q => op_inD hu pins s σ H _ _ v u Q I rx ry ⟨_, _, by rw [hK]; exact d1, by rw [hK]; exact d2, s1, s2, q⟩,
              fun q => op_notInD hu pins s σ H _ _ v u Q I rx ry ⟨_, _, by rw [hK]; exact d1, by rw [hK]; exact d2, s1, s2, q⟩⟩
          · cases e
        · cases e
    · cases e
  · split at e
    · rename_i ds e1
      split at e
      · rename_i e2
        cases e
        obtain ⟨f1, f2⟩ := Bool.and_eq_true_iff.mp e2
        obtain ⟨_, a1, vs, rfl, h1, h2⟩ := hb.tupOf e1
        rw [anyF_ok ha f1 h2 f2]
        exact ⟨fun q => op_in_seq pins s σ H _ _ v u Q I rx ry ⟨a1, vs, rfl, .inr (by rw [hK]; exact h1), flat_ok ha f1, flats_ok h2 f2, q⟩,
          fun q => op_notIn_seq pins s σ H _ _ v u Q I rx ry ⟨a1, vs, rfl, .inr (by rw [hK]; exact h1), flat_ok ha f1, flats_ok h2 f2, q⟩⟩
      · cases e
    · cases e
theorem cmp_ok (hK : X.K = G.K) (hu : X.A.units + 65 < cLine) (o : Cop) : OpR X (compareOp (copOf o)) (r2 G (rc (cmp o))) := by
  intro pins s σ H x y v u Q I rx ry h
  obtain ⟨ρ, F, S, a, b, r, ha, hb, h⟩ := h
  unfold rc at h
  split at h
  · rename_i k e
    have q : Q (.bl k) H := h.same r rfl
    cases o with
    | eq =>
      obtain ⟨d1, d2, h1, h2, s1, s2, s3, e2⟩ := eqB_ok r ha hb e
      exact op_eqm hu pins s σ H _ _ v u Q I rx ry ⟨d1, d2, by rw [hK]; exact h1, by rw [hK]; exact h2, s1, s2, s3, by rw [e2]; exact q⟩
    | ne =>
      obtain ⟨k', e, e3⟩ := Option.map_eq_some_iff.mp (show (eqB S a b).map (!·) = some k from e)
      obtain ⟨d1, d2, h1, h2, s1, s2, s3, e2⟩ := eqB_ok r ha hb e
      exact op_nem hu pins s σ H _ _ v u Q I rx ry ⟨d1, d2, by rw [hK]; exact h1, by rw [hK]; exact h2, s1, s2, s3, by rw [e2, e3]; exact q⟩
    | is =>
      rcases isD_ok ha hb e with ⟨rfl, e2⟩ | ⟨c, d, rfl, rfl, e2⟩
      · exact op_isN pins s σ H _ _ v u Q I rx ry ⟨rfl, by rw [← e2]; exact q⟩
      · exact op_isBl pins s σ H _ _ v u Q I rx ry ⟨c, d, rfl, rfl, by rw [← e2]; exact q⟩
    | isn =>
      obtain ⟨k', e, e3⟩ := Option.map_eq_some_iff.mp (show (isD a b).map (!·) = some k from e)
      rcases isD_ok ha hb e with ⟨rfl, e2⟩ | ⟨c, d, rfl, rfl, e2⟩
      · exact op_notN pins s σ H _ _ v u Q I rx ry ⟨rfl, by rw [← e2, e3]; exact q⟩
      · exact op_notBl pins s σ H _ _ v u Q I rx ry ⟨c, d, rfl, rfl, by rw [← e2, e3]; exact q⟩
    | isin => exact (inD_ok hK hu I rx ry r ha hb e).1 q
    | notin =>
      obtain ⟨k', e, e3⟩ := Option.map_eq_some_iff.mp (show (inD S a b).map (!·) = some k from e)
      exact (inD_ok hK hu I rx ry r ha hb e).2 (by rw [e3]; exact q)
    | lt =>
      cases a <;> cases b <;> first | (cases e; done) | skip
      rw [show x = _ from ha] at rx; rw [show y = _ from hb] at ry
      cases e
      exact op_lt pins s σ H _ _ v u Q I rx ry ⟨_, _, rfl, rfl, q⟩
    | le =>
      cases a <;> cases b <;> first | (cases e; done) | skip
      rw [show x = _ from ha] at rx; rw [show y = _ from hb] at ry
      cases e
      exact op_le pins s σ H _ _ v u Q I rx ry ⟨_, _, rfl, rfl, q⟩
    | gt =>
      cases a <;> cases b <;> first | (cases e; done) | skip
      rw [show x = _ from ha] at rx; rw [show y = _ from hb] at ry
      cases e
      exact op_gt pins s σ H _ _ v u Q I rx ry ⟨_, _, rfl, rfl, q⟩
    | ge =>
      cases a <;> cases b <;> first | (cases e; done) | skip
      rw [show x = _ from ha] at rx; rw [show y = _ from hb] at ry
      cases e
      exact op_ge pins s σ H _ _ v u Q I rx ry ⟨_, _, rfl, rfl, q⟩
  · exact h.elim
end
end DE
namespace DE
open PySem PySem.Spec PyProof.Rows
def leS (a b : Str) : Prop := ltCps b.cps.toList a.cps.toList = false
theorem leS_iff {a b : Str} : leS a b ↔ a.cps.toList ≤ b.cps.toList := by
  unfold leS
  rw [ltCps_eq, decide_eq_false_iff_not]
  exact Iff.rfl
theorem leS_trans {a b c : Str} (h1 : leS a b) (h2 : leS b c) : leS a c := leS_iff.mpr (List.le_trans (leS_iff.mp h1) (leS_iff.mp h2))
theorem leS_total (a b : Str) : leS a b ∨ leS b a := (List.le_total a.cps.toList b.cps.toList).imp leS_iff.mpr leS_iff.mpr
theorem leS_anti {a b : Str} (h1 : leS a b) (h2 : leS b a) : a = b := by
  have := List.le_antisymm (leS_iff.mp h1) (leS_iff.mp h2)
  obtain ⟨⟨x⟩⟩ := a
  obtain ⟨⟨y⟩⟩ := b
  have e : x = y := this
  rw [e]
theorem insS_perm (x : Str) : ∀ l : List Str, (insS x l).Perm (x :: l)
  | [] => .refl _
  | y :: r => by
    unfold insS
    split
    · exact .refl _
    · exact (List.Perm.cons y (insS_perm x r)).trans (List.Perm.swap x y r)
theorem sortS_perm : ∀ l : List Str, (sortS l).Perm l
  | [] => .refl _
  | x :: l => (insS_perm x (sortS l)).trans (.cons x (sortS_perm l))
theorem insS_pair (x : Str) : ∀ l : List Str, l.Pairwise leS → (insS x l).Pairwise leS
  | [], _ => by simp [insS]
  | y :: r, h => by
    obtain ⟨h1, h2⟩ := List.pairwise_cons.mp h
    unfold insS
    split
    · rename_i e
      have e : leS x y := e
      refine List.pairwise_cons.mpr ⟨fun z hz => ?_, h⟩
      rcases List.mem_cons.mp hz with rfl | hz
      · exact e
      · exact leS_trans e (h1 z hz)
    · rename_i e
      have e : leS y x := by
        rcases leS_total y x with q | q
        · exact q
        · rw [show ltCps y.cps.toList x.cps.toList = false from q] at e
          cases e
      refine List.pairwise_cons.mpr ⟨fun z hz => ?_, insS_pair x r h2⟩
      rcases List.mem_cons.mp ((insS_perm x r).mem_iff.mp hz) with rfl | hz
      · exact e
      · exact h1 z hz
theorem sortS_pair : ∀ l : List Str, (sortS l).Pairwise leS
  | [] => .nil
  | x :: l => insS_pair x _ (sortS_pair l)
theorem pair_unique : ∀ {l m : List Str}, l.Perm m → l.Pairwise leS → m.Pairwise leS → l = m
  | [], m, p, _, _ => (List.Perm.nil_eq p)
  | x :: l, [], p, _, _ => absurd p.length_eq (by simp)
  | x :: l, y :: m, p, h1, h2 => by
    obtain ⟨a1, a2⟩ := List.pairwise_cons.mp h1
    obtain ⟨b1, b2⟩ := List.pairwise_cons.mp h2
    have e : x = y := by
      rcases List.mem_cons.mp (p.mem_iff.mp List.mem_cons_self) with e | hx
      · exact e
      · rcases List.mem_cons.mp (p.mem_iff.mpr List.mem_cons_self) with e | hy
        · exact e.symm
        · exact leS_anti (a1 y hy) (b1 x hx)
    subst e
    rw [pair_unique (List.Perm.cons_inv p) a2 b2]
theorem rising_pair : ∀ (p : Str) (l : List Str), risingS p l = true → (p :: l).Pairwise leS
  | p, [], _ => by simp
  | p, x :: r, h => by
    have h' : (!ltCps x.cps.toList p.cps.toList && risingS x r) = true := h
    obtain ⟨h1, h2⟩ := Bool.and_eq_true_iff.mp h'
    have h1 : leS p x := by
      unfold leS
      cases q : ltCps x.cps.toList p.cps.toList with
      | false => rfl
      | true =>
        rw [q] at h1
        cases h1
    have ih := rising_pair x r h2
    refine List.pairwise_cons.mpr ⟨fun z hz => ?_, ih⟩
    rcases List.mem_cons.mp hz with rfl | hz
    · exact h1
    · exact leS_trans h1 ((List.pairwise_cons.mp ih).1 z hz)
theorem perm_sorted_strs {xs ys : List Str} (hp : ys.Perm xs) (hs : sortedS ys = true) : ys = sortS xs := by
  refine pair_unique (hp.trans (sortS_perm xs).symm) ?_ (sortS_pair xs)
  cases ys with
  | nil => exact .nil
  | cons x l => exact rising_pair x l hs
end DE
/-! DE4: subscripts, built-ins, methods by values. -/
namespace DE
open PySem PySem.Spec PyProof.Rows L2
section
variable {G : Gx} {ρ ρ' : List Addr} {H H' : Hp} {F : Frm} {S S' : Sto} {Q : VK} {X : Cx}
theorem ixN_eq (n : Nat) (i : Int) : ixN n i = L2.ixN n i := rfl
theorem RVs.atI {ds : List D} {vs : List V} {i : Int} {d : D} (h : RVs G ρ H ds vs) (e : (ixN ds.length i).bind (fun j => ds[j]?) = some d) : ∃ v, L2.atI vs i = some v ∧ RV G ρ H d v := by
  unfold L2.atI
  rw [← h.length, ← ixN_eq]
  cases q : ixN ds.length i with
  | none =>
    rw [q] at e
    cases e
  | some j =>
    rw [q] at e
    exact h.get (show ds[j]? = some d from e)
theorem idx_ok (hK : X.K = G.K) (hu : X.A.units + 65 < cLine) : IxR X (r2 G (fun a b S => R.ofO S (idx a b S))) := by
  intro value slice pins s σ H x y v u Q I rx ry h hs
  obtain ⟨ρ, F, S, a, b, r, ha, hb, h⟩ := h
  have h : okR G ρ F H Q (R.ofO S (idx a b S)) := h
  cases e : idx a b S with
  | none =>
    rw [e] at h
    exact h.elim
  | some d =>
    rw [e] at h
    have hd : okR G ρ F H Q (.ok d S) := h
    unfold idx at e
    split at e
    · rename_i z i
      split at e
      · rename_i e1
        split at e
        · rename_i j e2
          obtain ⟨c, e3, e4⟩ := Option.map_eq_some_iff.mp e
          rw [show x = _ from ha] at rx; rw [show y = _ from hb] at ry
          refine ix_str value slice pins s σ H _ _ v u Q I rx ry ⟨z, i, c, rfl, rfl, Nat.le_of_ble_eq_true e1, ?_, ?_⟩ hs
          · unfold L2.atI
            rw [← ixN_eq, Array.length_toList, e2]
            show z.cps.toList[j]? = some c
            rw [Array.getElem?_toList]
            exact e3
          · exact hd.same r (show RV G ρ H d (.str ⟨#[c]⟩) by rw [← e4]; rfl)
        · cases e
      · cases e
    · rename_i n i
      rw [show y = _ from hb] at ry
      split at e
      · rename_i ds hn
        obtain ⟨a1, vs, rfl, h1, h2⟩ := seqRef_at r ha (.inl hn)
        obtain ⟨w, h3, h4⟩ := h1.atI e
        exact ix_list value slice pins s σ H _ _ v u Q I rx ry ⟨_, _, _, _, rfl, rfl, by rw [hK]; exact h2, h3, hd.same r h4⟩ hs
      · rename_i ds hn
        obtain ⟨a1, vs, rfl, h1, h2⟩ := seqRef_at r ha (.inr hn)
        obtain ⟨w, h3, h4⟩ := h1.atI e
        exact ix_list value slice pins s σ H _ _ v u Q I rx ry ⟨_, _, _, _, rfl, rfl, by rw [hK]; exact h2, h3, hd.same r h4⟩ hs
      · rename_i kvs hn
        obtain ⟨a1, ws, rfl, _, h1, h2⟩ := dk_at r ha hn
        have q := dkGet_ok (k := .int i) (key := .inl i) rfl h2
        rw [e] at q
        cases e2 : valV ws (.inl i : Key) with
        | none =>
          rw [e2] at q
          exact q.elim
        | some w =>
          rw [e2] at q
          cases rx
          have g := DGet.k (k := (.inl i : Key)) h1
          rw [e2] at g
          have ty := dict_typeIs I g
          refine tail_any ty PySem.F.slot_dict_getitem.lookup (d_getItem (by omega) I g ry fun w' s' I' rw' => ⟨w, H, I', rw', hd.same r q⟩) hs
      · cases e
    · rename_i n z
      rw [show y = _ from hb] at ry
      split at e
      · rename_i kvs hn
        obtain ⟨a1, ws, rfl, _, h1, h2⟩ := dk_at r ha hn
        have q := dkGet_ok (k := .str z) (key := .inr z) rfl h2
        rw [e] at q
        cases e2 : valV ws (.inr z : Key) with
        | none =>
          rw [e2] at q
          exact q.elim
        | some w =>
          rw [e2] at q
          cases rx
          have g := DGet.k (k := (.inr z : Key)) h1
          rw [e2] at g
          have ty := dict_typeIs I g
          refine tail_any ty PySem.F.slot_dict_getitem.lookup (d_getItem (by omega) I g ry fun w' s' I' rw' => ⟨w, H, I', rw', hd.same r q⟩) hs
      · cases e
    · rename_i i
      rw [show y = _ from hb] at ry
      split at e
      · rename_i ds e1
        obtain ⟨_, a1, vs, rfl, h1, h2⟩ := ha.tupOf e1
        obtain ⟨w, h3, h4⟩ := h2.atI e
        exact ix_tup value slice pins s σ H _ _ v u Q I rx ry ⟨_, _, _, _, rfl, rfl, by rw [hK]; exact h1, h3, hd.same r h4⟩ hs
      · cases e
    · cases e
theorem sIx_eq (n d : Nat) (o : Option Int) : sIx n d o = HT.sIx n d o := by cases o <;> rfl
theorem RVs.cut {ds : List D} {vs : List V} (lo hi : Option Int) (h : RVs G ρ H ds vs) : RVs G ρ H (cut ds lo hi) (cutV vs lo hi) := by
  unfold DE.cut cutV
  rw [sIx_eq, sIx_eq, ← h.length]
  exact RVs.take _ (RVs.drop _ h)
theorem cut_whole {ds : List D} {lo hi : Option Int} (h1 : HT.sIx ds.length 0 lo = 0) (h2 : HT.sIx ds.length ds.length hi = ds.length) : cut ds lo hi = ds := by
  unfold DE.cut
  rw [sIx_eq, sIx_eq, h1, h2]
  simp
theorem cut_length (ds : List D) (lo hi : Option Int) : (cut ds lo hi).length ≤ ds.length := by
  unfold DE.cut
  rw [List.length_take, List.length_drop]
  omega
/-- a slice by values -/
def r3 (G : Gx) (f : D → D → D → Sto → R D) : V → Option Int → Option Int → Hp → VK → Prop := fun x lo hi H Q => ∃ ρ F S a l h, RS G ρ F H S ∧ RV G ρ H a x ∧ partOf l = some lo ∧ partOf h = some hi ∧ okR G ρ F H Q (f a l h S)
theorem slc_ok (hK : X.K = G.K) : SlR X (r3 G slc) := by
  intro pins s σ H x v vl vu lo hi sl Q I rx hs pl pu h
  obtain ⟨ρ, F, S, a, l, hh, r, ha, e1, e2, h⟩ := h
  unfold slc at h
  rw [e1, e2] at h
  simp only at h
  split at h
  · rename_i n
    split at h
    · rename_i ds hn
      obtain ⟨a1, vs, rfl, h1, h2⟩ := seqRef_at r ha (.inl hn)
      obtain ⟨_, q⟩ := h.newL r (h1.cut lo hi)
      exact sl_list pins s σ H _ v vl vu lo hi sl Q I rx hs pl pu ⟨a1, vs, rfl, by rw [hK]; exact h2, q⟩
    · rename_i ds hn
      obtain ⟨a1, vs, rfl, h1, h2⟩ := seqRef_at r ha (.inr hn)
      obtain ⟨_, q⟩ := h.newL r (h1.cut lo hi)
      exact sl_list pins s σ H _ v vl vu lo hi sl Q I rx hs pl pu ⟨a1, vs, rfl, by rw [hK]; exact h2, q⟩
    · exact h.elim
  · split at h
    · rename_i ds e3
      obtain ⟨hz, a1, vs, rfl, h1, h2⟩ := ha.tupOf e3
      have hl := h2.length
      refine sl_tupA pins s σ H _ v vl vu lo hi sl Q I rx hs pl pu ⟨a1, vs, rfl, by rw [hK]; exact h1, fun ⟨w1, w2⟩ => ?_, fun _ => h.mkT_ r (h2.cut lo hi) (Nat.le_trans (cutV_length vs lo hi) (by rw [← hl]; exact hz))⟩
      rw [← hl] at w1 w2
      rw [cut_whole w1 w2] at h
      exact h.mkTs r hz h1 h2
    · exact h.elim
def rev_ok_t (G : Gx) : V → Hp → VK → Prop := fun x H Q => ∃ ρ F S a, RS G ρ F H S ∧ RV G ρ H a x ∧ okR G ρ F H Q (rev a S)
theorem rev_ok {K : PySem.W.Frag} (hK : K = G.K) {x : V} (h : rev_ok_t G x H Q) : ∃ a xs, x = .ref a ∧ SqL K H a xs ∧ ∀ p, H p = none → Q (.ref p) (upd H p (.lst xs.reverse)) := by
  obtain ⟨ρ, F, S, a, r, ha, h⟩ := h
  unfold rev at h
  split at h
  · rename_i n ds e
    obtain ⟨_, _, a1, vs, rfl, _, h1, h2⟩ := lstOf_at r ha e
    exact ⟨a1, vs, rfl, .inl (.inl h1), (h.newL r h2.reverse).2⟩
  · exact h.elim
/-! ### built-ins -/
def rN (G : Gx) (f : List D → Sto → R D) : List V → Hp → VK → Prop := fun xs H Q => ∃ ρ F S ds, RS G ρ F H S ∧ RVs G ρ H ds xs ∧ okR G ρ F H Q (f ds S)
theorem RVs.one {d : D} {vs : List V} (h : RVs G ρ H [d] vs) : ∃ v, vs = [v] ∧ RV G ρ H d v := by
  obtain ⟨w, ws, rfl, h1, h2⟩ := h
  rw [show ws = [] from h2]
  exact ⟨w, rfl, h1⟩
theorem RVs.two {d e : D} {vs : List V} (h : RVs G ρ H [d, e] vs) : ∃ v u, vs = [v, u] ∧ RV G ρ H d v ∧ RV G ρ H e u := by
  obtain ⟨w, ws, rfl, h1, h2⟩ := h
  obtain ⟨u, rfl, h3⟩ := RVs.one h2
  exact ⟨w, u, rfl, h1, h3⟩
theorem call1 {g : Value} {f : D → Sto → R D} (h : ∀ (pins : List (Addr × Obj)) (s : Shared) (σ : L2.St) (H : Hp) (v : V) (u : Value) (Q : VK) (ρ : List Addr) (F : Frm) (S : Sto) (a : D), Inv X pins σ H s → RelV v u → RS G ρ F H S → RV G ρ H a v → okR G ρ F H Q (f a S) →
    wpAny (model X.prog X.w) X.A (call g [u]) (EP X pins σ Q) X.xe s) : CallR X g (rN G (one f)) := by
  intro pins s σ H xs us Q I rx hh
  obtain ⟨ρ, F, S, ds, r, hd, hh⟩ := hh
  unfold one at hh
  split at hh
  · rename_i a
    obtain ⟨v, rfl, hv⟩ := hd.one
    obtain ⟨u, rfl, ru⟩ := vals1 rx
    exact h pins s σ H v u Q ρ F S a I ru r hv hh
  · exact hh.elim
theorem vone {v : V} {u : Value} (r : RelV v u) : Vals [v] [u] := .cons r .nil
theorem len_ok (hK : X.K = G.K) : CallR X (.builtin "len") (rN G (blt .len)) := call1 fun pins s σ H v u Q ρ F S a I rx r hv h => by
  unfold bLen at h
  split at h
  · split at h
    · rename_i e
      rw [show v = _ from hv] at rx
      exact call_len_str pins s σ H _ _ Q I (vone rx) ⟨_, rfl, Nat.le_of_ble_eq_true e, h.same r rfl⟩
    · exact h.elim
  · split at h
    · rename_i es hn
      obtain ⟨a1, vs, rfl, h1, h2⟩ := seqRef_at r hv (.inl hn)
      exact call_len_seq pins s σ H _ _ Q I (vone rx) ⟨a1, vs, rfl, .inl (by rw [hK]; exact h2), h.same r (by rw [← h1.length]; rfl)⟩
    · rename_i es hn
      obtain ⟨a1, vs, rfl, h1, h2⟩ := seqRef_at r hv (.inr hn)
      exact call_len_seq pins s σ H _ _ Q I (vone rx) ⟨a1, vs, rfl, .inl (by rw [hK]; exact h2), h.same r (by rw [← h1.length]; rfl)⟩
    · rename_i kvs hn
      obtain ⟨a1, ws, rfl, _, h1, h2⟩ := dk_at r hv hn
      cases rx
      exact d_len I (.inl h1) fun t s' I' => ⟨.int ws.length, H, I', ⟨t, rfl⟩, h.same r (by rw [← h2.length]; rfl)⟩
    · exact h.elim
  · split at h
    · rename_i es e
      obtain ⟨_, a1, vs, rfl, h1, h2⟩ := hv.tupOf e
      exact call_len_seq pins s σ H _ _ Q I (vone rx) ⟨a1, vs, rfl, .inr (by rw [hK]; exact h1), h.same r (by rw [← h2.length]; rfl)⟩
    · exact h.elim
theorem optBl : ∀ {ds : List D} {vs : List V} {bs : List Bool}, RVs G ρ H ds vs → optAll boolOf ds = some bs → vs = bs.map V.bl
  | [], vs, bs, h, e => by
    cases e
    exact h
  | d :: ds, vs, bs, h, e => by
    obtain ⟨w, ws, rfl, h2, h3⟩ := h
    unfold optAll at e
    split at e
    · cases e
    · rename_i b hb
      split at e
      · cases e
      · rename_i cs hc
        cases e
        rw [optBl h3 hc, List.map_cons]
        cases d <;> first | (cases hb; done) | skip
        cases hb
        rw [show w = _ from h2]
theorem optInt : ∀ {ds : List D} {vs : List V} {bs : List Int}, RVs G ρ H ds vs → optAll intOf ds = some bs → vs = bs.map V.int
  | [], vs, bs, h, e => by
    cases e
    exact h
  | d :: ds, vs, bs, h, e => by
    obtain ⟨w, ws, rfl, h2, h3⟩ := h
    unfold optAll at e
    split at e
    · cases e
    · rename_i b hb
      split at e
      · cases e
      · rename_i cs hc
        cases e
        rw [optInt h3 hc, List.map_cons]
        cases d <;> first | (cases hb; done) | skip
        cases hb
        rw [show w = _ from h2]
theorem optStr : ∀ {ds : List D} {vs : List V} {bs : List Str}, RVs G ρ H ds vs → optAll strOf ds = some bs → vs = bs.map V.str
  | [], vs, bs, h, e => by
    cases e
    exact h
  | d :: ds, vs, bs, h, e => by
    obtain ⟨w, ws, rfl, h2, h3⟩ := h
    unfold optAll at e
    split at e
    · cases e
    · rename_i b hb
      split at e
      · cases e
      · rename_i cs hc
        cases e
        rw [optStr h3 hc, List.map_cons]
        cases d <;> first | (cases hb; done) | skip
        cases hb
        rw [show w = _ from h2]
theorem all_ok (hK : X.K = G.K) (hc : X.calm = true) : CallR X (.builtin "all") (rN G (blt .all)) := call1 fun pins s σ H v u Q ρ F S a I rx r hv h => by
  unfold bAll at h
  split at h
  · rename_i n ds e
    split at h
    · rename_i bs e2
      obtain ⟨_, _, a1, vs, rfl, _, h1, h2⟩ := lstOf_at r hv e
      exact cr_all hc pins s σ H _ _ Q I (vone rx) ⟨a1, bs, rfl, .inl (.inl (by rw [h1, optBl h2 e2])), h.same r rfl⟩
    · exact h.elim
  · exact h.elim
theorem any_ok (hK : X.K = G.K) (hc : X.calm = true) : CallR X (.builtin "any") (rN G (blt .any)) := call1 fun pins s σ H v u Q ρ F S a I rx r hv h => by
  unfold bAny at h
  split at h
  · rename_i n ds e
    split at h
    · rename_i bs e2
      obtain ⟨_, _, a1, vs, rfl, _, h1, h2⟩ := lstOf_at r hv e
      exact cr_any hc pins s σ H _ _ Q I (vone rx) ⟨a1, bs, rfl, .inl (.inl (by rw [h1, optBl h2 e2])), h.same r rfl⟩
    · exact h.elim
  · exact h.elim
theorem sum_ok (hK : X.K = G.K) (hc : X.calm = true) : CallR X (.builtin "sum") (rN G (blt .sum)) := call1 fun pins s σ H v u Q ρ F S a I rx r hv h => by
  unfold bSum at h
  split at h
  · rename_i n ds e
    split at h
    · rename_i bs e2
      obtain ⟨_, _, a1, vs, rfl, _, h1, h2⟩ := lstOf_at r hv e
      exact cr_sum hc pins s σ H _ _ Q I (vone rx) ⟨a1, bs, rfl, .inl (.inl (by rw [h1, optInt h2 e2])), h.same r rfl⟩
    · exact h.elim
  · exact h.elim
theorem list_ok (hK : X.K = G.K) : CallR X (.type "list") (rN G (blt .list)) := call1 fun pins s σ H v u Q ρ F S a I rx r hv h => by
  unfold bList at h
  split at h
  · rename_i ds e
    obtain ⟨a1, vs, rfl, h1, h2⟩ := seqOf_at r hv e
    exact call_list_of pins s σ H _ _ Q I (vone rx) ⟨a1, vs, rfl, by rw [hK]; exact h2, (h.newL r h1).2⟩
  · exact h.elim
theorem tuple_ok (hK : X.K = G.K) : CallR X (.type "tuple") (rN G (blt .tuple)) := call1 fun pins s σ H v u Q ρ F S a I rx r hv h => by
  unfold bTuple at h
  split at h
  · rename_i n
    split at h
    · rename_i ds e
      have e' : (match S[n]? with
        | some (.lst ds) => some ds
        | some (.fl ds) => some ds
        | _ => none) = some ds := e
      have hn : S[n]? = some (.lst ds) ∨ S[n]? = some (.fl ds) := by
        split at e'
        · rename_i es q
          cases e'
          exact .inl q
        · rename_i es q
          cases e'
          exact .inr q
        · cases e'
      obtain ⟨a1, vs, rfl, h1, h2⟩ := seqRef_at r hv hn
      have hz : vs.length ≤ sizeLine := by
        obtain ⟨its, rv, _, z⟩ := I.list (by rw [hK]; exact h2)
        first | exact z | (rw [rv.length]; exact z)
      exact call_tuple_of pins s σ H _ _ Q I (vone rx) ⟨a1, vs, rfl, .inl ⟨by rw [hK]; exact h2, h.mkT_ r h1 hz⟩⟩
    · exact h.elim
  · rename_i ds
    obtain ⟨hp, hz, a1, vs, rfl, h1, h2⟩ := hv
    exact call_tuple_of pins s σ H _ _ Q I (vone rx) ⟨a1, vs, rfl, .inr ⟨by rw [hK]; exact h1, h.same r ⟨hp, hz, a1, vs, rfl, h1, h2⟩⟩⟩
  · rename_i ds
    obtain ⟨hz, a1, vs, rfl, h1, h2⟩ := hv
    exact call_tuple_of pins s σ H _ _ Q I (vone rx) ⟨a1, vs, rfl, .inr ⟨by rw [hK]; exact h1, h.same r ⟨hz, a1, vs, rfl, h1, h2⟩⟩⟩
  · exact h.elim
theorem abs_ok : CallR X (.builtin "abs") (rN G (blt .abs)) := call1 fun pins s σ H v u Q ρ F S a I rx r hv h => by
  unfold bAbs at h
  split at h
  · rw [show v = _ from hv] at rx
    exact call_abs pins s σ H _ _ Q I (vone rx) ⟨_, rfl, h.same r rfl⟩
  · exact h.elim
theorem int_ok : CallR X (.type "int") (rN G (blt .int)) := call1 fun pins s σ H v u Q ρ F S a I rx r hv h => by
  unfold bInt at h
  split at h
  · rw [show v = _ from hv] at rx
    exact call_int1 pins s σ H _ _ Q I (vone rx) (.inl ⟨_, rfl, h.same r rfl⟩)
  · exact h.elim
theorem max_ok (hc : X.calm = true) : CallR X (.builtin "max") (rN G (blt .max2)) := by
  intro pins s σ H xs us Q I rx h
  obtain ⟨ρ, F, S, ds, r, hd, h⟩ := h
  have h : okR G ρ F H Q (two bMax2 ds S) := h
  unfold two at h
  split at h
  · rename_i a b
    obtain ⟨v, w, rfl, h1, h2⟩ := hd.two
    unfold bMax2 at h
    split at h
    · rw [show v = _ from h1, show w = _ from h2] at rx
      exact call_max2 hc pins s σ H _ us Q I rx ⟨_, _, rfl, h.same r rfl⟩
    · exact h.elim
  · exact h.elim
def tyName : Ty → String
  | .int => "int" | .bool => "bool" | .str => "str" | .tuple => "tuple" | .list => "list"
def kdName : Kd → String
  | .non => "NoneType" | .bl => "bool" | .int => "int" | .str => "str" | .tup => "tuple" | .lst => "list" | .dk => "dict"
theorem kd_ok (K : PySem.W.Frag) (hK : K = G.K) (r : RS G ρ F H S) {a : D} {v : V} (hv : RV G ρ H a v) {k : Kd} (e : kindOf S a = some k) : TyX K H v (.type (kdName k)) := by
  have tupX : ∀ {b : Addr} {vs : List V}, SqT K H b vs → TyX K H (.ref b) (.type "tuple") := fun {b vs} h => by
    rcases h with (h | ⟨o, h⟩) | h
    · exact .base (.tup h)
    · exact .fTuple h
    · obtain ⟨o, its, n, hk, hc, _⟩ := h
      exact .kTuple hk hc
  have lstX : ∀ {b : Addr} {vs : List V}, SqL K H b vs → TyX K H (.ref b) (.type "list") := fun {b vs} h => by
    rcases h with (h | ⟨o, h⟩) | h
    · exact .base (.lst h)
    · exact .base (.frz h)
    · obtain ⟨o, its, n, hk, hc, _⟩ := h
      exact .kList hk hc
  subst hK
  cases a with
  | non =>
    rw [show v = _ from hv]
    cases e
    exact .base .non
  | bl b =>
    rw [show v = _ from hv]
    cases e
    exact .base (.bl b)
  | int i =>
    rw [show v = _ from hv]
    cases e
    exact .base (.int i)
  | str z =>
    rw [show v = _ from hv]
    cases e
    exact .base (.str z)
  | tup ds =>
    obtain ⟨_, _, b, vs, rfl, h1, _⟩ := hv
    cases e
    exact tupX h1
  | mix ds =>
    obtain ⟨_, b, vs, rfl, h1, _⟩ := hv
    cases e
    exact tupX h1
  | glo c => cases e
  | ref n =>
    have e2 : (match S[n]? with
      | some (.lst _) => some Kd.lst
      | some (.fl _) => some Kd.lst
      | some (.dk _) => some Kd.dk
      | none => none) = some k := e
    split at e2
    · rename_i ds hn
      cases e2
      obtain ⟨b, vs, rfl, _, h2⟩ := seqRef_at r hv (.inl hn)
      exact lstX h2
    · rename_i ds hn
      cases e2
      obtain ⟨b, vs, rfl, _, h2⟩ := seqRef_at r hv (.inr hn)
      exact lstX h2
    · rename_i kvs hn
      cases e2
      obtain ⟨b, ws, rfl, _, h1, _⟩ := dk_at r hv hn
      exact .base (.dK h1)
    · cases e2
theorem isTy_ok (K : PySem.W.Frag) (hK : K = G.K) (r : RS G ρ F H S) {a : D} {v : V} (hv : RV G ρ H a v) {t : Ty} {k : Bool} (e : isTy t S a = some k) : ∃ u, TyX K H v u ∧ PySem.W.kitOne K u (.type (tyName t)) = some k := by
  unfold isTy at e
  split at e
  · rename_i q e1
    refine ⟨_, kd_ok K hK r hv e1, ?_⟩
    cases t <;> cases q <;> cases e <;> exact kit_ty (by decide +kernel)
  · cases e
theorem isi_ok (hK : X.K = G.K) (t : Ty) {x : V} (h : ∃ ρ F S a, RS G ρ F H S ∧ RV G ρ H a x ∧ okR G ρ F H Q (bIs t a S)) : rIsi X.K [x, .ty (tyName t)] H Q := by
  obtain ⟨ρ, F, S, a, r, hv, h⟩ := h
  unfold bIs at h
  split at h
  · rename_i k e
    obtain ⟨u, h1, h2⟩ := isTy_ok X.K hK r hv e
    exact ⟨x, _, u, _, k, rfl, .ty _, h1, h2, h.same r rfl⟩
  · exact h.elim
/-! ### sorted texts are one list -/
theorem mapR_strs : ∀ xs : List Str, RVs G ρ H (xs.map D.str) (xs.map V.str)
  | [] => rfl
  | x :: xs => ⟨_, _, rfl, rfl, mapR_strs xs⟩
theorem sorted_ok (hK : X.K = G.K) (hc : X.calm = true) : CallR X (.builtin "sorted") (rN G (blt .sorted)) := call1 fun pins s σ H v u Q ρ F S a I rx r hv h => by
  unfold bSorted at h
  split at h
  · rename_i n
    split at h
    · rename_i kvs hn
      split at h
      · rename_i xs e
        split at h
        · rename_i e64
          obtain ⟨b, ws, rfl, _, h1, h2⟩ := dk_at r hv hn
          have keys : ∀ {kvs : List (D × D)} {ws : List (Key × V)} {xs : List Str}, RK G ρ H kvs ws → optAll strOf (kvs.map (·.1)) = some xs → ws.map (·.1) = xs.map Sum.inr := by
            intro kvs ws xs h e
            induction h generalizing xs with
            | nil =>
              cases e
              rfl
            | @cons p q l1 l2 x t ih =>
              rw [List.map_cons] at e
              unfold optAll at e
              split at e
              · cases e
              · rename_i z hz
                split at e
                · cases e
                · rename_i zs hzs
                  cases e
                  rw [List.map_cons, List.map_cons, ih hzs]
                  obtain ⟨k, d⟩ := p
                  have x1 : keyR k q.1 := x.1
                  have hz : strOf k = some z := hz
                  cases k <;> first | (cases hz; done) | skip
                  cases hz
                  rw [show q.1 = _ from x1]
          refine call_sortedD hc pins s σ H _ _ Q I (vone rx) ⟨b, ws, xs, rfl, .inl h1, keys h2 e, Nat.le_of_ble_eq_true e64, fun ys p hp hs hn => ?_⟩
          rw [perm_sorted_strs hp hs]
          exact (h.newL r (mapR_strs _)).2 p hn
        · exact h.elim
      · exact h.elim
    · exact h.elim
  · exact h.elim
theorem putAll_ok : ∀ {ps : List (D × D)} {qs : List (Key × V)} {kvs : List (D × D)} {ws : List (Key × V)}, RK G ρ H ps qs → RK G ρ H kvs ws → RK G ρ H (putAll kvs ps) (mergeK ws qs)
  | _, _, _, _, .nil, h => h
  | (k, d) :: ps, (key, v) :: qs, kvs, ws, .cons x t, h => by
    show RK G ρ H (putAll (dkPut kvs k d) ps) (mergeK (putK ws key v) qs)
    exact putAll_ok t (dkPut_ok h x.1 x.2)
theorem pairs_ok : ∀ {ds : List D} {vs : List V} {kvs : List (D × D)}, RVs G ρ H ds vs → pairs S ds = some kvs → ∃ (ps : List Addr) (qs : List (Key × V)), vs = ps.map V.ref ∧ Paired (fun p kv => SqT G.K H p [kV kv.1, kv.2]) ps qs ∧ RK G ρ H kvs qs
  | [], vs, kvs, h, e => by
    cases e
    exact ⟨[], [], h, .nil, .nil⟩
  | d :: ds, vs, kvs, h, e => by
    obtain ⟨w, ws, rfl, h1, h2⟩ := h
    unfold pairs at e
    split at e
    · rename_i k v e1
      split at e
      · rename_i e2
        obtain ⟨r, e3, rfl⟩ := Option.map_eq_some_iff.mp e
        obtain ⟨ps, qs, rfl, h3, h4⟩ := pairs_ok h2 e3
        obtain ⟨_, a, us, rfl, h5, h6⟩ := h1.tupOf e1
        obtain ⟨u1, u2, rfl, h7, h8⟩ := h6.two
        obtain ⟨key, h9, rfl⟩ := keyR_of h7 e2
        exact ⟨a :: ps, (key, u2) :: qs, rfl, .cons h5 h3, .cons ⟨h9, h8⟩ h4⟩
      · cases e
    · cases e
theorem RK.belows {kvs : List (D × D)} {ws : List (Key × V)} (h : RK G ρ H kvs ws) : belows ρ.length (kvs.map (·.2)) = true := RVs.below _ _ h.vals
theorem dict_ok (hK : X.K = G.K) (hc : X.calm = true) : CallR X (.type "dict") (rN G (blt .dict)) := call1 fun pins s σ H v u Q ρ F S a I rx r hv h => by
  unfold bDict at h
  split at h
  · rename_i n ds e
    split at h
    · rename_i kvs e2
      obtain ⟨_, _, a1, vs, rfl, _, h1, h2⟩ := lstOf_at r hv e
      obtain ⟨ps, qs, rfl, h3, h4⟩ := pairs_ok h2 e2
      refine call_dictP hc pins s σ H _ _ Q I (vone rx) ⟨a1, ps, qs, rfl, .inl (.inl h1), by rw [hK]; exact h3, fun p hp => ?_⟩
      have hk : RK G ρ H (putAll [] kvs) (mergeK [] qs) := putAll_ok h4 .nil
      obtain ⟨r', ex, hr⟩ := r.push (o := .dK (mergeK [] qs)) (ob := .dk (putAll [] kvs)) hp (by rw [← r.len]; exact hk.belows) (fun _ z => nomatch z) ⟨_, upd_same, hk.mono (ext_new hp)⟩
      exact h _ _ _ ex r' hr
    · exact h.elim
  · exact h.elim

/-! ### methods -/
def rM (G : Gx) (m : Mth) : V → List V → Hp → VK → Prop := fun x xs H Q => ∃ ρ F S o ds, RS G ρ F H S ∧ RV G ρ H o x ∧ RVs G ρ H ds xs ∧ okR G ρ F H Q (mth m o ds S)
theorem append_ok : MtR X "list.append" (rM G .append) := by
  intro pins s σ H x xs v us Q I rx rxs h
  obtain ⟨ρ, F, S, o, ds, r, ho, hd, h⟩ := h
  replace h : okR G ρ F H Q (one (mAppend o) ds S) := h
  unfold one at h
  split at h
  · rename_i a
    unfold mAppend at h
    split at h
    · rename_i n es e
      split at h
      · rename_i e2
        obtain ⟨e3, e4⟩ := Bool.and_eq_true_iff.mp e2
        obtain ⟨hn, hf, b, vs, rfl, hb, h1, h2⟩ := lstOf_at r ho e
        obtain ⟨w, rfl, hw⟩ := hd.one
        refine mt_append pins s σ H _ _ v us Q I rx rxs ⟨b, vs, w, rfl, rfl, h1, by rw [← h2.length]; exact Nat.le_of_ble_eq_true e4, ?_⟩
        have hr := r.bel _ _ hn
        have ex : Ext ρ H ρ (upd H b (.lst (vs ++ [w]))) := ext_upd r hn hb hf
        refine h.write (v := .non) (d := .non) (o' := .lst (es ++ [a])) r hn hb hf (fun _ z => nomatch z) ?_ ⟨_, upd_same, RVs.mono ex _ _ (h2.append ⟨w, [], rfl, hw, rfl⟩)⟩ rfl
        show belows n (es ++ [a]) = true
        rw [belows_append, Bool.and_eq_true_iff]
        exact ⟨hr, by show (below n a && true) = true; rw [e3]; rfl⟩
      · exact h.elim
    · exact h.elim
  · exact h.elim
theorem extend_ok : MtR X "list.extend" (rM G .extend) := by
  intro pins s σ H x xs v us Q I rx rxs h
  obtain ⟨ρ, F, S, o, ds, r, ho, hd, h⟩ := h
  replace h : okR G ρ F H Q (one (mExtend o) ds S) := h
  unfold one at h
  split at h
  · rename_i a
    unfold mExtend at h
    split at h
    · rename_i n es e
      split at h
      · rename_i k fs e5
        split at h
        · rename_i e2
          obtain ⟨e3, e4⟩ := Bool.and_eq_true_iff.mp e2
          obtain ⟨hn, hf, b, vs, rfl, hb, h1, h2⟩ := lstOf_at r ho e
          obtain ⟨w, rfl, hw⟩ := hd.one
          obtain ⟨_, _, c, ws, rfl, hc, h3, h4⟩ := lstOf_at r hw e5
          refine mt_extend pins s σ H _ _ v us Q I rx rxs ⟨b, c, vs, ws, rfl, rfl, h1, h3, by rw [← h2.length, ← h4.length]; exact Nat.le_of_ble_eq_true e4, ?_⟩
          have hr := r.bel _ _ hn
          have ex : Ext ρ H ρ (upd H b (.lst (vs ++ ws))) := ext_upd r hn hb hf
          refine h.write (v := .non) (d := .non) (o' := .lst (es ++ fs)) r hn hb hf (fun _ z => nomatch z) ?_ ⟨_, upd_same, RVs.mono ex _ _ (h2.append h4)⟩ rfl
          show belows n (es ++ fs) = true
          rw [belows_append, Bool.and_eq_true_iff]
          exact ⟨hr, e3⟩
        · exact h.elim
      · exact h.elim
    · exact h.elim
  · exact h.elim
theorem pop_ok : MtR X "list.pop" (rM G .pop) := by
  intro pins s σ H x xs v us Q I rx rxs h
  obtain ⟨ρ, F, S, o, ds, r, ho, hd, h⟩ := h
  replace h : okR G ρ F H Q (zero (mPop o) ds S) := h
  unfold zero at h
  split at h
  · unfold mPop at h
    split at h
    · rename_i n es e
      split at h
      · rename_i a e2
        obtain ⟨hn, hf, b, vs, rfl, hb, h1, h2⟩ := lstOf_at r ho e
        obtain ⟨w, h3, h4⟩ := h2.get e2
        rw [show xs = [] from hd] at rxs
        refine mt_pop pins s σ H _ _ v us Q I rx rxs ⟨b, vs, w, rfl, rfl, h1, by rw [← h2.length]; exact h3, ?_⟩
        have hr : belows n es = true := r.bel _ _ hn
        have ex : Ext ρ H ρ (upd H b (.lst vs.dropLast)) := ext_upd r hn hb hf
        refine h.write (v := w) (o' := .lst es.dropLast) r hn hb hf (fun _ z => nomatch z) ?_ ⟨_, upd_same, RVs.mono ex _ _ h2.dropLast⟩ h4
        exact belows_of fun d hd => belows_sub hr d (by rw [List.dropLast_eq_take] at hd; exact List.mem_of_mem_take hd)
      · exact h.elim
    · exact h.elim
  · exact h.elim
theorem get1_ok (hu : X.A.units + 65 < cLine) : MtR X "dict.get" (rM G .get1) := by
  intro pins s σ H x xs v us Q I rx rxs h
  obtain ⟨ρ, F, S, o, ds, r, ho, hd, h⟩ := h
  replace h : okR G ρ F H Q (one (mGet1 o) ds S) := h
  unfold one at h
  split at h
  · rename_i a
    unfold mGet1 at h
    split at h
    · rename_i n
      split at h
      · rename_i kvs hn
        split at h
        · rename_i e
          obtain ⟨b, ws, rfl, _, h1, h2⟩ := dk_at r ho hn
          obtain ⟨w, rfl, hw⟩ := hd.one
          obtain ⟨key, h3, rfl⟩ := keyR_of hw e
          obtain ⟨u, rfl, ru⟩ := vals1 rxs
          cases rx
          have q := dkGet_ok h3 h2
          refine d_get1 (by omega) I (DGet.k (k := key) h1) ru fun w' s' I' rw' => ⟨_, H, I', rw', h.same r ?_⟩
          cases e1 : dkGet kvs a <;> cases e2 : valV ws key <;> rw [e1, e2] at q
          · rfl
          · exact q.elim
          · exact q.elim
          · exact q
        · exact h.elim
      · exact h.elim
    · exact h.elim
  · exact h.elim
/-! ### stores -/
def rSet (G : Gx) : V → V → V → Hp → (Hp → Prop) → Prop := fun o i v H Q => ∃ ρ F S a b c, RS G ρ F H S ∧ RV G ρ H a o ∧ RV G ρ H b i ∧ RV G ρ H c v ∧ (match setI a b c S with
  | .ok _ S' => ∀ ρ' H', Ext ρ H ρ' H' → RS G ρ' F H' S' → Q H'
  | _ => False)
theorem map_dk {kvs : List (D × D)} {n : Nat} {k v : D} (h : belows n (kvs.map (·.2)) = true) (hv : below n v = true) : belows n ((dkPut kvs k v).map (·.2)) = true := by
  refine belows_of fun d hd => ?_
  unfold dkPut at hd
  split at hd
  · obtain ⟨p, hp, rfl⟩ := List.mem_map.mp hd
    obtain ⟨q, hq, rfl⟩ := List.mem_map.mp hp
    split
    · exact hv
    · exact belows_sub h _ (List.mem_map.mpr ⟨q, hq, rfl⟩)
  · obtain ⟨p, hp, rfl⟩ := List.mem_map.mp hd
    rcases List.mem_append.mp hp with hp | hp
    · exact belows_sub h _ (List.mem_map.mpr ⟨p, hp, rfl⟩)
    · rw [List.mem_singleton.mp hp]
      exact hv
theorem set_ok (hu : X.A.units + 65 < cLine) : PSet X (rSet G) := by
  intro pins s σ H o i v ov iv u Q I ro ri rv h
  obtain ⟨ρ, F, S, a, b, c, r, ha, hb, hc, h⟩ := h
  unfold setI at h
  split at h
  · rename_i hh
    split at hh
    · rename_i n
      split at hh
      · rename_i ds hn
        split at hh
        · rename_i k
          split at hh
          · rename_i j e1
            split at hh
            · rename_i e2
              cases hh
              obtain ⟨a1, ha1, rfl⟩ := ha
              obtain ⟨vs, h1, h2⟩ := r.obj _ _ _ hn ha1
              rw [show i = _ from hb] at ri
              have hf : isFl S n = false := by unfold isFl; rw [hn]
              have ex : Ext ρ H ρ (upd H a1 (.lst (vs.set j v))) := ext_upd r hn ha1 hf
              refine set_list pins s σ H _ _ _ ov iv u Q I ro ri rv ⟨a1, vs, k, j, rfl, rfl, h1, by rw [← h2.length]; exact e1, ?_⟩
              obtain ⟨r', _⟩ := r.write (o' := .lst (ds.set j c)) (u := .lst (vs.set j v)) hn ha1 hf (fun _ z => nomatch z) (by
                have hr : belows n ds = true := r.bel _ _ hn
                refine belows_of fun d hd => ?_
                rcases List.mem_or_eq_of_mem_set hd with hd | rfl
                · exact belows_sub hr d hd
                · exact e2) ⟨_, upd_same, RVs.mono ex _ _ (h2.set j hc)⟩
              exact h ρ _ ex r'
            · cases hh
          · cases hh
        · cases hh
      · rename_i kvs hn
        split at hh
        · rename_i e
          cases hh
          obtain ⟨e1, e3⟩ := Bool.and_eq_true_iff.mp e
          obtain ⟨e1, e2⟩ := Bool.and_eq_true_iff.mp e1
          obtain ⟨a1, ha1, rfl⟩ := ha
          obtain ⟨ws, h1, h2⟩ := r.obj _ _ _ hn ha1
          obtain ⟨key, h3, rfl⟩ := keyR_of hb e1
          have hf : isFl S n = false := by unfold isFl; rw [hn]
          have ex : Ext ρ H ρ (upd H a1 (.dK (putK ws key v))) := ext_upd r hn ha1 hf
          cases ro
          refine d_setItem (by omega) I (DPut.k (k := key) (v := v) h1 (by rw [← h2.length]; exact Nat.le_of_ble_eq_true e3)) ri rv fun s' I' => ⟨_, I', ?_⟩
          obtain ⟨r', _⟩ := r.write (o' := .dk (dkPut kvs b c)) (u := .dK (putK ws key v)) hn ha1 hf (fun _ z => nomatch z) (map_dk (r.bel _ _ hn) e2) ⟨_, upd_same, (dkPut_ok h2 h3 hc).mono ex⟩
          exact h ρ _ ex r'
        · cases hh
      · cases hh
    · cases hh
  · exact h.elim
end
end DE
/-! DE5: expressions: from the text to Ex, and the reading of what comes. -/
namespace DE
open PySem PySem.Spec PyProof.Rows L2

/-! ### from the text -/
structure Tc where
  N : List Str
  gt : Str → Option D
  fns : Str → Option Nat
  free : Str → Bool
  exc : Str → Option Nat
def visB (sc : Scope) (x : Str) : Bool := match sc.names.lookup x with
  | some .local => true
  | some .cell => true
  | some .free => true
  | _ => false
def gloB (sc : Scope) (x : Str) : Bool := match sc.names.lookup x with
  | some .globalImplicit => !(x == ("__debug__" : Str))
  | _ => false
def slotOf (N : List Str) (x : Str) : Option Nat := match N with
  | [] => none
  | y :: r => match decide (y = x) with
    | true => some 0
    | false => (slotOf r x).map (· + 1)
def bopIn : Operator → Option Bop
  | .Add => some .add | .Sub => some .sub | .Mult => some .mul | .FloorDiv => some .fdiv | .Mod => some .mod | .Pow => some .pow
  | _ => none
def copIn : CmpOp → Cop
  | .Eq => .eq | .NotEq => .ne | .Lt => .lt | .LtE => .le | .Gt => .gt | .GtE => .ge | .Is => .is | .IsNot => .isn | .In => .isin | .NotIn => .notin
def bltTab : List (Str × Nat × Blt × Value) := [("len", 1, .len, .builtin "len"), ("all", 1, .all, .builtin "all"), ("any", 1, .any, .builtin "any"), ("list", 1, .list, .type "list"), ("tuple", 1, .tuple, .type "tuple"),
  ("abs", 1, .abs, .builtin "abs"), ("int", 1, .int, .type "int"), ("max", 2, .max2, .builtin "max"), ("sum", 1, .sum, .builtin "sum"), ("sorted", 1, .sorted, .builtin "sorted"), ("dict", 1, .dict, .type "dict")]
def bltFind (x : Str) (n : Nat) : List (Str × Nat × Blt × Value) → Option Blt
  | [] => none
  | (y, m, b, _) :: r => match decide (y = x) && Nat.beq m n with
    | true => some b
    | false => bltFind x n r
def tyTab : List (Str × Ty × Blt) := [("int", .int, .isI), ("bool", .bool, .isB), ("str", .str, .isS), ("tuple", .tuple, .isT), ("list", .list, .isL)]
def tyFind (x : Str) : List (Str × Ty × Blt) → Option Blt
  | [] => none
  | (y, _, b) :: r => match decide (y = x) with
    | true => some b
    | false => tyFind x r
def mthTab : List (Str × Nat × Mth) := [("append", 1, .append), ("extend", 1, .extend), ("pop", 0, .pop), ("get", 1, .get1)]
def mthFind (x : Str) (n : Nat) : List (Str × Nat × Mth) → Option Mth
  | [] => none
  | (y, m, b) :: r => match decide (y = x) && Nat.beq m n with
    | true => some b
    | false => mthFind x n r
/-- an expression that a method may be called of: no call without arguments -/
def okBase : Expr → Bool
  | .Name _ _ => true
  | .Subscript _ _ _ => true
  | .Call _ (_ :: _) _ _ => true
  | _ => false
/-- the names of a comprehension's block that are its own and have places -/
def ownOf (N : List Str) : List (Str × NameKind) → List (Str × Nat)
  | [] => []
  | (x, k) :: r => match k with
    | .local => (match slotOf N x with
      | some i => (x, i) :: ownOf N r
      | none => ownOf N r)
    | .cell => (match slotOf N x with
      | some i => (x, i) :: ownOf N r
      | none => ownOf N r)
    | _ => ownOf N r
def ownB (scope : Scope) (x : Str) : Bool := match scope.names.lookup x with
  | some .local => true
  | some .cell => true
  | _ => false
def slots (N : List Str) (st : Str → Bool) : List Expr → Option (List Nat)
  | [] => some []
  | .Name x _ :: r => (match st x with
    | true => (match slotOf N x with
      | some i => (slots N st r).map (i :: ·)
      | none => none)
    | false => none)
  | _ :: _ => none
def trT (N : List Str) (st : Str → Bool) : Expr → Option Tg
  | .Name x _ => (match st x with
    | true => (slotOf N x).map .v
    | false => none)
  | .Tuple es _ _ => (slots N st es).map .t
  | _ => none
def cstOf : Const → Option D
  | .none => some .non
  | .bool b => some (.bl b)
  | .int i => some (.int i)
  | .str x => some (.str x)
  | _ => none
/-- len(set(a)): a -/
def setArg (c : Tc) (sc : Scope) (x : Str) : List Expr → Option Expr
  | [.Call (.Name y _) [a] [] _] => (match decide (x = ("len" : Str)) && decide (y = ("set" : Str)) && gloB sc y && c.free y with
    | true => some a
    | false => none)
  | _ => none
mutual
def trE (c : Tc) : Nat → Scope → Expr → Option Ex
  | 0, _, _ => none
  | n + 1, sc, e => match e with
    | .Name x _ => (match visB sc x && !(x == ("__debug__" : Str)) && !(x == ("__classdict__" : Str)) with
      | true => (slotOf c.N x).map .loc
      | false => (match gloB sc x with
        | true => (c.gt x).map .cst
        | false => none))
    | .Constant k _ _ => (cstOf k).map .cst
    | .BinOp a op b _ => (match bopIn op, trE c n sc a, trE c n sc b with
      | some o, some x, some y => some (.bin o x y)
      | _, _, _ => none)
    | .UnaryOp op a _ => (match op, trE c n sc a with
      | .Not, some x => some (.not x)
      | .USub, some x => some (.neg x)
      | _, _ => none)
    | .BoolOp op es p => (match es with
      | [a] => trE c n sc a
      | a :: b :: r => (match trE c n sc a, trE c n sc (.BoolOp op (b :: r) p) with
        | some x, some y => some (match op with
          | .And => .and x y
          | .Or => .or x y)
        | _, _ => none)
      | [] => none)
    | .Compare a ops cs _ => (match ops, cs with
      | [o], [b] => (match behindInMarks o b, trE c n sc a, trE c n sc b with
        | false, some x, some y => some (.cmp (copIn o) x y)
        | _, _, _ => none)
      | [o, p], [b, d] => (match behindInMarks p d, trE c n sc a, trE c n sc b, trE c n sc d with
        | false, some x, some y, some z => some (.chn (copIn o) (copIn p) x y z)
        | _, _, _, _ => none)
      | _, _ => none)
    | .IfExp t a b _ => (match trC c n sc t, trE c n sc a, trE c n sc b with
      | some x, some y, some z => some (.ite x y z)
      | _, _, _ => none)
    | .Tuple es _ _ => (trEs c n sc es).map .tup
    | .List es _ => (trEs c n sc es).map .lst
    | .Dict [] [] _ => some .dic0
    | .Call f es kws p => (match f, kws with
      | .Name x _, [] => (match gloB sc x with
        | true => (match c.fns x with
          | some g => (trEs c n sc es).map (.call g)
          | none => (match c.free x with
            | true => (match decide (x = ("isinstance" : Str)), es with
              | true, [a, .Name t _] => (match gloB sc t && c.free t, tyFind t tyTab, trE c n sc a with
                | true, some b, some y => some (.blt b (.cons y .nil))
                | _, _, _ => none)
              | true, _ => none
              | false, _ => (match setArg c sc x es with
                | some a => (trE c n sc a).map fun y => .blt .lenset (.cons y .nil)
                | none => (match bltFind x es.length bltTab, trEs c n sc es with
                  | some b, some xs => some (.blt b xs)
                  | _, _ => none)))
            | false => none))
        | false => none)
      | .Attribute o m apos, [] => (match okBase o && (apos.endLine == p.line), mthFind m es.length mthTab, trE c n sc o, trEs c n sc es with
        | true, some b, some x, some xs => some (.mth b x xs)
        | _, _, _, _ => none)
      | _, _ => none)
    | .Subscript a i _ => (match i with
      | .Slice lo hi st _ => (match st with
        | none => (match trE c n sc a, trO c n sc lo, trO c n sc hi with
          | some x, some y, some z => some (.slc x y z)
          | _, _, _ => none)
        | some (.UnaryOp .USub (.Constant (.int 1) _ _) _) => (match lo, hi, trE c n sc a with
          | none, none, some x => some (.rev x)
          | _, _, _ => none)
        | _ => none)
      | i => (match trE c n sc a, trE c n sc i with
        | some x, some y => some (.idx x y)
        | _, _ => none))
    | .ListComp e gs scope _ => (match gs with
      | [⟨tg, it, ifs, 0⟩] => (match blkC c.N sc scope (ownOf c.N scope.names), trT c.N (ownB scope) tg, trI c n sc tg it, trCs c n (relS scope sc) ifs, trE c n (relS scope sc) e with
        | true, some g, some i, some cs, some x => some (.lc ((ownOf c.N scope.names).map (·.2)) g i cs x)
        | _, _, _, _, _ => none)
      | _ => none)
    | _ => none
def trEs (c : Tc) : Nat → Scope → List Expr → Option Exs
  | 0, _, _ => none
  | n + 1, sc, es => match es with
    | [] => some .nil
    | e :: r => (match trE c n sc e, trEs c n sc r with
      | some x, some xs => some (.cons x xs)
      | _, _ => none)
/-- an expression as a test -/
def trC (c : Tc) : Nat → Scope → Expr → Option Ex
  | 0, _, _ => none
  | n + 1, sc, e => match e with
    | .UnaryOp .Not a _ => (trC c n sc a).map .not
    | .BoolOp op es p => (match es with
      | [a] => trC c n sc a
      | a :: b :: r => (match trC c n sc a, trC c n sc (.BoolOp op (b :: r) p) with
        | some x, some y => some (match op with
          | .And => .and x y
          | .Or => .or x y)
        | _, _ => none)
      | [] => none)
    | .Compare a ops cs _ => (match ops, cs with
      | [o], [b] => (match behindInMarks o b, trE c n sc a, trE c n sc b with
        | false, some x, some y => some (.cmp (copIn o) x y)
        | _, _, _ => none)
      | [o, p], [b, d] => (match behindInMarks p d, trE c n sc a, trE c n sc b, trE c n sc d with
        | false, some x, some y, some z => some (.chn (copIn o) (copIn p) x y z)
        | _, _, _, _ => none)
      | _, _ => none)
    | .Name x p => trE c n sc (.Name x p)
    | .Call f es kws p => trE c n sc (.Call f es kws p)
    | .Subscript a i p => trE c n sc (.Subscript a i p)
    | _ => none
/-- a comprehension's tests: one at most -/
def trCs (c : Tc) : Nat → Scope → List Expr → Option Exs
  | 0, _, _ => none
  | n + 1, sc, es => match es with
    | [] => some .nil
    | [e] => (trC c n sc e).map fun x => .cons x .nil
    | _ => none
/-- a bound of a slice -/
def trO (c : Tc) : Nat → Scope → Option Expr → Option Ex
  | 0, _, _ => none
  | n + 1, sc, e => match e with
    | none => some (.cst .non)
    | some e => (trE c n sc e).map .ci
def trI (c : Tc) : Nat → Scope → Expr → Expr → Option Itx
  | 0, _, _, _ => none
  | n + 1, sc, tg, e => match e with
    | .Call f es kws p => (match f, kws with
      | .Name x _, [] => (match gloB sc x && c.free x, decide (x = ("range" : Str)), decide (x = ("enumerate" : Str)), decide (x = ("zip" : Str)), es with
        | true, true, _, _, [a] => (trE c n sc a).map .rng
        | true, _, true, _, [a] => (match tg with
          | .Tuple _ _ _ => (trE c n sc a).map .enu
          | _ => none)
        | true, _, _, true, [a, b] => (match tg, trE c n sc a, trE c n sc b with
          | .Tuple _ _ _, some y, some z => some (.zip y z)
          | _, _, _ => none)
        | _, _, _, _, _ => (trE c n sc (.Call f es kws p)).map .seq)
      | _, _ => (trE c n sc (.Call f es kws p)).map .seq)
    | e => (trE c n sc e).map .seq
end
end DE
/-! DEH: len(set(t)), t a tuple of texts. -/
namespace DE
open PySem PySem.Spec PyProof.Rows L2
/-- how many there are of the first i -/
def dcnt (xs : List Str) (i : Nat) : Nat := (dedup (xs.take i)).length
theorem dd_foldl (xs : List Str) (x : Str) : dedup (xs ++ [x]) = if (dedup xs).contains x then dedup xs else dedup xs ++ [x] := by
  unfold dedup
  rw [List.foldl_append]
  rfl
theorem dd_acc (k : Str) : ∀ (xs acc : List Str), (xs.foldl (fun acc x => if acc.contains x then acc else acc ++ [x]) acc).any (· == k) = (acc.any (· == k) || xs.any (· == k))
  | [], acc => by simp
  | x :: xs, acc => by
    rw [List.foldl_cons, dd_acc k xs, List.any_cons]
    split
    · rename_i h
      cases e : x == k with
      | false => simp
      | true =>
        have e : x = k := by simpa using e
        subst e
        have : acc.any (· == x) = true := by
          obtain ⟨y, hy, q⟩ := List.any_eq_true.mp (by rw [List.contains_eq_any_beq] at h; exact h)
          refine List.any_eq_true.mpr ⟨y, hy, ?_⟩
          have : x = y := by simpa using q
          rw [this]
          simp
        rw [this]
        simp
    · rw [List.any_append]
      simp [Bool.or_assoc]
theorem dd_any (xs : List Str) (k : Str) : (dedup xs).any (· == k) = xs.any (· == k) := by
  unfold dedup
  rw [dd_acc]
  simp
theorem dcnt_succ {xs : List Str} {i : Nat} {x : Str} (h : xs[i]? = some x) : dcnt xs (i + 1) = if (xs.take i).any (· == x) then dcnt xs i else dcnt xs i + 1 := by
  unfold dcnt
  rw [List.take_add_one, h, Option.toList_some, dd_foldl]
  have e : (dedup (xs.take i)).contains x = (xs.take i).any (· == x) := by
    rw [← dd_any, List.contains_eq_any_beq, Bool.eq_iff_iff]
    constructor
    · intro z
      obtain ⟨y, hy, q⟩ := List.any_eq_true.mp z
      exact List.any_eq_true.mpr ⟨y, hy, by have : x = y := by simpa using q
                                            rw [this]; simp⟩
    · intro z
      obtain ⟨y, hy, q⟩ := List.any_eq_true.mp z
      exact List.any_eq_true.mpr ⟨y, hy, by have : y = x := by simpa using q
                                            rw [this]; simp⟩
  rw [e]
  split
  · rfl
  · rw [List.length_append]
    rfl
theorem dcnt_le (xs : List Str) : ∀ i, dcnt xs i ≤ i
  | 0 => Nat.le_refl _
  | i + 1 => by
    have ih := dcnt_le xs i
    cases h : xs[i]? with
    | some x =>
      rw [dcnt_succ h]
      split <;> omega
    | none =>
      unfold dcnt at ih ⊢
      rw [List.take_add_one, h, Option.toList_none, List.append_nil]
      omega
section
variable {prog : Program} {w : World} {A : Around} {R : Result → Shared → Prop} {I : Addr} {fp wr : List Addr} {g : Array GenState → Array GenState → Prop} {n : Nat} {P : Nat → Value → Prop} {St : Nat → Shared → Prop}
abbrev inFirst (xs : List Str) (i : Nat) : Str → Bool := fun y => (xs.take i).any (· == y)
theorem upd_loop (wk : WalksS prog w A.in1 I fp wr g n P St) (T : Addr) (nT : T ∉ fp) (xs : List Str) (len : xs.length = n) (small : n < 4000) (vals : ∀ j v, P j v → ∃ t, v = .str (xs.getD j Str.empty) t) :
    ∀ (left j : Nat) (z : Shared), n - j = left → j ≤ n → St j z → z.heap.SetOf (PySem.strKind prog w) T (inFirst xs j) (dcnt xs j) →
      (∀ z2, Moved (T :: wr) g z z2 → z2.heap.SetOf (PySem.strKind prog w) T (inFirst xs n) (dcnt xs n) → R (.ok (.ret .none)) z2) → codeAny (model prog w) A (.builtin "set.update.loop" ⟨[.ref T, .ref I], []⟩) R z := by
  have nW : T ∉ wr := fun q => nT (wk.sub _ q)
  have incl : ∀ b ∈ wr, b ∈ T :: wr := fun b hb => List.mem_cons_of_mem T hb
  intro left
  induction left with
  | zero =>
    intro j z e1 e2 e3 e4 goal
    cases (show j = n by omega)
    refine codeAny_builtin F.entry_set_update_loop ?_
    rw [Around.under_plainId F.plain_set_update_loop _]
    refine wpAny_bind (wk.done z _ _ e3 fun z2 mv => wpAny_pure (goal z2 (mv.mono incl) ?_))
    obtain ⟨ob, es, ep, tb, there, more⟩ := e4
    exact ⟨ob, es, ep, tb, mv.heap T _ nW there, more⟩
  | succ left again =>
    intro j z e1 e2 e3 e4 goal
    have lt : j < n := by omega
    refine codeAny_builtin F.entry_set_update_loop ?_
    rw [Around.under_plainId F.plain_set_update_loop _]
    refine wpAny_bind (wk.item j z _ _ lt e3 fun v z1 pv st1 mv => ?_)
    obtain ⟨tk, rfl⟩ := vals j v pv
    have set1 : z1.heap.SetOf (PySem.strKind prog w) T (inFirst xs j) (dcnt xs j) := by
      obtain ⟨ob, es, ep, tb, there, more⟩ := e4
      exact ⟨ob, es, ep, tb, mv.heap T _ nW there, more⟩
    have hx : xs[j]? = some (xs.getD j Str.empty) := by
      rw [List.getD_eq_getElem?_getD, List.getElem?_eq_getElem (by omega)]
      rfl
    generalize xs.getD j Str.empty = x at hx
    show wpAny _ A.in1 (holding [Value.str x tk] (setAdd T (.str x tk)) >>= _) _ _ z1
    refine wpAny_bind (wpAny_holding ?_)
    unfold setAdd
    refine wpAny_holding (wpAny_bind ((PySem.strKind prog w).pyHash (k := x) (strKind_is _ _ _ _) ?_))
    have room : dcnt xs j + 1 < scanBound := by
      have := dcnt_le xs j
      unfold scanBound
      omega
    refine wpAny_setAddHashed_of (knd := PySem.strKind prog w) (s := { z1 with toks := z1.toks + 1 }) (strKind_is _ _ _ _) rfl set1 room fun h2 but set2 => ?_
    have set3 : h2.SetOf (PySem.strKind prog w) T (inFirst xs (j + 1)) (dcnt xs (j + 1)) := by
      refine SetOf_congr set2 (fun y => ?_) ?_
      · show ((xs.take j).any (· == y) || decide (y = x)) = (xs.take (j + 1)).any (· == y)
        rw [List.take_add_one, hx, Option.toList_some, List.any_append]
        congr 1
        by_cases e : y = x
        · subst e
          simp
        · have : (x == y) = false := by
            cases q : x == y with
            | false => rfl
            | true => exact absurd (show x = y by simpa using q).symm e
          simp [this, e]
      · rw [dcnt_succ hx]
    refine wpAny_pure ⟨plainId_quiet F.plain_set_update_loop _, again (j + 1) _ (by omega) lt (wk.frame _ z1 _ _ st1 (Nat.le_succ _) fun b hb ob there => ?_) set3 fun z2 mv2 set4 => ?_⟩
    · rw [but.2 b (fun e : b = T => nT (by rw [← e]; exact hb))]
      exact there
    · refine goal z2 (Moved.trans wk.gtrans ((mv.mono incl).then_heap (Nat.le_succ _) fun b ob nb there => ?_) mv2) set4
      rw [but.2 b (fun e : b = T => nb (by rw [e]; exact List.mem_cons_self))]
      exact there
end
section
variable {prog : Program} {w : World} {A : Around} {E : Value → Shared → Prop} {s : Shared}
theorem set_tup {l : Addr} {items : Array Value} {xs : List Str} {Q : Value → Shared → Prop} (calm : A.handled = none) (isT : s.heap.IsTuple l items) (are : StrsAre items.toList xs) (few : xs.length < 4000)
    (k : ∀ (h2 : Heap) (tk : Nat), h2.SetOf (PySem.strKind prog w) s.heap.objs.size (inFirst xs items.size) (dcnt xs items.size) → (∀ b ob, b < s.heap.objs.size → s.heap.get? b = some ob → h2.get? b = some ob) → Q (.ref s.heap.objs.size) { s with heap := h2, toks := tk }) :
    wpAny (model prog w) A (call (.type "set") [.ref l]) Q E s := by
  obtain ⟨cl, rest, mro⟩ := PySem.F.called_set.mro
  have made := PySem.F.called_set.made
  have sub := PySem.F.called_set.sub
  refine wpAny_call (codeAny_of_tree (wpAny_pure (show _ ∧ _ from ⟨Code.quiet_builtin _ (by decide +kernel), codeAny_builtin PySem.F.entry_type_call ?_⟩)))
  rw [Around.under_plain (weight_type_call_type "set" [.ref l] []) rfl]
  have f1 := PySem.F.called_set.notType
  have f2 := PySem.F.called_set.canCreate
  have f3 := PySem.F.typeCall_set_1 (.ref l)
  repeat any_goals first | assumption | wp_step
  refine codeAny_mono (code_set_new_1 (.ref l) (E := E) (Q₁ := fun ob s1 => ∃ b : Bool, ob = .ref s.heap.objs.size ∧ s1 = { s with heap := s.heap.push { cls := .type "set", dict := none, data := .set #[] 0 (.fresh 0 0 b) } }) fun b => ⟨b, rfl, rfl⟩) fun r s1 hr => ?_
  rcases r with _ | fl
  · exact hr
  cases fl with
  | next => exact hr.elim
  | brk => exact hr.elim
  | cont => exact hr.elim
  | ret ob =>
  obtain ⟨b, rfl, rfl⟩ := hr
  generalize hh : s.heap.push { cls := .type "set", dict := none, data := .set #[] 0 (.fresh 0 0 b) } = h1
  have new : h1.get? s.heap.objs.size = some { cls := .type "set", dict := none, data := .set #[] 0 (.fresh 0 0 b) } := by subst hh; exact Heap.get?_push_size _ rfl
  have old : ∀ c o, s.heap.get? c = some o → h1.get? c = some o := fun c o e => by subst hh; exact Heap.get?_push_of_some _ e
  have size1 : h1.objs.size = s.heap.objs.size + 1 := by subst hh; exact Heap.size_push ..
  have ty : Shared.TypeIs { s with heap := h1 } (.ref s.heap.objs.size) "set" := ⟨_, new, rfl⟩
  have i1 := PySem.F.called_set.init.lookup
  have i2 := PySem.F.called_set.init.bind (.ref s.heap.objs.size)
  repeat any_goals first | assumption | wp_step
  refine codeAny_mono (codeAny_call_builtin (R := wants (fun r z => r = .none ∧ ∃ h2 tk, z = { s with heap := h2, toks := tk } ∧ h2.SetOf (PySem.strKind prog w) s.heap.objs.size (inFirst xs items.size) (dcnt xs items.size) ∧ (∀ c o, c < s.heap.objs.size → s.heap.get? c = some o → h2.get? c = some o)) E)
    PySem.F.called_set.init.plain PySem.F.entry_set_init (check_set_init_1 ty ?_)) fun r z hz => ?_
  · obtain ⟨ot, there, hcls, no, hdat⟩ := isT
    obtain ⟨_, od, _, os⟩ := ot
    cases (show _ = Value.type "tuple" from hcls)
    cases (show _ = Data.seq items no from hdat)
    have there1 := old l _ there
    have g1 := PySem.F.sub_tuple_set
    have g2 := PySem.F.sub_tuple_frozenset
    have g3 : (Value.type "tuple" == Value.type "dict") = false := by decide
    have tup1 : h1.IsTuple l items := ⟨_, there1, rfl, no, rfl⟩
    unfold Builtin.«set.__init__» noKeywords Builtin.Frozenset.updateFrom
    generalize hIt : pyIter = IT
    wp_walk
    subst hIt
    refine wpAny_pyIter_tuple tup1 (wpAny_bind (wpAny_runValue ?_))
    have lt : l < s.heap.objs.size := Heap.lt_size there
    have calm3 : A.in1.in1.in1.handled = none := by simp [calm]
    have apart : l ≠ h1.objs.size := by rw [size1]; exact Nat.ne_of_lt (Nat.lt_succ_of_lt lt)
    have noS : s.heap.objs.size ∉ [h1.objs.size, l] := by
      rw [size1]
      simp only [List.mem_cons, List.not_mem_nil, or_false, not_or]
      exact ⟨Nat.ne_of_lt (Nat.lt_succ_self _), Nat.ne_of_gt lt⟩
    have len : xs.length = items.size := by rw [← StrsAre.len_eq are, Array.length_toList]
    refine upd_loop ((Walks.tuple calm3 _ l apart items).toS) s.heap.objs.size noS xs len (by omega) (fun j v hv => SS.strs_at are j v (by rw [Array.getElem?_toList]; exact hv)) (items.size - 0) 0 _ (by omega) (Nat.zero_le _) ⟨⟨_, Heap.get?_push_size _ rfl, rfl, rfl⟩, tup1.push _⟩ ?_ ?_
    · exact SetOf_congr ((setObjOf_fresh (knd := PySem.strKind prog w) b).setOf (Heap.get?_push_of_some _ new) (by unfold scanBound; omega)) (fun _ => rfl) rfl
    · intro z mv st
      obtain ⟨h2, g2, d2, t2, o2⟩ := z
      cases (show g2 = s.gens from mv.gens)
      cases (show d2 = s.drawn from mv.drawn)
      cases (show o2 = s.os from mv.os)
      refine wpAny_pure ?_
      have : ∀ c o, c < s.heap.objs.size → s.heap.get? c = some o → h2.get? c = some o := fun c o hc e => ?_
      · show wpAny _ _ (ret .none) _ _ _
        exact wpAny_pure ⟨rfl, h2, t2, rfl, st, this⟩
      refine mv.heap c o ?_ (Heap.get?_push_of_some _ (old c o e))
      rw [size1]
      simp only [List.mem_cons, List.not_mem_nil, or_false, not_or]
      exact ⟨Nat.ne_of_lt hc, Nat.ne_of_lt (Nat.lt_succ_of_lt hc)⟩
  · rcases r with _ | fl
    · exact hz
    cases fl with
    | next => exact hz.elim
    | brk => exact hz.elim
    | cont => exact hz.elim
    | ret r =>
    obtain ⟨rfl, h2, tk, rfl, st, keeps⟩ := hz
    repeat any_goals first | assumption | wp_step
    exact k _ _ st keeps
end
section
variable {G : Gx} {ρ : List Addr} {H : Hp} {F : Frm} {S : Sto} {Q : VK} {X : Cx}
theorem txt_are : ∀ {ys : List Str} {us : List Value}, Vals (ys.map V.str) us → StrsAre us ys
  | [], us, h => by cases h; exact .nil
  | y :: ys, us, h => by
    cases h with
    | cons r t =>
      obtain ⟨k, rfl⟩ := r
      exact .cons y k (txt_are t)
theorem pe_lset {a : Expr} {ta : TE} {p p2 q pos : Pos} (hc : X.calm = true) (hg : Gl X "len") (hm : X.mg "len" = none) (hg2 : Gl X "set") (hm2 : X.mg "set" = none) (ha : PE X a ta) (na : starEach [a] X.env = (false, eval a X.env) :: starEach [] X.env) :
    PE X (.Call (.Name "len" p) [.Call (.Name "set" p2) [a] [] q] [] pos) (fun σ H Q => ta σ H fun x H1 => ∃ (l : Addr) (xs : List Str), x = .ref l ∧ SqT X.K H1 l (xs.map V.str) ∧ xs.length < 4000 ∧ Q (.int (dedup xs).length) H1) := by
  refine ⟨fun pins s σ H Q I h => Call_ (ld_blt I hg hm boot_len (callWith_builtin1 (args_cons (Call_ (ld_blt I hg2 hm2 boot_set (callWith_type1 (args_cons (thn (ha.run pins s σ H _ I h) fun v s1 ⟨x, H1, I1, r1, q1⟩ => args_nil ?_) na) na rfl))) rfl) rfl rfl))⟩
  obtain ⟨l, xs, rfl, hq, few, q1⟩ := q1
  cases r1
  obtain ⟨its, r, tp, _⟩ := I1.tuple hq
  have len : its.toArray.size = xs.length := by rw [List.size_toArray, ← r.length, List.length_map]
  refine set_tup (I1.ok.hd hc) tp (by simpa using txt_are r) few fun h2 tk st keeps => args_nil ?_
  rw [len] at st
  obtain ⟨ob, es, ep, tb, there, ex, dat, _, _, _, fr, num⟩ := st
  have I2 : Inv X pins σ H1 { s1 with heap := h2, toks := tk } := I1.kept fun b o e => keeps b o (Heap.lt_size e) e
  have cnt : dcnt xs xs.length = (dedup xs).length := by unfold dcnt; rw [List.take_length]
  have le := dcnt_le xs xs.length
  exact call_len_set there ex dat fr (by rw [num]; omega) ⟨.int (dedup xs).length, H1, I2.tok _, ⟨_, by rw [num, cnt]⟩, q1⟩
end
end DE
/-! DE6: expressions: the readings hold. -/
namespace DE
open PySem PySem.Spec PyProof.Rows L2

def PR {α : Type} (r : R α) (ok : α → Sto → Prop) (ex : Nat → D → Sto → Prop) : Prop := match r with
  | .ok a S => ok a S
  | .ex c x S => ex c x S
  | .no => False
section
variable {G : Gx} {W : WX} {cf : CF} {ρ ρ0 ρ1 ρ' : List Addr} {H H0 H1 H' : Hp} {F : Frm} {S S' S1 : Sto} {Q : VK} {X : Cx} {σ : L2.St} {env : Env}
def exQ (G : Gx) (W : WX) (ρ : List Addr) (F : Frm) (H : Hp) (σ : L2.St) : Nat → D → Sto → Prop := fun c x S' => ∀ ρ' H', Ext ρ H ρ' H' → RS G ρ' F H' S' → ∀ cv dx, G.xr c x cv dx H' → W cv dx σ H'
theorem exQ.mono (e : Ext ρ0 H0 ρ1 H1) {c : Nat} {x : D} (h : exQ G W ρ0 F H0 σ c x S) : exQ G W ρ1 F H1 σ c x S := fun ρ' H' e' r' => h ρ' H' (e.trans e') r'
def tE (G : Gx) (W : WX) (cf : CF) (x : Ex) : TE := fun σ H Q => ∃ ρ F S env, RS G ρ F H S ∧ REnv G ρ H env σ ∧
  PR (ev cf x env S) (fun d S' => ∀ v ρ' H', Ext ρ H ρ' H' → RS G ρ' F H' S' → RV G ρ' H' d v → Q v H') (exQ G W ρ F H σ)
def tA (G : Gx) (W : WX) (cf : CF) (x : Exs) : TA := fun σ H Q => ∃ ρ F S env, RS G ρ F H S ∧ REnv G ρ H env σ ∧
  PR (evs cf x env S) (fun ds S' => ∀ vs ρ' H', Ext ρ H ρ' H' → RS G ρ' F H' S' → RVs G ρ' H' ds vs → Q vs H') (exQ G W ρ F H σ)
def tT (G : Gx) (W : WX) (cf : CF) (x : Ex) : TT := fun σ H Q => ∃ ρ F S env, RS G ρ F H S ∧ REnv G ρ H env σ ∧
  PR (ev cf x env S) (fun d S' => ∃ k, d = .bl k ∧ ∀ ρ' H', Ext ρ H ρ' H' → RS G ρ' F H' S' → Q k H') (exQ G W ρ F H σ)
def tTc (G : Gx) (W : WX) (cf : CF) (x : Exs) : TT := fun σ H Q => ∃ ρ F S env, RS G ρ F H S ∧ REnv G ρ H env σ ∧
  PR (evc cf x env S) (fun k S' => ∀ ρ' H', Ext ρ H ρ' H' → RS G ρ' F H' S' → Q k H') (exQ G W ρ F H σ)
def tO (G : Gx) (W : WX) (cf : CF) (x : Ex) : TO := fun σ H Q => ∃ ρ F S env, RS G ρ F H S ∧ REnv G ρ H env σ ∧
  PR (ev cf x env S) (fun d S' => ∃ o, partOf d = some o ∧ ∀ ρ' H', Ext ρ H ρ' H' → RS G ρ' F H' S' → Q o H') (exQ G W ρ F H σ)

/-- an expression, then what goes on -/
theorem stepE {β : Type} {x : Ex} {f : D → Sto → R β} {ok : β → Sto → Prop} {Q' : VK} (e0 : Ext ρ0 H0 ρ H) (r : RS G ρ F H S) (en : REnv G ρ H env σ) (h : PR ((ev cf x env S).bind f) ok (exQ G W ρ0 F H0 σ))
    (k : ∀ d S1 v ρ1 H1, Ext ρ0 H0 ρ1 H1 → RS G ρ1 F H1 S1 → REnv G ρ1 H1 env σ → Ext ρ H ρ1 H1 → RV G ρ1 H1 d v → PR (f d S1) ok (exQ G W ρ0 F H0 σ) → Q' v H1) : tE G W cf x σ H Q' := by
  refine ⟨ρ, F, S, env, r, en, ?_⟩
  cases q : ev cf x env S with
  | ok d S1 =>
    rw [q] at h
    exact fun v ρ' H' e' r' hv => k d S1 v ρ' H' (e0.trans e') r' (en.mono e') e' hv h
  | ex c y S1 =>
    rw [q] at h
    exact exQ.mono e0 h
  | no =>
    rw [q] at h
    exact h
theorem stepA {β : Type} {x : Exs} {f : List D → Sto → R β} {ok : β → Sto → Prop} {Q' : List V → Hp → Prop} (e0 : Ext ρ0 H0 ρ H) (r : RS G ρ F H S) (en : REnv G ρ H env σ) (h : PR ((evs cf x env S).bind f) ok (exQ G W ρ0 F H0 σ))
    (k : ∀ ds S1 vs ρ1 H1, Ext ρ0 H0 ρ1 H1 → RS G ρ1 F H1 S1 → REnv G ρ1 H1 env σ → Ext ρ H ρ1 H1 → RVs G ρ1 H1 ds vs → PR (f ds S1) ok (exQ G W ρ0 F H0 σ) → Q' vs H1) : tA G W cf x σ H Q' := by
  refine ⟨ρ, F, S, env, r, en, ?_⟩
  cases q : evs cf x env S with
  | ok d S1 =>
    rw [q] at h
    exact fun v ρ' H' e' r' hv => k d S1 v ρ' H' (e0.trans e') r' (en.mono e') e' hv h
  | ex c y S1 =>
    rw [q] at h
    exact exQ.mono e0 h
  | no =>
    rw [q] at h
    exact h
theorem stepT {β : Type} {x : Ex} {f : D → Sto → R β} {ok : β → Sto → Prop} {Q' : Bool → Hp → Prop} (e0 : Ext ρ0 H0 ρ H) (r : RS G ρ F H S) (en : REnv G ρ H env σ) (h : PR ((ev cf x env S).bind f) ok (exQ G W ρ0 F H0 σ))
    (hb : ∀ d S1, PR (f d S1) ok (exQ G W ρ0 F H0 σ) → ∃ k, d = .bl k)
    (k : ∀ b S1 ρ1 H1, Ext ρ0 H0 ρ1 H1 → RS G ρ1 F H1 S1 → REnv G ρ1 H1 env σ → Ext ρ H ρ1 H1 → PR (f (.bl b) S1) ok (exQ G W ρ0 F H0 σ) → Q' b H1) : tT G W cf x σ H Q' := by
  refine ⟨ρ, F, S, env, r, en, ?_⟩
  cases q : ev cf x env S with
  | ok d S1 =>
    rw [q] at h
    obtain ⟨b, rfl⟩ := hb d S1 h
    exact ⟨b, rfl, fun ρ' H' e' r' => k b S1 ρ' H' (e0.trans e') r' (en.mono e') e' h⟩
  | ex c y S1 =>
    rw [q] at h
    exact exQ.mono e0 h
  | no =>
    rw [q] at h
    exact h
/-- an expression's own reading, as a part of the way -/
theorem tE.of {x : Ex} (h : tE G W cf x σ H Q) : ∃ ρ F S env, RS G ρ F H S ∧ REnv G ρ H env σ ∧ PR (ev cf x env S) (fun d S' => ∀ v ρ' H', Ext ρ H ρ' H' → RS G ρ' F H' S' → RV G ρ' H' d v → Q v H') (exQ G W ρ F H σ) := h
/-- what an operation by values leaves -/
theorem okR_of {r : R D} (e : Ext ρ0 H0 ρ H) (h : PR r (fun d S' => ∀ v ρ' H', Ext ρ0 H0 ρ' H' → RS G ρ' F H' S' → RV G ρ' H' d v → Q v H') (exQ G W ρ0 F H0 σ)) (ne : ∀ c x S', r ≠ .ex c x S') : okR G ρ F H Q r := by
  cases r with
  | ok d S' => exact fun v ρ' H' e' r' hv => h v ρ' H' (e.trans e') r' hv
  | ex c x S' => exact absurd rfl (ne c x S')
  | no => exact h
theorem ret1 {d : D} {v : V} (e : Ext ρ0 H0 ρ H) (r : RS G ρ F H S) (hv : RV G ρ H d v) (h : PR (.ok d S) (fun d S' => ∀ v ρ' H', Ext ρ0 H0 ρ' H' → RS G ρ' F H' S' → RV G ρ' H' d v → Q v H') (exQ G W ρ0 F H0 σ)) : Q v H := h v ρ H e r hv

theorem PE.imp {e : Expr} {t t' : TE} (h : PE X e t) (i : ∀ σ H Q, t' σ H Q → t σ H Q) : PE X e t' := ⟨fun pins s σ H Q I q => h.run pins s σ H Q I (i σ H Q q)⟩
theorem PT.imp {e : Expr} {t t' : TT} (h : PT X e t) (i : ∀ σ H Q, t' σ H Q → t σ H Q) : PT X e t' := ⟨fun pins s σ H Q I q => h.run pins s σ H Q I (i σ H Q q)⟩
theorem PA.imp {e : List Expr} {t t' : TA} (h : PA X e t) (i : ∀ σ H Q, t' σ H Q → t σ H Q) : PA X e t' := ⟨fun p pins s σ H Q I q => h.run p pins s σ H Q I (i σ H Q q)⟩
theorem PI.imp {tg e : Expr} {t t' : TI} (h : PI X tg e t) (i : ∀ σ H Q, t' σ H Q → t σ H Q) : PI X tg e t' := ⟨fun pins s σ H Q I q => h.run pins s σ H Q I (i σ H Q q)⟩
theorem PO.imp {e : Option Expr} {t t' : TO} (h : PO X e t) (i : ∀ σ H Q, t' σ H Q → t σ H Q) : PO X e t' := ⟨fun pins s σ H Q I q => h.run pins s σ H Q I (i σ H Q q)⟩

/-! ### operations raise nothing of themselves -/
def Nex {α : Type} (r : R α) : Prop := ∀ c x S', r ≠ .ex c x S'
theorem newL_nex {ds : List D} : Nex (newL ds S) := fun c x S' => by
  unfold newL
  split <;> (intro z; cases z)
theorem bin_nex {o : Bop} {a b : D} : Nex (bin o a b S) := by
  unfold bin
  repeat' (first | exact newL_nex | (intro c x S' z; cases z; done) | split)
theorem slc_nex {a l h : D} : Nex (slc a l h S) := by
  unfold slc
  repeat' (first | exact newL_nex | (intro c x S' z; cases z; done) | split)
theorem rev_nex {a : D} : Nex (rev a S) := by
  unfold rev
  repeat' (first | exact newL_nex | (intro c x S' z; cases z; done) | split)
theorem one_nex {f : D → Sto → R D} {ds : List D} (h : ∀ a, Nex (f a S)) : Nex (one f ds S) := by
  unfold one
  split
  · exact h _
  · intro c x S' z
    cases z
theorem blt_nex {b : Blt} {ds : List D} : Nex (blt b ds S) := by
  cases b with
  | len => refine one_nex fun a => ?_; unfold bLen; repeat' (first | exact newL_nex | (intro c x S' z; cases z; done) | split)
  | all => refine one_nex fun a => ?_; unfold bAll; repeat' (first | exact newL_nex | (intro c x S' z; cases z; done) | split)
  | any => refine one_nex fun a => ?_; unfold bAny; repeat' (first | exact newL_nex | (intro c x S' z; cases z; done) | split)
  | list => refine one_nex fun a => ?_; unfold bList; repeat' (first | exact newL_nex | (intro c x S' z; cases z; done) | split)
  | tuple => refine one_nex fun a => ?_; unfold bTuple; repeat' (first | exact newL_nex | (intro c x S' z; cases z; done) | split)
  | abs => refine one_nex fun a => ?_; unfold bAbs; repeat' (first | exact newL_nex | (intro c x S' z; cases z; done) | split)
  | int => refine one_nex fun a => ?_; unfold bInt; repeat' (first | exact newL_nex | (intro c x S' z; cases z; done) | split)
  | sum => refine one_nex fun a => ?_; unfold bSum; repeat' (first | exact newL_nex | (intro c x S' z; cases z; done) | split)
  | sorted => refine one_nex fun a => ?_; unfold bSorted; repeat' (first | exact newL_nex | (intro c x S' z; cases z; done) | split)
  | dict => refine one_nex fun a => ?_; unfold bDict; repeat' (first | exact newL_nex | (intro c x S' z; cases z; done) | split)
  | lenset => refine one_nex fun a => ?_; unfold bLenset; repeat' (first | exact newL_nex | (intro c x S' z; cases z; done) | split)
  | max2 =>
    show Nex (two bMax2 ds S)
    unfold two
    split
    · unfold bMax2; repeat' (first | (intro c x S' z; cases z; done) | split)
    · intro c x S' z; cases z
  | isI => refine one_nex fun a => ?_; unfold bIs; repeat' (first | (intro c x S' z; cases z; done) | split)
  | isB => refine one_nex fun a => ?_; unfold bIs; repeat' (first | (intro c x S' z; cases z; done) | split)
  | isS => refine one_nex fun a => ?_; unfold bIs; repeat' (first | (intro c x S' z; cases z; done) | split)
  | isT => refine one_nex fun a => ?_; unfold bIs; repeat' (first | (intro c x S' z; cases z; done) | split)
  | isL => refine one_nex fun a => ?_; unfold bIs; repeat' (first | (intro c x S' z; cases z; done) | split)
theorem mth_nex {m : Mth} {o : D} {ds : List D} : Nex (mth m o ds S) := by
  cases m with
  | append => refine one_nex fun a => ?_; unfold mAppend; repeat' (first | (intro c x S' z; cases z; done) | split)
  | extend => refine one_nex fun a => ?_; unfold mExtend; repeat' (first | (intro c x S' z; cases z; done) | split)
  | get1 => refine one_nex fun a => ?_; unfold mGet1; repeat' (first | (intro c x S' z; cases z; done) | split)
  | pop =>
    show Nex (zero (mPop o) ds S)
    unfold zero
    split
    · unfold mPop; repeat' (first | (intro c x S' z; cases z; done) | split)
    · intro c x S' z; cases z

/-! ### the context -/
/-- a def's promise: it goes as cf says -/
def spD (G : Gx) (cf : CF) (g : Nat) : Sp := fun vs H Q E => ∃ ρ F S ds, RS G ρ F H S ∧ RVs G ρ H ds vs ∧
  PR (cf g ds S) (fun d S' => ∀ v ρ' H', Ext ρ H ρ' H' → RS G ρ' F H' S' → RV G ρ' H' d v → Q v H') (fun c x S' => ∀ ρ' H', Ext ρ H ρ' H' → RS G ρ' F H' S' → ∀ cv dx, G.xr c x cv dx H' → E cv dx H')
structure Cy (c : Tc) (G : Gx) (cf : CF) (X : Cx) (W : WX) (sc : Scope) (st : Str → Bool) : Prop where
  K : X.K = G.K
  calm : X.calm = true
  N : X.N = c.N
  nd : c.N.Nodup
  sc : X.env.scope = sc
  tk : Takes X W
  un : X.A.units + 65 < cLine
  st : ∀ x, st x = true → Loc X.env.scope x ∧ (X.fn x = true ∨ X.env.scope.names.lookup x = some .local)
  glo : ∀ x d, c.gt x = some d → ∃ u v, X.mg x = some u ∧ RelV v u ∧ ∀ ρ H, RV G ρ H d v
  free : ∀ x, c.free x = true → X.mg x = none
  fns : ∀ x g, c.fns x = some g → ∃ (k : Nat) (f : Addr) (fd : FuncData) (ps : List Str), X.mg x = some (.ref f) ∧ PySem.W.keepIn X.K (.ref f) = true ∧ Binds X.K fd ps [] ∧ FnOk X.prog X.w X.K X.mg X.base (L2.CX X.prog X.w) k f fd ps (spD G cf g) ∧ Room k X.A
  exc : ∀ x k, c.exc x = some k → ∃ (Cc : Addr) (bmB : List Value) (B newId initId : String), ExcBaseFacts B newId initId bmB ∧ PySem.W.excIn X.K Cc bmB newId = true ∧ X.mg x = some (.ref Cc) ∧ PySem.W.keepIn X.K (.ref Cc) = true ∧ Raises X (.ref Cc) ∧ ∀ H, G.xr k .non (.ref Cc) none H

theorem slotOf_get : ∀ {N : List Str} {x : Str} {i : Nat}, slotOf N x = some i → N[i]? = some x
  | [], _, _, h => by cases h
  | y :: r, x, i, h => by
    unfold slotOf at h
    split at h
    · rename_i e
      cases h
      rw [of_decide_eq_true e]
      rfl
    · obtain ⟨j, h1, h2⟩ := Option.map_eq_some_iff.mp h
      rw [← h2, List.getElem?_cons_succ]
      exact slotOf_get h1
theorem visB_ok {sc : Scope} {x : Str} (h : visB sc x = true) : Vis sc x := by
  unfold visB at h
  split at h
  · rename_i e; exact .inl e
  · rename_i e; exact .inr (.inl e)
  · rename_i e; exact .inr (.inr e)
  · cases h
theorem gloB_ok {x : Str} {sc : Scope} (hs : X.env.scope = sc) (h : gloB sc x = true) : Gl X x ∧ (x == ("__debug__" : Str)) = false := by
  unfold gloB at h
  split at h
  · rename_i e
    refine ⟨?_, by simpa using h⟩
    show X.env.scope.names.lookup x = _
    rw [hs]
    exact e
  · cases h
variable {c : Tc} {sc : Scope} {st : Str → Bool}
theorem Cy.slot (C : Cy c G cf X W sc st) {x : Str} {i : Nat} (h : slotOf c.N x = some i) : X.N[i]? = some x := by
  rw [C.N]
  exact slotOf_get h
/-! ### rules -/
theorem e_loc (C : Cy c G cf X W sc st) {x : Str} {p : Pos} {i : Nat} (hv : visB sc x = true) (hd : (x == ("__debug__" : Str)) = false) (hcd : (x == ("__classdict__" : Str)) = false) (h : slotOf c.N x = some i) : PE X (.Name x p) (tE G W cf (.loc i)) := by
  refine PE.imp (pe_var (C.slot h) (by rw [C.sc]; exact visB_ok hv) hd hcd) fun σ H Q ⟨ρ, F, S, env, r, en, q⟩ => ?_
  unfold ev at q
  split at q
  · rename_i d e
    obtain ⟨v, h1, h2⟩ := en.2 i d e
    exact ⟨v, h1, q v ρ H Ext.refl r h2⟩
  · exact q.elim
theorem e_glo (C : Cy c G cf X W sc st) {x : Str} {p : Pos} {d : D} (hg : gloB sc x = true) (h : c.gt x = some d) : PE X (.Name x p) (tE G W cf (.cst d)) := by
  obtain ⟨g1, g2⟩ := gloB_ok C.sc hg
  obtain ⟨u, v, h1, h2, h3⟩ := C.glo x d h
  exact PE.imp (pe_glob g1 h1 h2 g2) fun σ H Q ⟨ρ, F, S, env, r, en, q⟩ => q v ρ H Ext.refl r (h3 ρ H)
theorem e_cst {k : Const} {j : Nat} {p : Pos} {d : D} (h : cstOf k = some d) : PE X (.Constant k j p) (tE G W cf (.cst d)) := by
  cases k <;> first | (cases h; done) | skip
  · cases h
    exact PE.imp pe_non fun σ H Q ⟨ρ, F, S, env, r, en, q⟩ => q _ ρ H Ext.refl r rfl
  · cases h
    exact PE.imp pe_bl fun σ H Q ⟨ρ, F, S, env, r, en, q⟩ => q _ ρ H Ext.refl r rfl
  · cases h
    exact PE.imp pe_int fun σ H Q ⟨ρ, F, S, env, r, en, q⟩ => q _ ρ H Ext.refl r rfl
  · cases h
    exact PE.imp pe_str fun σ H Q ⟨ρ, F, S, env, r, en, q⟩ => q _ ρ H Ext.refl r rfl
theorem opIn {o : Operator} {b : Bop} (h : bopIn o = some b) : bopOf b = o := by
  cases o <;> cases h <;> rfl
theorem cop_in (o : CmpOp) : copOf (copIn o) = o := by cases o <;> rfl
theorem e_bin (C : Cy c G cf X W sc st) {a b : Expr} {x y : Ex} {o : Operator} {k : Bop} {p : Pos} (hk : bopIn o = some k) (ha : PE X a (tE G W cf x)) (hb : PE X b (tE G W cf y)) : PE X (.BinOp a o b p) (tE G W cf (.bin k x y)) := by
  have ho := bin_ok (G := G) C.K k
  rw [opIn hk] at ho
  refine PE.imp (pe_op ho ha hb) fun σ H Q ⟨ρ, F, S, env, r, en, q⟩ => ?_
  unfold ev at q
  refine stepE Ext.refl r en q fun d S1 v ρ1 H1 e1 r1 n1 _ h1 q1 => ?_
  refine stepE e1 r1 n1 q1 fun d2 S2 v2 ρ2 H2 e2 r2 n2 e12 h2 q2 => ?_
  exact ⟨ρ2, F, S2, d, d2, r2, RV.mono e12 _ _ h1, h2, okR_of e2 q2 bin_nex⟩
theorem rc_nex {f : D → D → Sto → Option Bool} {a b : D} : Nex (rc f a b S) := by
  unfold rc
  split <;> (intro c x S' z; cases z)
theorem e_cmp (C : Cy c G cf X W sc st) {a b : Expr} {x y : Ex} {o : CmpOp} {p : Pos} (hm : behindInMarks o b = false) (ha : PE X a (tE G W cf x)) (hb : PE X b (tE G W cf y)) : PE X (.Compare a [o] [b] p) (tE G W cf (.cmp (copIn o) x y)) := by
  have ho := cmp_ok (G := G) C.K C.un (copIn o)
  rw [cop_in] at ho
  refine PE.imp (pe_cmpR ho ha hb hm) fun σ H Q ⟨ρ, F, S, env, r, en, q⟩ => ?_
  unfold ev at q
  refine stepE Ext.refl r en q fun d S1 v ρ1 H1 e1 r1 n1 _ h1 q1 => ?_
  refine stepE e1 r1 n1 q1 fun d2 S2 v2 ρ2 H2 e2 r2 n2 e12 h2 q2 => ?_
  exact ⟨ρ2, F, S2, d, d2, r2, RV.mono e12 _ _ h1, h2, okR_of e2 q2 rc_nex⟩
theorem e_not {a : Expr} {x : Ex} {p : Pos} (ha : PE X a (tE G W cf x)) : PE X (.UnaryOp .Not a p) (tE G W cf (.not x)) := by
  refine PE.imp (pe_not ha) fun σ H Q ⟨ρ, F, S, env, r, en, q⟩ => ?_
  unfold ev at q
  refine stepE Ext.refl r en q fun d S1 v ρ1 H1 e1 r1 n1 _ h1 q1 => ?_
  split at q1
  · rename_i k
    rw [show v = _ from h1]
    exact ⟨k, rfl, q1 _ ρ1 H1 e1 r1 rfl⟩
  · exact q1.elim
theorem e_neg {a : Expr} {x : Ex} {p : Pos} (ha : PE X a (tE G W cf x)) : PE X (.UnaryOp .USub a p) (tE G W cf (.neg x)) := by
  refine PE.imp (pe_un un_neg ha) fun σ H Q ⟨ρ, F, S, env, r, en, q⟩ => ?_
  unfold ev at q
  refine stepE Ext.refl r en q fun d S1 v ρ1 H1 e1 r1 n1 _ h1 q1 => ?_
  split at q1
  · rename_i k
    rw [show v = _ from h1]
    exact ⟨k, rfl, q1 _ ρ1 H1 e1 r1 rfl⟩
  · exact q1.elim
theorem e_and {a b : Expr} {rest : List Expr} {x y : Ex} {p : Pos} (ha : PE X a (tE G W cf x)) (hb : PE X (.BoolOp .And (b :: rest) p) (tE G W cf y)) : PE X (.BoolOp .And (a :: b :: rest) p) (tE G W cf (.and x y)) := by
  refine PE.imp (pe_and ha hb) fun σ H Q ⟨ρ, F, S, env, r, en, q⟩ => ?_
  unfold ev at q
  refine stepE Ext.refl r en q fun d S1 v ρ1 H1 e1 r1 n1 _ h1 q1 => ?_
  split at q1
  · rw [show v = _ from h1]
    refine ⟨true, rfl, ?_⟩
    rw [if_pos rfl]
    refine ⟨ρ1, F, S1, env, r1, n1, ?_⟩
    cases e : ev cf y env S1 with
    | ok d S' =>
      rw [e] at q1
      exact fun v ρ' H' e' r' hv => q1 v ρ' H' (e1.trans e') r' hv
    | ex cc xx S' =>
      rw [e] at q1
      exact exQ.mono e1 q1
    | no =>
      rw [e] at q1
      exact q1
  · rw [show v = _ from h1]
    refine ⟨false, rfl, ?_⟩
    rw [if_neg Bool.false_ne_true]
    exact q1 _ ρ1 H1 e1 r1 rfl
  · exact q1.elim
/-- the rest of the way is an expression -/
theorem tailE {x : Ex} (e : Ext ρ0 H0 ρ H) (r : RS G ρ F H S) (en : REnv G ρ H env σ) (h : PR (ev cf x env S) (fun d S' => ∀ v ρ' H', Ext ρ0 H0 ρ' H' → RS G ρ' F H' S' → RV G ρ' H' d v → Q v H') (exQ G W ρ0 F H0 σ)) : tE G W cf x σ H Q := by
  refine ⟨ρ, F, S, env, r, en, ?_⟩
  cases q : ev cf x env S with
  | ok d S' =>
    rw [q] at h
    exact fun v ρ' H' e' r' hv => h v ρ' H' (e.trans e') r' hv
  | ex cc xx S' =>
    rw [q] at h
    exact exQ.mono e h
  | no =>
    rw [q] at h
    exact h
theorem e_or {a b : Expr} {rest : List Expr} {x y : Ex} {p : Pos} (ha : PE X a (tE G W cf x)) (hb : PE X (.BoolOp .Or (b :: rest) p) (tE G W cf y)) : PE X (.BoolOp .Or (a :: b :: rest) p) (tE G W cf (.or x y)) := by
  refine PE.imp (pe_or ha hb) fun σ H Q ⟨ρ, F, S, env, r, en, q⟩ => ?_
  unfold ev at q
  refine stepE Ext.refl r en q fun d S1 v ρ1 H1 e1 r1 n1 _ h1 q1 => ?_
  split at q1
  · rw [show v = _ from h1]
    refine ⟨true, rfl, ?_⟩
    rw [if_pos rfl]
    exact q1 _ ρ1 H1 e1 r1 rfl
  · rw [show v = _ from h1]
    refine ⟨false, rfl, ?_⟩
    rw [if_neg Bool.false_ne_true]
    exact tailE e1 r1 n1 q1
  · exact q1.elim
theorem e_ite {t a b : Expr} {x y z : Ex} {p : Pos} (ht : PT X t (tT G W cf x)) (ha : PE X a (tE G W cf y)) (hb : PE X b (tE G W cf z)) : PE X (.IfExp t a b p) (tE G W cf (.ite x y z)) := by
  refine PE.imp (pe_ifExp ht ha hb) fun σ H Q ⟨ρ, F, S, env, r, en, q⟩ => ?_
  unfold ev at q
  refine stepT Ext.refl r en q (fun d S1 q => ?_) fun k S1 ρ1 H1 e1 r1 n1 _ q1 => ?_
  · split at q
    · exact ⟨_, rfl⟩
    · exact ⟨_, rfl⟩
    · exact q.elim
  · cases k with
    | true =>
      rw [if_pos rfl]
      exact tailE e1 r1 n1 q1
    | false =>
      rw [if_neg Bool.false_ne_true]
      exact tailE e1 r1 n1 q1
end
end DE
/-! DE7: expressions: displays, calls, subscripts. -/
namespace DE
open PySem PySem.Spec PyProof.Rows L2
section
variable {G : Gx} {W : WX} {cf : CF} {ρ ρ0 ρ1 ρ' : List Addr} {H H0 H1 H' : Hp} {F : Frm} {S S' S1 : Sto} {Q : VK} {X : Cx} {σ : L2.St} {env : Env}
variable {c : Tc} {sc : Scope} {st : Str → Bool}

theorem R.bind_assoc {α β γ : Type} (r : R α) (f : α → Sto → R β) (g : β → Sto → R γ) : (r.bind f).bind g = r.bind fun a S => (f a S).bind g := by cases r <;> rfl
/-! ### a op b op c -/
theorem PR.nex {α : Type} {r : R α} {ok : α → Sto → Prop} {ex : Nat → D → Sto → Prop} (h : PR r ok ex) (n : Nex r) : ∃ a S, r = .ok a S ∧ ok a S := by
  cases r with
  | ok a S => exact ⟨a, S, rfl, h⟩
  | ex c x S => exact absurd rfl (n c x S)
  | no => exact h.elim
theorem rc_ok {f : D → D → Sto → Option Bool} {a b : D} {k : Bool} (e : f a b S = some k) : rc f a b S = .ok (.bl k) S := by
  unfold rc
  rw [e]
theorem e_chn (C : Cy c G cf X W sc st) {a b d : Expr} {x y z : Ex} {o p : CmpOp} {pos : Pos} (hm : behindInMarks p d = false) (ha : PE X a (tE G W cf x)) (hb : PE X b (tE G W cf y)) (hd : PE X d (tE G W cf z)) : PE X (.Compare a [o, p] [b, d] pos) (tE G W cf (.chn (copIn o) (copIn p) x y z)) := by
  have ho := cmp_ok (G := G) C.K C.un (copIn o)
  rw [cop_in] at ho
  have hp := cmp_ok (G := G) C.K C.un (copIn p)
  rw [cop_in] at hp
  refine PE.imp (pe_chain ho hp ha hb hd (hm := hm)) fun σ H Q ⟨ρ, F, S, env, r, en, q⟩ => ?_
  unfold ev at q
  refine stepE Ext.refl r en q fun d1 S1 v ρ1 H1 e1 r1 n1 _ h1 q1 => ?_
  refine stepE e1 r1 n1 q1 fun d2 S2 v2 ρ2 H2 e2 r2 n2 e12 h2 q2 => ?_
  refine ⟨ρ2, F, S2, d1, d2, r2, RV.mono e12 _ _ h1, h2, ?_⟩
  split at q2
  · rename_i e
    rw [rc_ok e]
    intro v3 ρ3 H3 e23 r3 h3
    refine ⟨true, h3, ?_⟩
    rw [if_pos rfl]
    refine stepE (e2.trans e23) r3 (n2.mono e23) q2 fun d4 S4 v4 ρ4 H4 e4 r4 n4 e34 h4 q4 => ?_
    refine ⟨ρ4, F, S4, d2, d4, r4, RV.mono (e23.trans e34) _ _ h2, h4, ?_⟩
    split at q4
    · rename_i k e'
      rw [rc_ok e']
      exact fun v5 ρ5 H5 e5 r5 h5 => q4 v5 ρ5 H5 (e4.trans e5) r5 h5
    · exact q4.elim
  · rename_i e
    rw [rc_ok e]
    intro v3 ρ3 H3 e23 r3 h3
    refine ⟨false, h3, ?_⟩
    rw [if_neg Bool.false_ne_true]
    rw [← show v3 = _ from h3]
    exact q2 v3 ρ3 H3 (e2.trans e23) r3 h3
  · exact q2.elim
/-! ### argument lists -/
def nst : List Expr → Prop
  | [] => True
  | e :: r => (∀ a p, e ≠ .Starred a p) ∧ nst r
theorem star_cons {e : Expr} {es : List Expr} {v : PySem.Env} (h : ∀ a p, e ≠ .Starred a p) : starEach (e :: es) v = (false, eval e v) :: starEach es v := by
  cases e <;> first | rfl | exact absurd rfl (h _ _)
theorem back_any {pos : Pos} {v : PySem.Env} : ∀ {es : List Expr}, nst es → (backTo pos (starEach es v)).any (·.1) = false
  | [], _ => rfl
  | e :: es, h => by
    rw [star_cons h.1]
    show (false || (backTo pos (starEach es v)).any (·.1)) = false
    rw [back_any h.2]
    rfl
theorem a_nil : PA X [] (tA G W cf .nil) := PA.imp pa_nil fun σ H Q ⟨ρ, F, S, env, r, en, q⟩ => q [] ρ H Ext.refl r rfl
theorem a_cons {e : Expr} {es : List Expr} {x : Ex} {xs : Exs} (hn : ∀ a p, e ≠ .Starred a p) (he : PE X e (tE G W cf x)) (hs : PA X es (tA G W cf xs)) : PA X (e :: es) (tA G W cf (.cons x xs)) := by
  refine PA.imp (pa_cons he hs (star_cons hn)) fun σ H Q ⟨ρ, F, S, env, r, en, q⟩ => ?_
  unfold evs at q
  refine stepE Ext.refl r en q fun d1 S1 v ρ1 H1 e1 r1 n1 _ h1 q1 => ?_
  refine stepA e1 r1 n1 q1 fun ds S2 vs ρ2 H2 e2 r2 n2 e12 h2 q2 => ?_
  exact q2 (v :: vs) ρ2 H2 e2 r2 ⟨v, vs, rfl, RV.mono e12 _ _ h1, h2⟩
theorem e_tup {es : List Expr} {x1 : Nat} {pos : Pos} {xs : Exs} (h : PA X es (tA G W cf xs)) : PE X (.Tuple es x1 pos) (tE G W cf (.tup xs)) := by
  refine PE.imp (pe_tup h) fun σ H Q ⟨ρ, F, S, env, r, en, q⟩ => ?_
  unfold ev at q
  refine stepA Ext.refl r en q fun ds S2 vs ρ2 H2 e2 r2 n2 e12 h2 q2 => ?_
  split at q2
  · rename_i e
    have hl := Nat.le_of_ble_eq_true e
    refine ⟨by rw [← h2.length]; exact hl, fun p hp => ?_⟩
    obtain ⟨r3, e3⟩ := r2.laid (o := .tup vs) hp
    exact q2 _ _ _ (e2.trans e3) r3 (RV.mkT hl (.inl (.inl (upd_same ..))) (RVs.mono e3 _ _ h2))
  · exact q2.elim
theorem newL_exq {ds : List D} (e : Ext ρ0 H0 ρ H) (h : PR (newL ds S) (fun d S' => ∀ v ρ' H', Ext ρ0 H0 ρ' H' → RS G ρ' F H' S' → RV G ρ' H' d v → Q v H') (exQ G W ρ0 F H0 σ)) : okR G ρ F H Q (newL ds S) := okR_of e h newL_nex
theorem e_lst {es : List Expr} {pos : Pos} {xs : Exs} (h : PA X es (tA G W cf xs)) : PE X (.List es pos) (tE G W cf (.lst xs)) := by
  refine PE.imp (pe_lst h) fun σ H Q ⟨ρ, F, S, env, r, en, q⟩ => ?_
  unfold ev at q
  refine stepA Ext.refl r en q fun ds S2 vs ρ2 H2 e2 r2 n2 e12 h2 q2 => ?_
  exact okR.newL r2 h2 (newL_exq e2 q2)
theorem e_dic0 {pos : Pos} : PE X (.Dict [] [] pos) (tE G W cf .dic0) := by
  refine PE.imp pe_dnewK fun σ H Q ⟨ρ, F, S, env, r, en, q⟩ => ?_
  unfold ev at q
  intro p hp
  obtain ⟨r3, e3, v3⟩ := r.push (o := .dK []) (ob := .dk []) hp rfl (fun _ z => nomatch z) ⟨[], upd_same .., .nil⟩
  exact q _ _ _ e3 r3 v3
/-! ### calls -/
theorem pe_callS0 {k : Nat} {f : Addr} {fd : FuncData} {ps : List Str} {sp : Sp} {E : L2.St → XK} {x : Str} {p pos : Pos} (Fk : FnOk X.prog X.w X.K X.mg X.base (L2.CX X.prog X.w) k f fd ps sp) (hr : Room k X.A) (hg : Gl X x) (hm : X.mg x = some (.ref f)) (hk : PySem.W.keepIn X.K (.ref f) = true) (hb : Binds X.K fd ps [])
    (hx : ∀ σ, PassesAt (L2.CX X.prog X.w) X σ (E σ)) (hdb : (x == ("__debug__" : Str)) = false) : PE X (.Call (.Name x p) [] [] pos) (tCallS sp E tNil) :=
  ⟨fun pins s σ H Q I h => wpAny_Call_Name_kw (ld_glob I hg hm (PySem.W.callWith_K0 I.kIn hk (run_fnS (us := []) Fk hr hb (hx σ) I .nil h)) hdb)⟩
theorem call_sp {g : Nat} {ds : List D} {vs : List V} (e2 : Ext ρ0 H0 ρ H) (r2 : RS G ρ F H S) (h2 : RVs G ρ H ds vs) (q2 : PR (cf g ds S) (fun d S' => ∀ v ρ' H', Ext ρ0 H0 ρ' H' → RS G ρ' F H' S' → RV G ρ' H' d v → Q v H') (exQ G W ρ0 F H0 σ)) : spD G cf g vs H Q (WE W σ) := by
  refine ⟨ρ, F, S, ds, r2, h2, ?_⟩
  cases e : cf g ds S with
  | ok d S' =>
    rw [e] at q2
    exact fun v ρ' H' e' r' hv => q2 v ρ' H' (e2.trans e') r' hv
  | ex cc xx S' =>
    rw [e] at q2
    exact fun ρ' H' e' r' cv dx hx => q2 ρ' H' (e2.trans e') r' cv dx hx
  | no =>
    rw [e] at q2
    exact q2
theorem e_call0 (C : Cy c G cf X W sc st) {x : Str} {g : Nat} {p pos : Pos} (hg : gloB sc x = true) (hf : c.fns x = some g) : PE X (.Call (.Name x p) [] [] pos) (tE G W cf (.call g .nil)) := by
  obtain ⟨g1, g2⟩ := gloB_ok C.sc hg
  obtain ⟨k, f, fd, ps, mx, kp, bd, Fk, rm⟩ := C.fns x g hf
  refine PE.imp (pe_callS0 Fk rm g1 mx kp bd (passAt C.tk) g2) fun σ H Q ⟨ρ, F, S, env, r, en, q⟩ => ?_
  unfold ev at q
  exact call_sp (ds := []) Ext.refl r rfl q
theorem e_call (C : Cy c G cf X W sc st) {x : Str} {g : Nat} {e : Expr} {es : List Expr} {xs : Exs} {p pos : Pos} (hg : gloB sc x = true) (hf : c.fns x = some g) (hn : nst (e :: es)) (ha : PA X (e :: es) (tA G W cf xs)) : PE X (.Call (.Name x p) (e :: es) [] pos) (tE G W cf (.call g xs)) := by
  obtain ⟨g1, g2⟩ := gloB_ok C.sc hg
  obtain ⟨k, f, fd, ps, mx, kp, bd, Fk, rm⟩ := C.fns x g hf
  refine PE.imp (pe_callS Fk rm g1 mx kp bd (passAt C.tk) ha g2 (star_cons hn.1) (back_any hn.2)) fun σ H Q ⟨ρ, F, S, env, r, en, q⟩ => ?_
  unfold ev at q
  exact stepA Ext.refl r en q fun ds S2 vs ρ2 H2 e2 r2 n2 e12 h2 q2 => call_sp e2 r2 h2 q2
/-! ### built-in functions -/
def bltOk (G : Gx) (X : Cx) (x : Str) (n : Nat) (b : Blt) : Prop := 0 < n ∧ x ≠ "__name__" ∧
  ((∃ id, bootBuiltins x = some (.builtin id) ∧ CallR X (.builtin id) (rN G (DE.blt b))) ∨ ∃ T, bootBuiltins x = some (.type T) ∧ CallR X (.type T) (rN G (DE.blt b)))
theorem bltFind_in {x : Str} {n : Nat} {b : Blt} : ∀ {l : List (Str × Nat × Blt × Value)}, bltFind x n l = some b → ∃ v, (x, n, b, v) ∈ l
  | [], h => by cases h
  | (y, m, b', v) :: r, h => by
    unfold bltFind at h
    split at h
    · rename_i e
      cases h
      obtain ⟨e1, e2⟩ := Bool.and_eq_true_iff.mp e
      rw [← of_decide_eq_true e1, ← Nat.eq_of_beq_eq_true e2]
      exact ⟨v, List.mem_cons_self⟩
    · obtain ⟨v, hv⟩ := bltFind_in h
      exact ⟨v, List.mem_cons_of_mem _ hv⟩
theorem blt_find (C : Cy c G cf X W sc st) {x : Str} {n : Nat} {b : Blt} (h : bltFind x n bltTab = some b) : bltOk G X x n b := by
  obtain ⟨v, hv⟩ := bltFind_in h
  unfold bltTab at hv
  simp only [List.mem_cons, List.not_mem_nil, or_false, Prod.mk.injEq] at hv
  rcases hv with ⟨rfl, rfl, rfl, _⟩ | ⟨rfl, rfl, rfl, _⟩ | ⟨rfl, rfl, rfl, _⟩ | ⟨rfl, rfl, rfl, _⟩ | ⟨rfl, rfl, rfl, _⟩ | ⟨rfl, rfl, rfl, _⟩ | ⟨rfl, rfl, rfl, _⟩ | ⟨rfl, rfl, rfl, _⟩ | ⟨rfl, rfl, rfl, _⟩ | ⟨rfl, rfl, rfl, _⟩ | ⟨rfl, rfl, rfl, _⟩
  · exact ⟨by decide, by decide, .inl ⟨_, by decide +kernel, len_ok C.K⟩⟩
  · exact ⟨by decide, by decide, .inl ⟨_, by decide +kernel, all_ok C.K C.calm⟩⟩
  · exact ⟨by decide, by decide, .inl ⟨_, by decide +kernel, any_ok C.K C.calm⟩⟩
  · exact ⟨by decide, by decide, .inr ⟨_, by decide +kernel, list_ok C.K⟩⟩
  · exact ⟨by decide, by decide, .inr ⟨_, by decide +kernel, tuple_ok C.K⟩⟩
  · exact ⟨by decide, by decide, .inl ⟨_, by decide +kernel, abs_ok⟩⟩
  · exact ⟨by decide, by decide, .inr ⟨_, by decide +kernel, int_ok⟩⟩
  · exact ⟨by decide, by decide, .inl ⟨_, by decide +kernel, max_ok C.calm⟩⟩
  · exact ⟨by decide, by decide, .inl ⟨_, by decide +kernel, sum_ok C.K C.calm⟩⟩
  · exact ⟨by decide, by decide, .inl ⟨_, by decide +kernel, sorted_ok C.K C.calm⟩⟩
  · exact ⟨by decide, by decide, .inr ⟨_, by decide +kernel, dict_ok C.K C.calm⟩⟩
theorem e_blt (C : Cy c G cf X W sc st) {x : Str} {b : Blt} {es : List Expr} {xs : Exs} {p pos : Pos} (hg : gloB sc x = true) (hf : c.free x = true) (hb : bltFind x es.length bltTab = some b) (hn : nst es) (ha : PA X es (tA G W cf xs)) : PE X (.Call (.Name x p) es [] pos) (tE G W cf (.blt b xs)) := by
  obtain ⟨g1, g2⟩ := gloB_ok C.sc hg
  obtain ⟨h0, h1, h2⟩ := blt_find C hb
  cases es with
  | nil => exact absurd h0 (Nat.lt_irrefl _)
  | cons e es =>
    have rd : ∀ σ H Q, tE G W cf (.blt b xs) σ H Q → tCB (rN G (DE.blt b)) (tA G W cf xs) σ H Q := fun σ H Q ⟨ρ, F, S, env, r, en, q⟩ => by
      unfold ev at q
      exact stepA Ext.refl r en q fun ds S2 vs ρ2 H2 e2 r2 n2 e12 h2 q2 => ⟨ρ2, F, S2, ds, r2, h2, okR_of e2 q2 blt_nex⟩
    rcases h2 with ⟨id, hv, hc⟩ | ⟨T, hv, hc⟩
    · exact PE.imp (pe_callB hc g1 (C.free x hf) hv ha h1 g2 (star_cons hn.1) (back_any hn.2)) rd
    · exact PE.imp (pe_callTy hc g1 (C.free x hf) hv ha h1 g2 (star_cons hn.1) (back_any hn.2)) rd
/-! ### isinstance -/
def tyOk (x : Str) (b : Blt) : Prop := ∃ t, DE.blt b = one (bIs t) ∧ bootBuiltins x = some (.type (tyName t)) ∧ x ≠ "__name__"
theorem tyFind_in {x : Str} {b : Blt} : ∀ {l : List (Str × Ty × Blt)}, tyFind x l = some b → ∃ t, (x, t, b) ∈ l
  | [], h => by cases h
  | (y, t, b') :: r, h => by
    unfold tyFind at h
    split at h
    · rename_i e
      cases h
      rw [← of_decide_eq_true e]
      exact ⟨t, List.mem_cons_self⟩
    · obtain ⟨v, hv⟩ := tyFind_in h
      exact ⟨v, List.mem_cons_of_mem _ hv⟩
theorem ty_find {x : Str} {b : Blt} (h : tyFind x tyTab = some b) : tyOk x b := by
  obtain ⟨v, hv⟩ := tyFind_in h
  unfold tyTab at hv
  simp only [List.mem_cons, List.not_mem_nil, or_false, Prod.mk.injEq] at hv
  rcases hv with ⟨rfl, rfl, rfl⟩ | ⟨rfl, rfl, rfl⟩ | ⟨rfl, rfl, rfl⟩ | ⟨rfl, rfl, rfl⟩ | ⟨rfl, rfl, rfl⟩
  · exact ⟨_, rfl, by decide +kernel, by decide⟩
  · exact ⟨_, rfl, by decide +kernel, by decide⟩
  · exact ⟨_, rfl, by decide +kernel, by decide⟩
  · exact ⟨_, rfl, by decide +kernel, by decide⟩
  · exact ⟨_, rfl, by decide +kernel, by decide⟩
theorem bIs_nex {t : Ty} {a : D} : Nex (bIs t a S) := by
  intro c x S' z
  unfold bIs at z
  split at z <;> cases z
theorem e_isi (C : Cy c G cf X W sc st) {t : Str} {b : Blt} {a : Expr} {y : Ex} {p pt pos : Pos} (hg : gloB sc "isinstance" = true) (hf : c.free "isinstance" = true) (hgt : gloB sc t = true) (hft : c.free t = true) (hb : tyFind t tyTab = some b) (hn : ∀ u q, a ≠ .Starred u q)
    (ha : PE X a (tE G W cf y)) : PE X (.Call (.Name "isinstance" p) [a, .Name t pt] [] pos) (tE G W cf (.blt b (.cons y .nil))) := by
  obtain ⟨g1, g2⟩ := gloB_ok C.sc hg
  obtain ⟨g3, g4⟩ := gloB_ok C.sc hgt
  obtain ⟨T, hT, hv, hx⟩ := ty_find hb
  have pa : PA X [a, .Name t pt] (tCons (tE G W cf y) (tCons (tC (.ty (tyName T))) tNil)) := pa_cons ha (pa_cons (pe_bltn g3 (C.free t hft) hv rfl hx g4) pa_nil) (star_cons hn)
  refine PE.imp (pe_callB call_isi g1 (C.free _ hf) (by decide +kernel) pa (by decide) g2 (star_cons hn) (back_any ⟨fun _ _ z => (nomatch z), trivial⟩)) fun σ H Q ⟨ρ, F, S, env, r, en, q⟩ => ?_
  unfold ev evs at q
  rw [R.bind_assoc] at q
  refine stepE Ext.refl r en q fun d1 S1 v ρ1 H1 e1 r1 n1 _ h1 q1 => ?_
  have q2 : PR (bIs T d1 S1) (fun d S' => ∀ v ρ' H', Ext ρ H ρ' H' → RS G ρ' F H' S' → RV G ρ' H' d v → Q v H') (exQ G W ρ F H σ) := by
    unfold evs at q1
    have q3 : PR (DE.blt b [d1] S1) (fun d S' => ∀ v ρ' H', Ext ρ H ρ' H' → RS G ρ' F H' S' → RV G ρ' H' d v → Q v H') (exQ G W ρ F H σ) := q1
    rw [hT] at q3
    exact q3
  exact isi_ok C.K T ⟨ρ1, F, S1, d1, r1, h1, okR_of e1 q2 bIs_nex⟩
/-! ### len(set(..)) -/
theorem bLenset_nex {a : D} : Nex (bLenset a S) := by
  unfold bLenset
  repeat' (first | (intro c x S' z; cases z; done) | split)
theorem e_lenset (C : Cy c G cf X W sc st) {a : Expr} {y : Ex} {p p2 q pos : Pos} (hg : gloB sc "len" = true) (hf : c.free "len" = true) (hg2 : gloB sc "set" = true) (hf2 : c.free "set" = true) (hn : ∀ u q, a ≠ .Starred u q) (ha : PE X a (tE G W cf y)) :
    PE X (.Call (.Name "len" p) [.Call (.Name "set" p2) [a] [] q] [] pos) (tE G W cf (.blt .lenset (.cons y .nil))) := by
  refine PE.imp (pe_lset C.calm (gloB_ok C.sc hg).1 (C.free _ hf) (gloB_ok C.sc hg2).1 (C.free _ hf2) ha (star_cons hn)) fun σ H Q ⟨ρ, F, S, env, r, en, q⟩ => ?_
  unfold ev evs at q
  rw [R.bind_assoc] at q
  refine stepE Ext.refl r en q fun d1 S1 v ρ1 H1 e1 r1 n1 _ h1 q1 => ?_
  have q2 : PR (bLenset d1 S1) (fun d S' => ∀ v ρ' H', Ext ρ H ρ' H' → RS G ρ' F H' S' → RV G ρ' H' d v → Q v H') (exQ G W ρ F H σ) := by
    unfold evs at q1
    exact q1
  have q3 := okR_of e1 q2 bLenset_nex
  unfold bLenset at q3
  split at q3
  · rename_i ds hd
    split at q3
    · rename_i xs hx
      split at q3
      · rename_i hl
        obtain ⟨_, b, vs, rfl, hs, hv⟩ := h1.tupOf hd
        rw [optStr hv hx] at hs
        rw [C.K]
        exact ⟨b, xs, rfl, hs, Nat.le_of_ble_eq_true hl, q3.same r1 rfl⟩
      · exact q3.elim
    · exact q3.elim
  · exact q3.elim
/-! ### methods -/
def mthV (m : Mth) : String × String × Str := match m with
  | .append => ("list", "list.append", "append")
  | .extend => ("list", "list.extend", "extend")
  | .pop => ("list", "list.pop", "pop")
  | .get1 => ("dict", "dict.get", "get")
structure MthOk (G : Gx) (X : Cx) (m : Mth) : Prop where
  pa : PlainAttrs (mthV m).1
  sl : Slot (mthV m).1 (mthV m).2.2 (mthV m).2.1
  ty : typeOf (.builtin (mthV m).2.1) = pure (.type "method_descriptor")
  mt : MtR X (mthV m).2.1 (rM G m)
theorem mth_ok (C : Cy c G cf X W sc st) (m : Mth) : MthOk G X m := by
  cases m with
  | append => exact ⟨PySem.F.plainAttrs_list, PySem.F.slot_list_append, PySem.F.type_list_append, append_ok⟩
  | extend => exact ⟨PySem.F.plainAttrs_list, PySem.F.slot_list_extend, PySem.F.type_list_extend, extend_ok⟩
  | pop => exact ⟨PySem.F.plainAttrs_list, PySem.F.slot_list_pop, PySem.F.type_list_pop, pop_ok⟩
  | get1 => exact ⟨PySem.F.plainAttrs_dict, PySem.F.slot_dict_get, PySem.F.type_dict_get, get1_ok C.un⟩
theorem mthFind_ok {x : Str} {n : Nat} {m : Mth} (h : mthFind x n mthTab = some m) : x = (mthV m).2.2 ∧ (n = 0 ∨ n = 1) := by
  unfold mthTab at h
  simp only [mthFind] at h
  repeat' split at h
  all_goals first
    | (cases h; rename_i e; obtain ⟨e1, e2⟩ := Bool.and_eq_true_iff.mp e; exact ⟨(of_decide_eq_true e1).symm, by have := Nat.eq_of_beq_eq_true e2; omega⟩)
    | cases h
theorem mthOk_ty {m : Mth} {x : D} {v : V} (hK : X.K = G.K) (r : RS G ρ F H S) (h : mthOk m x S = true) (hv : RV G ρ H x v) : tyV X.K (mthV m).1 v H := by
  have lst : (lstOf S x).isSome = true → tyV X.K "list" v H := fun h => by
    obtain ⟨⟨n, ds⟩, e⟩ := Option.isSome_iff_exists.mp h
    obtain ⟨_, _, a, vs, rfl, _, e2, _⟩ := lstOf_at r hv e
    exact .inl ⟨rfl, vs, .inl (.inl e2)⟩
  cases m with
  | append => exact lst h
  | extend => exact lst h
  | pop => exact lst h
  | get1 =>
    unfold mthOk at h
    simp only at h
    split at h
    · split at h
      · rename_i e
        obtain ⟨a, ws, rfl, _, e2, _⟩ := dk_at r hv e
        exact .inr (.inr (.inl ⟨rfl, .inl ⟨ws, e2⟩⟩))
      · cases h
    · cases h
theorem base_eq {o : Expr} (h : okBase o = true) (name : Str) (v : PySem.Env) (wh : Sem Value) : attributeBase o name v wh = wh := by
  unfold okBase at h
  split at h
  · rfl
  · rfl
  · rename_i f _ _ _ _
    cases f <;> rfl
  · cases h
theorem e_mth (C : Cy c G cf X W sc st) {o : Expr} {es : List Expr} {name : Str} {apos cpos : Pos} {m : Mth} {x : Ex} {xs : Exs} (hb : okBase o = true) (hl : (apos.endLine == cpos.line) = true) (hm : mthFind name es.length mthTab = some m) (hn : nst es)
    (ho : PE X o (tE G W cf x)) (ha : PA X es (tA G W cf xs)) (hxs : es = [] → xs = .nil) : PE X (.Call (.Attribute o name apos) es [] cpos) (tE G W cf (.mth m x xs)) := by
  obtain ⟨rfl, hlen⟩ := mthFind_ok hm
  obtain ⟨pa, sl, ty, mt⟩ := mth_ok C m
  cases es with
  | nil =>
    rw [hxs rfl]
    refine PE.imp (pe_bm0 pa sl ty mt ho (base_eq hb _ _ _) hl) fun σ H Q ⟨ρ, F, S, env, r, en, q⟩ => ?_
    unfold ev at q
    refine stepE Ext.refl r en q fun d1 S1 v ρ1 H1 e1 r1 n1 _ h1 q1 => ?_
    split at q1
    · rename_i e
      exact ⟨mthOk_ty C.K r1 e h1, ρ1, F, S1, d1, [], r1, h1, rfl, okR_of e1 q1 mth_nex⟩
    · exact q1.elim
  | cons e es =>
    have : es = [] := by
      simp only [List.length_cons] at hlen
      exact List.eq_nil_of_length_eq_zero (by omega)
    subst this
    refine PE.imp (pe_bm pa sl ty mt ho ha (base_eq hb _ _ _) ?_ hl (star_cons hn.1) (back_any hn.2)) fun σ H Q ⟨ρ, F, S, env, r, en, q⟩ => ?_
    · rw [star_cons hn.1]
      rfl
    · unfold ev at q
      refine stepE Ext.refl r en q fun d1 S1 v ρ1 H1 e1 r1 n1 _ h1 q1 => ?_
      split at q1
      · rename_i e
        exact ⟨mthOk_ty C.K r1 e h1, stepA e1 r1 n1 q1 fun ds S2 vs ρ2 H2 e2 r2 n2 e12 h2 q2 => ⟨ρ2, F, S2, d1, ds, r2, RV.mono e12 _ _ h1, h2, okR_of e2 q2 mth_nex⟩⟩
      · exact q1.elim
/-! ### subscripts -/
theorem plainIx {b : Expr} (h : ∀ lo hi p, b ≠ .Slice lo hi none p) : PlainIx b := fun o i => by
  unfold subscripted
  split
  · rename_i e1 _
    exact absurd rfl (h _ _ _)
  · rename_i e
    cases e
  · rfl
theorem ofO_nex {r : Option D} : Nex (R.ofO S r) := by
  intro c x S' z
  cases r <;> cases z
theorem e_idx (C : Cy c G cf X W sc st) {a b : Expr} {x y : Ex} {p : Pos} (hp : ∀ lo hi p, b ≠ .Slice lo hi none p) (ha : PE X a (tE G W cf x)) (hb : PE X b (tE G W cf y)) : PE X (.Subscript a b p) (tE G W cf (.idx x y)) := by
  refine PE.imp (pe_ix (idx_ok C.K C.un) ha hb (plainIx hp)) fun σ H Q ⟨ρ, F, S, env, r, en, q⟩ => ?_
  unfold ev at q
  refine stepE Ext.refl r en q fun d S1 v ρ1 H1 e1 r1 n1 _ h1 q1 => ?_
  refine stepE e1 r1 n1 q1 fun d2 S2 v2 ρ2 H2 e2 r2 n2 e12 h2 q2 => ?_
  exact ⟨ρ2, F, S2, d, d2, r2, RV.mono e12 _ _ h1, h2, okR_of e2 q2 ofO_nex⟩
theorem o_none : PO X none (tO G W cf (.cst .non)) := PO.imp po_none fun σ H Q ⟨ρ, F, S, env, r, en, q⟩ => by
  unfold ev at q
  obtain ⟨o, e, q⟩ := q
  cases e
  exact q ρ H Ext.refl r
theorem o_some {e : Expr} {x : Ex} (h : PE X e (tE G W cf x)) : PO X (some e) (tO G W cf (.ci x)) := PO.imp (po_some h) fun σ H Q ⟨ρ, F, S, env, r, en, q⟩ => by
  unfold ev at q
  refine stepE Ext.refl r en q fun d S1 v ρ1 H1 e1 r1 n1 _ h1 q1 => ?_
  split at q1
  · rename_i i
    obtain ⟨o, e, q1⟩ := q1
    cases e
    exact ⟨i, h1, q1 ρ1 H1 e1 r1⟩
  · exact q1.elim
theorem stepO {β : Type} {x : Ex} {f : D → Sto → R β} {ok : β → Sto → Prop} {Q' : Option Int → Hp → Prop} (e0 : Ext ρ0 H0 ρ H) (r : RS G ρ F H S) (en : REnv G ρ H env σ) (h : PR ((ev cf x env S).bind f) ok (exQ G W ρ0 F H0 σ))
    (hb : ∀ d S1, PR (f d S1) ok (exQ G W ρ0 F H0 σ) → ∃ k, partOf d = some k)
    (k : ∀ d b S1 ρ1 H1, partOf d = some b → Ext ρ0 H0 ρ1 H1 → RS G ρ1 F H1 S1 → REnv G ρ1 H1 env σ → Ext ρ H ρ1 H1 → PR (f d S1) ok (exQ G W ρ0 F H0 σ) → Q' b H1) : tO G W cf x σ H Q' := by
  refine ⟨ρ, F, S, env, r, en, ?_⟩
  cases q : ev cf x env S with
  | ok d S1 =>
    rw [q] at h
    obtain ⟨b, hb⟩ := hb d S1 h
    exact ⟨b, hb, fun ρ' H' e' r' => k d b S1 ρ' H' hb (e0.trans e') r' (en.mono e') e' h⟩
  | ex c y S1 =>
    rw [q] at h
    exact exQ.mono e0 h
  | no =>
    rw [q] at h
    exact h
theorem slc_part {a l h : D} {ok : D → Sto → Prop} {ex : Nat → D → Sto → Prop} (q : PR (slc a l h S) ok ex) : (∃ k, partOf l = some k) ∧ ∃ k, partOf h = some k := by
  unfold slc at q
  split at q
  · rename_i e1 e2
    exact ⟨⟨_, e1⟩, _, e2⟩
  · exact q.elim
theorem e_slc (C : Cy c G cf X W sc st) {a : Expr} {lo hi : Option Expr} {x y z : Ex} {p p2 : Pos} (ha : PE X a (tE G W cf x)) (hl : PO X lo (tO G W cf y)) (hh : PO X hi (tO G W cf z)) (hpart : ∀ env S (d : D) S', ev cf y env S = .ok d S' → ∃ k, partOf d = some k) :
    PE X (.Subscript a (.Slice lo hi none p2) p) (tE G W cf (.slc x y z)) := by
  refine PE.imp (pe_slice (slc_ok C.K) ha hl hh) fun σ H Q ⟨ρ, F, S, env, r, en, q⟩ => ?_
  unfold ev at q
  refine stepE Ext.refl r en q fun d S1 v ρ1 H1 e1 r1 n1 _ h1 q1 => ?_
  cases qy : ev cf y env S1 with
  | ok d2 S2 =>
    obtain ⟨k2, hk2⟩ := hpart env S1 d2 S2 qy
    rw [qy] at q1
    refine ⟨ρ1, F, S1, env, r1, n1, ?_⟩
    rw [qy]
    refine ⟨k2, hk2, fun ρ2 H2 e12 r2 => ?_⟩
    refine stepO (e1.trans e12) r2 (n1.mono e12) q1 (fun d S q => (slc_part q).2) fun d3 k3 S3 ρ3 H3 hk3 e3 r3 n3 e23 q3 => ?_
    exact ⟨ρ3, F, S3, d, d2, d3, r3, RV.mono (e12.trans e23) _ _ h1, hk2, hk3, okR_of e3 q3 slc_nex⟩
  | ex cc xx S2 =>
    rw [qy] at q1
    refine ⟨ρ1, F, S1, env, r1, n1, ?_⟩
    rw [qy]
    exact exQ.mono e1 q1
  | no =>
    rw [qy] at q1
    exact q1.elim
theorem part_non {env : Env} {d : D} (h : ev cf (.cst .non) env S = .ok d S') : ∃ k, partOf d = some k := by
  unfold ev at h
  cases h
  exact ⟨_, rfl⟩
theorem part_ci {x : Ex} {env : Env} {d : D} (h : ev cf (.ci x) env S = .ok d S') : ∃ k, partOf d = some k := by
  unfold ev at h
  cases q : ev cf x env S with
  | ok d1 S1 =>
    rw [q] at h
    simp only [R.bind] at h
    split at h
    · cases h
      exact ⟨_, rfl⟩
    · cases h
  | ex cc xx S2 =>
    rw [q] at h
    cases h
  | no =>
    rw [q] at h
    cases h
theorem e_rev (C : Cy c G cf X W sc st) {e : Expr} {x : Ex} {k : Nat} {p1 p2 p3 pos : Pos} (he : PE X e (tE G W cf x)) : PE X (.Subscript e (.Slice none none (some (.UnaryOp .USub (.Constant (.int 1) k p1) p2)) p3) pos) (tE G W cf (.rev x)) := by
  refine PE.imp (pe_revL he) fun σ H Q ⟨ρ, F, S, env, r, en, q⟩ => ?_
  unfold ev at q
  refine stepE Ext.refl r en q fun d S1 v ρ1 H1 e1 r1 n1 _ h1 q1 => ?_
  exact rev_ok C.K ⟨ρ1, F, S1, d, r1, h1, okR_of e1 q1 rev_nex⟩
end
end DE
/-! DE8: tests, iterators, targets, comprehensions. -/
namespace DE
open PySem PySem.Spec PyProof.Rows L2
section
variable {G : Gx} {W : WX} {cf : CF} {ρ ρ0 ρ1 ρ' : List Addr} {H H0 H1 H' : Hp} {F : Frm} {S S' S1 : Sto} {Q : VK} {X : Cx} {σ : L2.St} {env : Env}
variable {c : Tc} {sc : Scope} {st : Str → Bool}

/-! ### tests -/
theorem PW.imp {e : Expr} {t t' : TT} (h : PW X e t) (i : ∀ σ H Q, t' σ H Q → t σ H Q) : PW X e t' := ⟨fun wh pins s σ H Q I q => h.run wh pins s σ H Q I (i σ H Q q)⟩
theorem tT_tE {x : Ex} {Q : Bool → Hp → Prop} (h : tT G W cf x σ H Q) : tE G W cf x σ H fun v H' => ∃ k, v = .bl k ∧ Q k H' := by
  obtain ⟨ρ, F, S, env, r, en, q⟩ := h
  refine ⟨ρ, F, S, env, r, en, ?_⟩
  cases e : ev cf x env S with
  | ok d S' =>
    rw [e] at q
    obtain ⟨k, rfl, q⟩ := q
    exact fun v ρ' H' e' r' hv => ⟨k, hv, q ρ' H' e' r'⟩
  | ex cc xx S' =>
    rw [e] at q
    exact q
  | no =>
    rw [e] at q
    exact q
theorem t_val {e : Expr} {x : Ex} (h : PE X e (tE G W cf x)) (he : ∀ whole, isTrue e X.env whole = (do let v ← whole; standAt e.pos; holding [v] (truthy v))) : PT X e (tT G W cf x) := PT.imp (pt_val h he) fun _ _ _ q => tT_tE q
theorem rdCmp {o : CmpOp} {x y : Ex} (h : tE G W cf (.cmp (copIn o) x y) σ H Q) : tOp (r2 G (rc (cmp (copIn o)))) (tE G W cf x) (tE G W cf y) σ H Q := by
  obtain ⟨ρ, F, S, env, r, en, q⟩ := h
  unfold ev at q
  refine stepE Ext.refl r en q fun d S1 v ρ1 H1 e1 r1 n1 _ h1 q1 => ?_
  refine stepE e1 r1 n1 q1 fun d2 S2 v2 ρ2 H2 e2 r2 n2 e12 h2 q2 => ?_
  exact ⟨ρ2, F, S2, d, d2, r2, RV.mono e12 _ _ h1, h2, okR_of e2 q2 rc_nex⟩
theorem t_cmp (C : Cy c G cf X W sc st) {a b : Expr} {x y : Ex} {o : CmpOp} {p : Pos} (hm : behindInMarks o b = false) (ha : PE X a (tE G W cf x)) (hb : PE X b (tE G W cf y)) : PT X (.Compare a [o] [b] p) (tT G W cf (.cmp (copIn o) x y)) := by
  have ho := cmp_ok (G := G) C.K C.un (copIn o)
  rw [cop_in] at ho
  exact PT.imp (pt_cmpR ho ha hb hm) fun σ H Q q => rdCmp (tT_tE q)
theorem t_chn (C : Cy c G cf X W sc st) {a b d : Expr} {x y z : Ex} {o p : CmpOp} {pos : Pos} (hm : behindInMarks p d = false) (ha : PE X a (tE G W cf x)) (hb : PE X b (tE G W cf y)) (hd : PE X d (tE G W cf z)) : PT X (.Compare a [o, p] [b, d] pos) (tT G W cf (.chn (copIn o) (copIn p) x y z)) := by
  have ho := cmp_ok (G := G) C.K C.un (copIn o)
  rw [cop_in] at ho
  have hp := cmp_ok (G := G) C.K C.un (copIn p)
  rw [cop_in] at hp
  refine PT.imp (pt_chain ho hp ha hb hd (hm := hm)) fun σ H Q q => ?_
  obtain ⟨ρ, F, S, env, r, en, q⟩ := tT_tE q
  unfold ev at q
  refine stepE Ext.refl r en q fun d1 S1 v ρ1 H1 e1 r1 n1 _ h1 q1 => ?_
  refine stepE e1 r1 n1 q1 fun d2 S2 v2 ρ2 H2 e2 r2 n2 e12 h2 q2 => ?_
  refine ⟨ρ2, F, S2, d1, d2, r2, RV.mono e12 _ _ h1, h2, ?_⟩
  split at q2
  · rename_i e
    rw [rc_ok e]
    intro v3 ρ3 H3 e23 r3 h3
    refine ⟨true, h3, ?_⟩
    rw [if_pos rfl]
    refine stepE (e2.trans e23) r3 (n2.mono e23) q2 fun d4 S4 v4 ρ4 H4 e4 r4 n4 e34 h4 q4 => ?_
    refine ⟨ρ4, F, S4, d2, d4, r4, RV.mono (e23.trans e34) _ _ h2, h4, ?_⟩
    split at q4
    · rename_i k e'
      rw [rc_ok e']
      exact fun v5 ρ5 H5 e5 r5 h5 => q4 v5 ρ5 H5 (e4.trans e5) r5 h5
    · exact q4.elim
  · rename_i e
    rw [rc_ok e]
    intro v3 ρ3 H3 e23 r3 h3
    refine ⟨false, h3, ?_⟩
    rw [if_neg Bool.false_ne_true]
    rw [← show v3 = _ from h3]
    exact q2 v3 ρ3 H3 (e2.trans e23) r3 h3
  · exact q2.elim
/-- the rest of the way is a test -/
theorem tailT {x : Ex} {Q : Bool → Hp → Prop} (e : Ext ρ0 H0 ρ H) (r : RS G ρ F H S) (en : REnv G ρ H env σ) (h : PR (ev cf x env S) (fun d S' => ∃ k, d = .bl k ∧ ∀ ρ' H', Ext ρ0 H0 ρ' H' → RS G ρ' F H' S' → Q k H') (exQ G W ρ0 F H0 σ)) : tT G W cf x σ H Q := by
  refine ⟨ρ, F, S, env, r, en, ?_⟩
  cases q : ev cf x env S with
  | ok d S' =>
    rw [q] at h
    obtain ⟨k, e1, h⟩ := h
    exact ⟨k, e1, fun ρ' H' e' r' => h ρ' H' (e.trans e') r'⟩
  | ex cc xx S' =>
    rw [q] at h
    exact exQ.mono e h
  | no =>
    rw [q] at h
    exact h
theorem t_not {a : Expr} {x : Ex} {p : Pos} (ha : PT X a (tT G W cf x)) : PT X (.UnaryOp .Not a p) (tT G W cf (.not x)) := by
  refine PT.imp (pt_not ha) fun σ H Q ⟨ρ, F, S, env, r, en, q⟩ => ?_
  unfold ev at q
  refine stepT Ext.refl r en q (fun d S1 q => ?_) fun k S1 ρ1 H1 e1 r1 n1 _ q1 => ?_
  · split at q
    · exact ⟨_, rfl⟩
    · exact q.elim
  · obtain ⟨k', e', q1⟩ := q1
    cases e'
    exact q1 ρ1 H1 e1 r1
theorem t_and {a b : Expr} {rest : List Expr} {x y : Ex} {p : Pos} (ha : PT X a (tT G W cf x)) (hb : PW X (.BoolOp .And (b :: rest) p) (tT G W cf y)) : PW X (.BoolOp .And (a :: b :: rest) p) (tT G W cf (.and x y)) := by
  refine PW.imp (pw_and ha hb) fun σ H Q ⟨ρ, F, S, env, r, en, q⟩ => ?_
  unfold ev at q
  refine stepT Ext.refl r en q (fun d S1 q => ?_) fun k S1 ρ1 H1 e1 r1 n1 _ q1 => ?_
  · split at q
    · exact ⟨_, rfl⟩
    · exact ⟨_, rfl⟩
    · exact q.elim
  · cases k with
    | true =>
      rw [if_pos rfl]
      exact tailT e1 r1 n1 q1
    | false =>
      rw [if_neg Bool.false_ne_true]
      obtain ⟨k', e', q1⟩ := q1
      cases e'
      exact q1 ρ1 H1 e1 r1
theorem t_or {a b : Expr} {rest : List Expr} {x y : Ex} {p : Pos} (ha : PT X a (tT G W cf x)) (hb : PW X (.BoolOp .Or (b :: rest) p) (tT G W cf y)) : PW X (.BoolOp .Or (a :: b :: rest) p) (tT G W cf (.or x y)) := by
  refine PW.imp (pw_or ha hb) fun σ H Q ⟨ρ, F, S, env, r, en, q⟩ => ?_
  unfold ev at q
  refine stepT Ext.refl r en q (fun d S1 q => ?_) fun k S1 ρ1 H1 e1 r1 n1 _ q1 => ?_
  · split at q
    · exact ⟨_, rfl⟩
    · exact ⟨_, rfl⟩
    · exact q.elim
  · cases k with
    | true =>
      rw [if_pos rfl]
      obtain ⟨k', e', q1⟩ := q1
      cases e'
      exact q1 ρ1 H1 e1 r1
    | false =>
      rw [if_neg Bool.false_ne_true]
      exact tailT e1 r1 n1 q1

/-! ### targets -/
def Tg.sl : Tg → List Nat
  | .v i => [i]
  | .t is => is
def setsV (σ : L2.St) : List Nat → List V → L2.St
  | i :: is, v :: vs => setsV (σ.set i (some v)) is vs
  | _, _ => σ
def tG (G : Gx) (g : Tg) : TG := fun v σ H Q => match g with
  | .v i => Q (σ.set i (some v)) H
  | .t is => ∃ a xs, v = .ref a ∧ SqT G.K H a xs ∧ xs.length = is.length ∧ Q (setsV σ is xs) H
def gS (is : List Nat) : TGs := fun xs σ H Q => xs.length = is.length ∧ Q (setsV σ is xs) H
theorem PG.imp {e : Expr} {t t' : TG} (h : PG X e t) (i : ∀ v σ H Q, t' v σ H Q → t v σ H Q) : PG X e t' := ⟨fun pins s σ H v u Q I r q => h.run pins s σ H v u Q I r (i v σ H Q q)⟩
theorem PGs.imp {e : List Expr} {t t' : TGs} (h : PGs X e t) (i : ∀ v σ H Q, t' v σ H Q → t v σ H Q) : PGs X e t' := ⟨fun pins s σ H v u Q I r q => h.run pins s σ H v u Q I r (i v σ H Q q)⟩
theorem slots_ok (C : Cy c G cf X W sc st) : ∀ {es : List Expr} {is : List Nat}, slots c.N st es = some is → PGs X es (gS is) ∧ (assignEach es X.env).length = is.length ∧ (assignEach es X.env).findIdx? (·.1) = none
  | [], is, h => by
    cases h
    exact ⟨PGs.imp pgs_nil fun v σ H Q ⟨h1, h2⟩ => by
      have : v = [] := List.eq_nil_of_length_eq_zero h1
      subst this
      exact ⟨rfl, h2⟩, rfl, rfl⟩
  | e :: r, is, h => by
    cases e with
    | Name x p =>
      unfold slots at h
      split at h
      · rename_i hs
        split at h
        · rename_i i hi
          obtain ⟨js, hj, rfl⟩ := Option.map_eq_some_iff.mp h
          obtain ⟨h1, h2, h3⟩ := slots_ok C hj
          obtain ⟨l1, l2⟩ := C.st x hs
          refine ⟨PGs.imp (pgs_cons (pg_name (by rw [C.N]; exact C.nd) (C.slot hi) l1 l2) h1) fun v σ H Q ⟨q1, q2⟩ => ?_, ?_, ?_⟩
          · cases v with
            | nil => cases q1
            | cons v vs => exact ⟨v, vs, rfl, by simpa using q1, q2⟩
          · show (assignEach r X.env).length + 1 = _
            rw [h2]
            rfl
          · show List.findIdx? (·.1) ((false, assign (.Name x p) X.env) :: assignEach r X.env) = none
            rw [List.findIdx?_cons, h3]
            rfl
        · cases h
      · cases h
    | _ => cases h
theorem g_ok (C : Cy c G cf X W sc st) {e : Expr} {g : Tg} (h : trT c.N st e = some g) : PG X e (tG G g) := by
  cases e with
  | Name x p =>
    simp only [trT] at h
    split at h
    · rename_i hs
      obtain ⟨i, hi, rfl⟩ := Option.map_eq_some_iff.mp h
      obtain ⟨l1, l2⟩ := C.st x hs
      exact PG.imp (pg_name (by rw [C.N]; exact C.nd) (C.slot hi) l1 l2) fun v σ H Q q => q
    · cases h
  | Tuple es k p =>
    simp only [trT] at h
    obtain ⟨is, hi, rfl⟩ := Option.map_eq_some_iff.mp h
    obtain ⟨h1, h2, h3⟩ := slots_ok C hi
    refine PG.imp (pg_tup C.calm h1 h2 h3) fun v σ H Q ⟨a, xs, q1, q2, q3, q4⟩ => ?_
    rw [← C.K] at q2
    exact ⟨a, xs, q1, q2, q3, q3, q4⟩
  | _ => cases h
theorem REnv.set {i : Nat} {d : D} {v : V} (en : REnv G ρ H env σ) (h : RV G ρ H d v) : REnv G ρ H (env.set i (some d)) (σ.set i (some v)) := by
  refine ⟨by rw [List.length_set, List.length_set]; exact en.1, fun j d' q => ?_⟩
  by_cases e : i = j
  · subst e
    have hl := (List.getElem?_eq_some_iff.mp q).1
    rw [List.length_set] at hl
    rw [List.getElem?_set_self hl] at q
    cases q
    exact ⟨v, by rw [List.getElem?_set_self (by rw [← en.1]; exact hl)], h⟩
  · rw [List.getElem?_set_ne e] at q ⊢
    exact en.2 j d' q
theorem REnv.sets : ∀ {is : List Nat} {ds : List D} {vs : List V} {env : Env} {σ : L2.St}, REnv G ρ H env σ → RVs G ρ H ds vs → REnv G ρ H (setMany env is ds) (setsV σ is vs)
  | [], ds, vs, env, σ, en, h => by
    unfold setMany setsV
    exact en
  | i :: is, [], vs, env, σ, en, h => by
    rw [show vs = [] from h]
    exact en
  | i :: is, d :: ds, vs, env, σ, en, h => by
    obtain ⟨w, ws, rfl, h2, h3⟩ := h
    exact REnv.sets (is := is) (en.set h2) h3
theorem bind_ok {g : Tg} {d : D} {v : V} {env' : Env} {R : L2.St → Hp → Prop} (en : REnv G ρ H env σ) (hv : RV G ρ H d v) (h : bindT g d env = some env') (q : ∀ xs, REnv G ρ H env' (setsV σ g.sl xs) → R (setsV σ g.sl xs) H) : tG G g v σ H R := by
  cases g with
  | v i =>
    cases h
    exact q [v] (en.set hv)
  | t is =>
    unfold bindT at h
    simp only at h
    split at h
    · rename_i ds e
      split at h
      · rename_i el
        cases h
        obtain ⟨_, a, vs, rfl, h2, h3⟩ := hv.tupOf e
        refine ⟨a, vs, rfl, h2, ?_, q vs (en.sets h3)⟩
        rw [← h3.length]
        exact Nat.eq_of_beq_eq_true el
      · cases h
    · cases h
theorem wipe_set {i : Nat} {o : Option V} : ∀ {vs : List Nat} {σ : L2.St}, i ∈ vs → L2.wipe (σ.set i o) vs = L2.wipe σ vs
  | [], _, h => absurd h (by simp)
  | v :: vs, σ, h => by
    show (L2.wipe (σ.set i o) vs).set v none = (L2.wipe σ vs).set v none
    by_cases e : i ∈ vs
    · rw [wipe_set e]
    · rcases List.mem_cons.mp h with rfl | h
      · have com : ∀ (vs : List Nat) (σ : L2.St), i ∉ vs → L2.wipe (σ.set i o) vs = (L2.wipe σ vs).set i o := fun vs => by
          induction vs with
          | nil => intro σ _; rfl
          | cons w ws ih =>
            intro σ hn
            show (L2.wipe (σ.set i o) ws).set w none = ((L2.wipe σ ws).set w none).set i o
            rw [ih σ fun z => hn (List.mem_cons_of_mem _ z), List.set_comm _ _ (fun z : i = w => hn (z ▸ List.mem_cons_self))]
        rw [com vs σ e, List.set_set]
      · exact absurd h e
theorem wipe_sets {vs : List Nat} : ∀ {is : List Nat} {xs : List V} {σ : L2.St}, (∀ i ∈ is, i ∈ vs) → L2.wipe (setsV σ is xs) vs = L2.wipe σ vs
  | [], xs, σ, h => by
    unfold setsV
    rfl
  | i :: is, [], σ, h => rfl
  | i :: is, x :: xs, σ, h => by
    show L2.wipe (setsV (σ.set i (some x)) is xs) vs = _
    rw [wipe_sets fun j hj => h j (List.mem_cons_of_mem _ hj), wipe_set (h i List.mem_cons_self)]
theorem wipe_idem {vs : List Nat} {σ : L2.St} : L2.wipe (L2.wipe σ vs) vs = L2.wipe σ vs := by
  have none_at : ∀ (vs : List Nat) (σ : L2.St) (i : Nat), i ∈ vs → i < σ.length → (L2.wipe σ vs)[i]? = some none := fun vs => by
    induction vs with
    | nil => intro σ i h; exact absurd h (by simp)
    | cons w ws ih =>
      intro σ i h hl
      show ((L2.wipe σ ws).set w none)[i]? = some none
      by_cases e : w = i
      · subst e
        rw [List.getElem?_set_self (by rw [wipe_length]; exact hl)]
      · rw [List.getElem?_set_ne e]
        rcases List.mem_cons.mp h with rfl | h
        · exact absurd rfl e
        · exact ih σ i h hl
  have ke : ∀ (vs : List Nat) (σ : L2.St) (i : Nat), i ∉ vs → (L2.wipe σ vs)[i]? = σ[i]? := fun vs => by
    induction vs with
    | nil => intro σ i _; rfl
    | cons w ws ih =>
      intro σ i h
      show ((L2.wipe σ ws).set w none)[i]? = _
      rw [List.getElem?_set_ne (fun e => h (by rw [← e]; exact List.mem_cons_self)), ih σ i fun z => h (List.mem_cons_of_mem _ z)]
  refine List.ext_getElem? fun i => ?_
  by_cases h : i ∈ vs
  · by_cases hl : i < σ.length
    · rw [none_at vs _ i h (by rw [wipe_length]; exact hl), none_at vs _ i h hl]
    · rw [List.getElem?_eq_none (by rw [wipe_length, wipe_length]; omega), List.getElem?_eq_none (by rw [wipe_length]; omega)]
  · rw [ke vs _ i h]
theorem REnv.wipe (en : REnv G ρ H env σ) : ∀ vs : List Nat, REnv G ρ H (DE.wipe env vs) (L2.wipe σ vs)
  | [] => en
  | v :: vs => by
    have ih := REnv.wipe en vs
    refine ⟨?_, fun i d q => ?_⟩
    · show ((DE.wipe env vs).set v none).length = ((L2.wipe σ vs).set v none).length
      rw [List.length_set, List.length_set]
      exact ih.1
    · have q : ((DE.wipe env vs).set v none)[i]? = some (some d) := q
      show ∃ w, ((L2.wipe σ vs).set v none)[i]? = some (some w) ∧ _
      by_cases e : v = i
      · subst e
        have hl := (List.getElem?_eq_some_iff.mp q).1
        rw [List.length_set] at hl
        rw [List.getElem?_set_self hl] at q
        cases q
      · rw [List.getElem?_set_ne e] at q ⊢
        exact ih.2 i d q

/-! ### what a loop walks -/
def ItR (G : Gx) (ρ : List Addr) (H : Hp) (iv : IV) (J : It) : Prop := ∀ ρ' H' F S i, Ext ρ H ρ' H' → RS G ρ' F H' S → match ivGet S i iv with
  | none => True
  | some none => J.stop i H'
  | some (some d) => J.go i H' ∧ ∀ x H'', J.yld i H' x H'' → RS G ρ' F H'' S ∧ Ext ρ' H' ρ' H'' ∧ RV G ρ' H'' d x
def tI (G : Gx) (W : WX) (cf : CF) (x : Itx) : TI := fun σ H R => ∃ ρ F S env, RS G ρ F H S ∧ REnv G ρ H env σ ∧
  PR (evi cf x env S) (fun iv S' => ∀ J ρ' H', Ext ρ H ρ' H' → RS G ρ' F H' S' → ItR G ρ' H' iv J → R J H') (exQ G W ρ F H σ)
theorem it_fix {ds : List D} {a : Addr} {vs : List V} (hs : SqT G.K H a vs) (hv : RVs G ρ H ds vs) : ItR G ρ H (.fix ds) (Itt G.K a) := fun ρ' H' F S i e r => by
  have hs' := e.sqT hs
  have hv' := RVs.mono e _ _ hv
  unfold ivGet
  cases q : ds[i]? with
  | none =>
    refine ⟨vs, hs', ?_⟩
    rw [← hv'.length]
    exact List.getElem?_eq_none_iff.mp q
  | some d =>
    obtain ⟨v, h1, h2⟩ := hv'.get q
    refine ⟨⟨vs, v, hs', h1⟩, fun x H'' y => ?_⟩
    obtain ⟨rfl, y⟩ := y
    have := y vs hs'
    rw [h1] at this
    cases this
    exact ⟨r, Ext.refl, h2⟩
theorem it_dyn {n : Nat} {a : Addr} (ha : ρ[n]? = some a) : ItR G ρ H (.dyn n) (Itl G.K a) := fun ρ' H' F S i e r => by
  have ha' := e.get ha
  have key : ∀ ds : List D, (S[n]? = some (.lst ds) ∨ S[n]? = some (.fl ds)) → match ds[i]? with
      | none => (Itl G.K a).stop i H'
      | some d => (Itl G.K a).go i H' ∧ ∀ x H'', (Itl G.K a).yld i H' x H'' → RS G ρ' F H'' S ∧ Ext ρ' H' ρ' H'' ∧ RV G ρ' H'' d x := fun ds hd => by
    obtain ⟨a', vs, e1, hv, hs⟩ := seqRef_at r (v := .ref a) ⟨a, ha', rfl⟩ hd
    cases e1
    cases q : ds[i]? with
    | none =>
      refine ⟨vs, hs, ?_⟩
      rw [← hv.length]
      exact List.getElem?_eq_none_iff.mp q
    | some d =>
      obtain ⟨v, h1, h2⟩ := hv.get q
      refine ⟨⟨vs, v, hs, h1⟩, fun x H'' y => ?_⟩
      obtain ⟨rfl, y⟩ := y
      have := y vs hs
      rw [h1] at this
      cases this
      exact ⟨r, Ext.refl, h2⟩
  unfold ivGet
  cases hS : S[n]? with
  | none => trivial
  | some o =>
    cases o with
    | lst ds =>
      have k := key ds (.inl hS)
      cases h : ds[i]? with
      | none =>
        rw [h] at k
        simp only [h]
        exact k
      | some d =>
        rw [h] at k
        simp only [h]
        exact k
    | fl ds =>
      have k := key ds (.inr hS)
      cases h : ds[i]? with
      | none =>
        rw [h] at k
        simp only [h]
        exact k
      | some d =>
        rw [h] at k
        simp only [h]
        exact k
    | dk _ => trivial
theorem chars_get {x : Str} {i : Nat} : (chars x)[i]? = (x.cps[i]?).map fun c => D.str ⟨#[c]⟩ := by
  unfold chars
  rw [List.getElem?_map, Array.getElem?_toList]
theorem it_str {x : Str} : ItR G ρ H (.fix (chars x)) (Its x) := fun ρ' H' F S i e r => by
  unfold ivGet
  simp only [chars_get]
  cases q : x.cps[i]? with
  | none => exact Array.getElem?_eq_none_iff.mp q
  | some k =>
    refine ⟨(Array.getElem?_eq_some_iff.mp q).1, fun y H'' z => ?_⟩
    obtain ⟨rfl, k', e1, rfl⟩ := z
    rw [q] at e1
    cases e1
    exact ⟨r, Ext.refl, rfl⟩
theorem it_rng {n : Nat} : ItR G ρ H (.fix ((List.range n).map fun (i : Nat) => D.int i)) (Itr 0 n) := fun ρ' H' F S i e r => by
  unfold ivGet
  simp only [List.getElem?_map]
  by_cases h : i < n
  · rw [List.getElem?_range h]
    refine ⟨h, fun y H'' z => ?_⟩
    obtain ⟨rfl, rfl⟩ := z
    refine ⟨r, Ext.refl, ?_⟩
    show V.int _ = V.int _
    rw [Int.zero_add]
  · rw [List.getElem?_eq_none (by rw [List.length_range]; omega)]
    show n ≤ i
    omega
theorem lst_at {n : Nat} {a : Addr} {ds : List D} (r : RS G ρ F H S) (ha : ρ[n]? = some a) (hd : S[n]? = some (.lst ds)) : ∃ vs, SqL G.K H a vs ∧ RVs G ρ H ds vs := by
  obtain ⟨a', vs, e1, hv, hs⟩ := seqRef_at r (v := .ref a) ⟨a, ha, rfl⟩ (.inl hd)
  cases e1
  exact ⟨vs, hs, hv⟩
theorem it_enu {n : Nat} {a : Addr} (ha : ρ[n]? = some a) : ItR G ρ H (.enu n) (Ite G.K a) := fun ρ' H' F S i e r => by
  have ha' := e.get ha
  unfold ivGet
  cases hS : S[n]? with
  | none => trivial
  | some o =>
    cases o with
    | fl _ => trivial
    | dk _ => trivial
    | lst ds =>
      obtain ⟨vs, hs, hv⟩ := lst_at r ha' hS
      simp only
      cases q : ds[i]? with
      | none =>
        refine ⟨vs, hs, ?_⟩
        rw [← hv.length]
        exact List.getElem?_eq_none_iff.mp q
      | some d =>
        obtain ⟨v, h1, h2⟩ := hv.get q
        refine ⟨⟨vs, v, hs, h1⟩, fun x H'' y => ?_⟩
        obtain ⟨T, z, rfl, hT, rfl, y⟩ := y
        have := y vs hs
        rw [h1] at this
        cases this
        obtain ⟨r3, e3⟩ := r.laid (o := .tup [.int (i : Nat), v]) hT
        exact ⟨r3, e3, RV.mkT (by show 2 ≤ sizeLine; decide) (.inl (.inl upd_same)) ⟨_, _, rfl, rfl, _, _, rfl, RV.mono e3 _ _ h2, rfl⟩⟩
/-- one side of a zip -/
def side (G : Gx) (ρ : List Addr) (H : Hp) (S : Sto) (i : Nat) (sq : Hp → List V → Prop) (g : Option (Option D)) : Prop := match g with
  | none => True
  | some none => ∃ vs, sq H vs ∧ vs.length ≤ i
  | some (some d) => ∃ vs v, sq H vs ∧ vs[i]? = some v ∧ RV G ρ H d v
theorem side_dyn {n : Nat} {a : Addr} {i : Nat} (r : RS G ρ F H S) (ha : ρ[n]? = some a) : side G ρ H S i (fun H vs => SqL G.K H a vs) (ivGet S i (.dyn n)) := by
  unfold ivGet
  have key : ∀ ds : List D, (S[n]? = some (.lst ds) ∨ S[n]? = some (.fl ds)) → side G ρ H S i (fun H vs => SqL G.K H a vs) (some ds[i]?) := fun ds hd => by
    obtain ⟨a', vs, e1, hv, hs⟩ := seqRef_at r (v := .ref a) ⟨a, ha, rfl⟩ hd
    cases e1
    cases q : ds[i]? with
    | none =>
      refine ⟨vs, hs, ?_⟩
      rw [← hv.length]
      exact List.getElem?_eq_none_iff.mp q
    | some d =>
      obtain ⟨v, h1, h2⟩ := hv.get q
      exact ⟨vs, v, hs, h1, h2⟩
  cases hS : S[n]? with
  | none => trivial
  | some o =>
    cases o with
    | lst ds => exact key ds (.inl hS)
    | fl ds => exact key ds (.inr hS)
    | dk _ => trivial
theorem side_fix {ds : List D} {a : Addr} {vs : List V} {i : Nat} (hs : SqT G.K H a vs) (hv : RVs G ρ H ds vs) : side G ρ H S i (fun H vs => SqT G.K H a vs) (ivGet S i (.fix ds)) := by
  unfold ivGet
  cases q : ds[i]? with
  | none =>
    refine ⟨vs, hs, ?_⟩
    rw [← hv.length]
    exact List.getElem?_eq_none_iff.mp q
  | some d =>
    obtain ⟨v, h1, h2⟩ := hv.get q
    exact ⟨vs, v, hs, h1, h2⟩
theorem it_zip {s1 s2 : Hp → List V → Prop} {J : It} {ga gb : Option (Option D)} {i : Nat} (r : RS G ρ F H S) (h1 : side G ρ H S i s1 ga) (h2 : side G ρ H S i s2 gb)
    (go : (∃ xs ys x y, s1 H xs ∧ s2 H ys ∧ xs[i]? = some x ∧ ys[i]? = some y) → J.go i H) (yl : ∀ v H', J.yld i H v H' → ∃ T x y, v = .ref T ∧ H T = none ∧ H' = upd H T (.tup [x, y]) ∧ (∀ xs, s1 H xs → xs[i]? = some x) ∧ ∀ ys, s2 H ys → ys[i]? = some y)
    (stp : (∃ xs ys, s1 H xs ∧ s2 H ys ∧ (xs.length ≤ i ∨ ys.length ≤ i)) → J.stop i H) : match (match ga, gb with
      | some (some x), some (some y) => some (some (DE.mkT [x, y]))
      | some _, some _ => some none
      | _, _ => none) with
    | none => True
    | some none => J.stop i H
    | some (some d) => J.go i H ∧ ∀ x H'', J.yld i H x H'' → RS G ρ F H'' S ∧ Ext ρ H ρ H'' ∧ RV G ρ H'' d x := by
  rcases ga with _ | _ | x <;> rcases gb with _ | _ | y
  · trivial
  · trivial
  · trivial
  · trivial
  · obtain ⟨vs, q1, q2⟩ := h1
    obtain ⟨ys, q3, _⟩ := h2
    exact stp ⟨vs, ys, q1, q3, .inl q2⟩
  · obtain ⟨vs, q1, q2⟩ := h1
    obtain ⟨ys, _, q3, _⟩ := h2
    exact stp ⟨vs, ys, q1, q3, .inl q2⟩
  · trivial
  · obtain ⟨vs, _, q1, _⟩ := h1
    obtain ⟨ys, q3, q2⟩ := h2
    exact stp ⟨vs, ys, q1, q3, .inr q2⟩
  · obtain ⟨xs, v, q1, q2, q3⟩ := h1
    obtain ⟨ys, u, p1, p2, p3⟩ := h2
    refine ⟨go ⟨xs, ys, v, u, q1, p1, q2, p2⟩, fun z H'' hz => ?_⟩
    obtain ⟨T, x', y', rfl, hT, rfl, hx, hy⟩ := yl z H'' hz
    have e1 := hx xs q1
    have e2 := hy ys p1
    rw [q2] at e1
    rw [p2] at e2
    cases e1
    cases e2
    obtain ⟨r3, e3⟩ := r.laid (o := .tup [v, u]) hT
    exact ⟨r3, e3, RV.mkT (by show 2 ≤ sizeLine; decide) (.inl (.inl upd_same)) ⟨_, _, rfl, RV.mono e3 _ _ q3, _, _, rfl, RV.mono e3 _ _ p3, rfl⟩⟩
theorem it_zipT {ds es : List D} {a b : Addr} {vs ws : List V} (hs : SqT G.K H a vs) (hv : RVs G ρ H ds vs) (hs2 : SqT G.K H b ws) (hv2 : RVs G ρ H es ws) : ItR G ρ H (.zip (.fix ds) (.fix es)) (RZ.ItzT G.K a b) := fun ρ' H' F S i e r => by
  have z := it_zip (J := RZ.ItzT G.K a b) r (side_fix (S := S) (i := i) (e.sqT hs) (RVs.mono e _ _ hv)) (side_fix (S := S) (i := i) (e.sqT hs2) (RVs.mono e _ _ hv2)) (fun h => h) (fun v H' h => h) (fun h => h)
  unfold ivGet
  exact z
theorem it_zipL {n m : Nat} {a b : Addr} (ha : ρ[n]? = some a) (hb : ρ[m]? = some b) : ItR G ρ H (.zip (.dyn n) (.dyn m)) (Itz G.K a b) := fun ρ' H' F S i e r => by
  have z := it_zip (J := Itz G.K a b) r (side_dyn (i := i) r (e.get ha)) (side_dyn (i := i) r (e.get hb)) (fun h => h) (fun v H' h => h) (fun h => h)
  unfold ivGet
  exact z
end
end DE
/-! DE9: iterators' rules; comprehensions. -/
namespace DE
open PySem PySem.Spec PyProof.Rows L2
section
variable {G : Gx} {W : WX} {cf : CF} {ρ ρ0 ρ1 ρ' : List Addr} {H H0 H1 H' : Hp} {F : Frm} {S S' S1 : Sto} {Q : VK} {X : Cx} {σ : L2.St} {env : Env}
variable {c : Tc} {sc : Scope} {st : Str → Bool}

theorem i_seq (C : Cy c G cf X W sc st) {tg e : Expr} {x : Ex} (he : PE X e (tE G W cf x)) : PI X tg e (tI G W cf (.seq x)) := by
  refine ⟨fun pins s σ H R I ⟨ρ, F, S, env, r, en, q⟩ => ?_⟩
  unfold evi at q
  cases qx : ev cf x env S with
  | ok d S1 =>
    rw [qx] at q
    have q : PR (DE.R.ofO S1 (ivOf S1 d)) (fun iv S' => ∀ J ρ' H', Ext ρ H ρ' H' → RS G ρ' F H' S' → ItR G ρ' H' iv J → R J H') (exQ G W ρ F H σ) := q
    have pr : ∀ {Q : VK}, (∀ v ρ' H', Ext ρ H ρ' H' → RS G ρ' F H' S1 → RV G ρ' H' d v → Q v H') → tE G W cf x σ H Q := fun h => ⟨ρ, F, S, env, r, en, by rw [qx]; exact h⟩
    have tup : ∀ ds, tupOf d = some ds → ivOf S1 d = some (.fix ds) → wpAny (model X.prog X.w) X.A (eval e X.env) (fun v s1 => wpAny (model X.prog X.w) X.A (pyIter v) (PIE X pins σ tg R) X.xe s1) X.xe s := fun ds hd hi => by
      rw [hi] at q
      refine (pi_tup he).run pins s σ H R I (pr fun v ρ' H' e' r' hv => ?_)
      obtain ⟨_, a, vs, rfl, h2, h3⟩ := hv.tupOf hd
      rw [C.K]
      exact ⟨a, rfl, ⟨vs, h2⟩, q _ ρ' H' e' r' (it_fix h2 h3)⟩
    cases d with
    | tup ds => exact tup ds rfl rfl
    | mix ds => exact tup ds rfl rfl
    | str y => exact (pi_str he).run pins s σ H R I (pr fun v ρ' H' e' r' hv => ⟨y, hv, q _ ρ' H' e' r' it_str⟩)
    | ref n =>
      have key : ∀ ds, (S1[n]? = some (.lst ds) ∨ S1[n]? = some (.fl ds)) → ivOf S1 (.ref n) = some (.dyn n) → wpAny (model X.prog X.w) X.A (eval e X.env) (fun v s1 => wpAny (model X.prog X.w) X.A (pyIter v) (PIE X pins σ tg R) X.xe s1) X.xe s := fun ds hd hi => by
        rw [hi] at q
        refine (pi_list he).run pins s σ H R I (pr fun v ρ' H' e' r' hv => ?_)
        obtain ⟨a, vs, rfl, h2, h3⟩ := seqRef_at r' hv hd
        obtain ⟨a', ha, e1⟩ := hv
        cases e1
        rw [C.K]
        exact ⟨a, rfl, ⟨vs, h3⟩, q _ ρ' H' e' r' (it_dyn ha)⟩
      cases hn : S1[n]? with
      | none =>
        have z : ivOf S1 (.ref n) = none := by unfold ivOf; simp only [hn]
        rw [z] at q
        exact q.elim
      | some o =>
        cases o with
        | lst ds => exact key ds (.inl hn) (by unfold ivOf; simp only [hn])
        | fl ds => exact key ds (.inr hn) (by unfold ivOf; simp only [hn])
        | dk kvs =>
          have z : ivOf S1 (.ref n) = none := by unfold ivOf; simp only [hn]
          rw [z] at q
          exact q.elim
    | non => exact q.elim
    | bl _ => exact q.elim
    | int _ => exact q.elim
    | glo _ => exact q.elim
  | ex cc xx S1 =>
    rw [qx] at q
    exact (pi_tup he).run pins s σ H R I ⟨ρ, F, S, env, r, en, by rw [qx]; exact q⟩
  | no =>
    rw [qx] at q
    exact q.elim
theorem i_rng (C : Cy c G cf X W sc st) {tg e : Expr} {x : Ex} {p pos : Pos} (hg : gloB sc "range" = true) (hf : c.free "range" = true) (hn : ∀ a p, e ≠ .Starred a p) (he : PE X e (tE G W cf x)) : PI X tg (.Call (.Name "range" p) [e] [] pos) (tI G W cf (.rng x)) := by
  have ha : PA X [e] (tCons (tE G W cf x) tNil) := pa_cons he pa_nil (star_cons hn)
  refine PI.imp (pi_range1 (gloB_ok C.sc hg).1 (C.free _ hf) ha (star_cons hn)) fun σ H R ⟨ρ, F, S, env, r, en, q⟩ => ?_
  unfold evi at q
  refine stepE Ext.refl r en q fun d S1 v ρ1 H1 e1 r1 n1 _ h1 q1 => ?_
  split at q1
  · rename_i n
    split at q1
    · rename_i hb
      obtain ⟨b1, b2⟩ := Bool.and_eq_true_iff.mp hb
      rw [show v = _ from h1]
      exact ⟨n, rfl, of_decide_eq_true b2, of_decide_eq_true b1, q1 _ ρ1 H1 e1 r1 it_rng⟩
    · exact q1.elim
  · exact q1.elim
theorem i_enu (C : Cy c G cf X W sc st) {elts : List Expr} {k : Nat} {tpos : Pos} {e : Expr} {x : Ex} {p pos : Pos} (hg : gloB sc "enumerate" = true) (hf : c.free "enumerate" = true) (hn : ∀ a p, e ≠ .Starred a p) (he : PE X e (tE G W cf x)) : PI X (.Tuple elts k tpos) (.Call (.Name "enumerate" p) [e] [] pos) (tI G W cf (.enu x)) := by
  have ha : PA X [e] (tCons (tE G W cf x) tNil) := pa_cons he pa_nil (star_cons hn)
  refine PI.imp (pi_enum (gloB_ok C.sc hg).1 (C.free _ hf) ha (star_cons hn)) fun σ H R ⟨ρ, F, S, env, r, en, q⟩ => ?_
  unfold evi at q
  refine stepE Ext.refl r en q fun d S1 v ρ1 H1 e1 r1 n1 _ h1 q1 => ?_
  split at q1
  · rename_i n ds hb
    obtain ⟨h2, _, a, vs, rfl, ha, h4, _⟩ := lstOf_at r1 h1 hb
    rw [C.K]
    exact ⟨a, vs, rfl, .inl (.inl h4), q1 _ ρ1 H1 e1 r1 (it_enu ha)⟩
  · exact q1.elim
theorem i_zip (C : Cy c G cf X W sc st) {elts : List Expr} {k : Nat} {tpos : Pos} {e e2 : Expr} {x y : Ex} {p pos : Pos} (hg : gloB sc "zip" = true) (hf : c.free "zip" = true) (hn : ∀ a p, e ≠ .Starred a p) (hn2 : ∀ a p, e2 ≠ .Starred a p) (he : PE X e (tE G W cf x)) (he2 : PE X e2 (tE G W cf y)) :
    PI X (.Tuple elts k tpos) (.Call (.Name "zip" p) [e, e2] [] pos) (tI G W cf (.zip x y)) := by
  have ha : PA X [e, e2] (tCons (tE G W cf x) (tCons (tE G W cf y) tNil)) := pa_cons he (pa_cons he2 pa_nil (star_cons hn2)) (star_cons hn)
  refine PI.imp (RZ.pi_zipA (gloB_ok C.sc hg).1 (C.free _ hf) ha (star_cons hn) (back_any ⟨hn2, trivial⟩)) fun σ H R ⟨ρ, F, S, env, r, en, q⟩ => ?_
  unfold evi at q
  refine stepE Ext.refl r en q fun d S1 v ρ1 H1 e1 r1 n1 _ h1 q1 => ?_
  refine stepE e1 r1 n1 q1 fun d2 S2 v2 ρ2 H2 e2 r2 n2 e12 h2 q2 => ?_
  have h1 := RV.mono e12 _ _ h1
  cases hz : zipOf S2 d d2 with
  | none =>
    rw [hz] at q2
    exact q2.elim
  | some iv =>
    rw [hz] at q2
    have q2 : ∀ J ρ' H', Ext ρ H ρ' H' → RS G ρ' F H' S2 → ItR G ρ' H' iv J → R J H' := q2
    unfold zipOf at hz
    split at hz
    · rename_i ds es t1 t2
      cases hz
      obtain ⟨_, a, vs, rfl, h3, h4⟩ := h1.tupOf t1
      obtain ⟨_, b, ws, rfl, h5, h6⟩ := h2.tupOf t2
      rw [C.K]
      exact ⟨a, b, vs, ws, rfl, .inr ⟨h3, h5, q2 _ ρ2 H2 e2 r2 (it_zipT h3 h4 h5 h6)⟩⟩
    · split at hz
      · rename_i n m i1 i2
        cases hz
        have at_ : ∀ {d : D} {v : V} {n : Nat}, RV G ρ2 H2 d v → ivOf S2 d = some (.dyn n) → ∃ a vs, v = .ref a ∧ ρ2[n]? = some a ∧ SqL G.K H2 a vs := fun {d v n} hv hi => by
          cases d with
          | ref k =>
            cases hn : S2[k]? with
            | none => unfold ivOf at hi; simp only [hn] at hi; cases hi
            | some o =>
              cases o with
              | lst ds =>
                unfold ivOf at hi; simp only [hn] at hi; cases hi
                obtain ⟨a, vs, rfl, _, h3⟩ := seqRef_at r2 hv (.inl hn)
                obtain ⟨a', ha, e1⟩ := hv
                cases e1
                exact ⟨a, vs, rfl, ha, h3⟩
              | fl ds =>
                unfold ivOf at hi; simp only [hn] at hi; cases hi
                obtain ⟨a, vs, rfl, _, h3⟩ := seqRef_at r2 hv (.inr hn)
                obtain ⟨a', ha, e1⟩ := hv
                cases e1
                exact ⟨a, vs, rfl, ha, h3⟩
              | dk _ => unfold ivOf at hi; simp only [hn] at hi; cases hi
          | _ => cases hi
        obtain ⟨a, vs, rfl, h3, h4⟩ := at_ h1 i1
        obtain ⟨b, ws, rfl, h5, h6⟩ := at_ h2 i2
        rw [C.K]
        exact ⟨a, b, vs, ws, rfl, .inl ⟨h4, h6, q2 _ ρ2 H2 e2 r2 (it_zipL h3 h5)⟩⟩
      · cases hz
    · cases hz

/-! ### the frame -/
theorem RS.frm_new (r : RS G ρ F H S) {p : Addr} {o : HO} (hp : H p = none) : RS G ρ ((p, o) :: F) (upd H p o) S ∧ Ext ρ H ρ (upd H p o) := by
  obtain ⟨r1, e1⟩ := r.laid (o := o) hp
  refine ⟨⟨r1.len, r1.inj, r1.obj, r1.bel, fun q hq => ?_⟩, e1⟩
  rcases List.mem_cons.mp hq with rfl | hq
  · refine ⟨upd_same, fun n a h f => ?_⟩
    obtain ⟨u, hu, _⟩ := r.at h f
    exact fun z => ne_of_none hu hp z.symm
  · exact r1.frm q hq
theorem RS.frm_set {p : Addr} {o o' : HO} (r : RS G ρ ((p, o) :: F) H S) (nF : ∀ q ∈ F, q.1 ≠ p) (nt : ∀ xs, o ≠ .tup xs) (nf : ∀ x u, o ≠ .frz x u) : RS G ρ ((p, o') :: F) (upd H p o') S ∧ Ext ρ H ρ (upd H p o') := by
  obtain ⟨hp, np⟩ := r.frm (p, o) List.mem_cons_self
  have ex : Ext ρ H ρ (upd H p o') := ⟨⟨[], by simp⟩, fun b xs h => by rw [upd_ne (ne_of h hp (fun z => nt xs z.symm))]; exact h, fun b x v h => by rw [upd_ne (ne_of h hp (fun z => nf x v z.symm))]; exact h⟩
  refine ⟨⟨r.len, r.inj, fun n ob a h1 h2 => ?_, r.bel, fun q hq => ?_⟩, ex⟩
  · have q := r.obj n ob a h1 h2
    cases ob with
    | lst ds => exact RO.mono ex q (upd_ne fun z => np n a h2 (by unfold isFl; rw [h1]) z.symm)
    | dk ds => exact RO.mono ex q (upd_ne fun z => np n a h2 (by unfold isFl; rw [h1]) z.symm)
    | fl ds =>
      obtain ⟨vs, q1, q2⟩ := q
      exact ⟨vs, q1.mono ex, RVs.mono ex _ _ q2⟩
  · rcases List.mem_cons.mp hq with rfl | hq
    · exact ⟨upd_same, np⟩
    · obtain ⟨q1, q2⟩ := r.frm q (List.mem_cons_of_mem _ hq)
      exact ⟨by rw [upd_ne (nF q hq)]; exact q1, q2⟩
/-- what stands in the frame becomes a named list -/
theorem RS.adopt {p : Addr} {ds : List D} {vs : List V} (r : RS G ρ ((p, .lst vs) :: F) H S) (nF : ∀ q ∈ F, q.1 ≠ p) (hv : RVs G ρ H ds vs) : RS G (ρ ++ [p]) F H (S ++ [.lst ds]) ∧ Ext ρ H (ρ ++ [p]) H ∧ RV G (ρ ++ [p]) H (.ref S.length) (.ref p) := by
  obtain ⟨hp, np⟩ := r.frm (p, .lst vs) List.mem_cons_self
  have ex : Ext ρ H (ρ ++ [p]) H := ⟨⟨[p], rfl⟩, fun _ _ h => h, fun _ _ _ h => h⟩
  have low : ∀ {n : Nat} {a : Addr}, (ρ ++ [p])[n]? = some a → (n < ρ.length ∧ ρ[n]? = some a) ∨ (n = ρ.length ∧ a = p) := fun {n a} h => by
    by_cases hn : n < ρ.length
    · rw [List.getElem?_append_left hn] at h
      exact .inl ⟨hn, h⟩
    · rw [List.getElem?_append_right (Nat.le_of_not_lt hn)] at h
      have hl := (List.getElem?_eq_some_iff.mp h).1
      simp only [List.length_cons, List.length_nil] at hl
      have e : n - ρ.length = 0 := by omega
      rw [e] at h
      cases (show some p = some a from h)
      exact .inr ⟨by omega, rfl⟩
  have lowS : ∀ {n : Nat} {o : O}, (S ++ [.lst ds])[n]? = some o → (n < S.length ∧ S[n]? = some o) ∨ (n = S.length ∧ o = .lst ds) := fun {n o} h => by
    by_cases hn : n < S.length
    · rw [List.getElem?_append_left hn] at h
      exact .inl ⟨hn, h⟩
    · rw [List.getElem?_append_right (Nat.le_of_not_lt hn)] at h
      have hl := (List.getElem?_eq_some_iff.mp h).1
      simp only [List.length_cons, List.length_nil] at hl
      have e : n - S.length = 0 := by omega
      rw [e] at h
      cases (show some (O.lst ds) = some o from h)
      exact .inr ⟨by omega, rfl⟩
  have fl1 : ∀ {n : Nat}, n < ρ.length → isFl (S ++ [.lst ds]) n = isFl S n := fun {n} h => isFl_append (by rw [← r.len]; exact h)
  refine ⟨⟨by simp [r.len], fun n m a h1 h2 f1 f2 => ?_, fun n o a h1 h2 => ?_, fun n o h1 => ?_, fun q hq => ?_⟩, ex, p, ?_, rfl⟩
  · rcases low h1 with ⟨l1, h1⟩ | ⟨l1, h1⟩ <;> rcases low h2 with ⟨l2, h2⟩ | ⟨l2, h2⟩
    · rw [fl1 l1] at f1
      rw [fl1 l2] at f2
      exact r.inj n m a h1 h2 f1 f2
    · rw [fl1 l1] at f1
      exact absurd h2.symm (np n a h1 f1)
    · rw [fl1 l2] at f2
      exact absurd h1.symm (np m a h2 f2)
    · omega
  · rcases lowS h1 with ⟨l1, h1⟩ | ⟨l1, h1⟩
    · rcases low h2 with ⟨l2, h2⟩ | ⟨l2, h2⟩
      · exact RO.mono ex (r.obj n o a h1 h2) rfl
      · rw [← r.len] at l1
        omega
    · rcases low h2 with ⟨l2, h2⟩ | ⟨l2, h2⟩
      · rw [l1, ← r.len] at l2
        exact absurd l2 (Nat.lt_irrefl _)
      · rw [h1, h2]
        exact ⟨vs, hp, RVs.mono ex _ _ hv⟩
  · rcases lowS h1 with ⟨l1, h1⟩ | ⟨l1, h1⟩
    · exact r.bel n o h1
    · rw [h1, l1, ← r.len]
      exact RVs.below _ _ hv
  · obtain ⟨q1, q2⟩ := r.frm q (List.mem_cons_of_mem _ hq)
    refine ⟨q1, fun n a h f => ?_⟩
    rcases low h with ⟨l, h⟩ | ⟨l, h⟩
    · rw [fl1 l] at f
      exact q2 n a h f
    · rw [h]
      exact nF q hq
  · rw [← r.len, List.getElem?_append_right (Nat.le_refl _), Nat.sub_self]
    rfl

/-! ### comprehensions -/
theorem lcGo_nex {body : D → Sto → R (Option D)} {iv : IV} : ∀ {f i : Nat} {acc : List D} {S : Sto}, Nex (lcGo body iv f i acc S)
  | 0, _, _, _ => fun _ _ _ z => nomatch z
  | f + 1, i, acc, S => by
    unfold lcGo
    split
    · exact fun _ _ _ z => nomatch z
    · exact fun _ _ _ z => nomatch z
    · split
      · exact lcGo_nex
      · exact lcGo_nex
      · exact fun _ _ _ z => nomatch z
abbrev W0 : WX := fun _ _ _ _ => False
def exF : Nat → D → Sto → Prop := fun _ _ _ => False
theorem lc_rd {own : List Nat} {g : Tg} {it : Itx} {cs : Exs} {e : Ex} (hown : ∀ i ∈ g.sl, i ∈ own) (h : tE G W cf (.lc own g it cs e) σ H Q) : tLc (tI G W cf it) (tG G g) (tTc G W0 cf cs) (tE G W0 cf e) own σ H Q := by
  obtain ⟨ρ, F, S, env, r, en, q⟩ := h
  unfold ev at q
  refine ⟨ρ, F, S, env, r, en, ?_⟩
  generalize hbody : (fun (d : D) (S2 : Sto) => match bindT g d (DE.wipe env own) with
      | none => R.no
      | some env2 => (evc cf cs env2 S2).bind fun k S3 => (match k with
        | true => (ev cf e env2 S3).bind fun x S4 => R.ok (some x) S4
        | false => .ok none S3)) = body at q
  cases qi : evi cf it env S with
  | no =>
    rw [qi] at q
    exact q.elim
  | ex cc xx S1 =>
    rw [qi] at q
    exact q
  | ok iv S1 =>
    rw [qi] at q
    have q : PR ((lcGo body iv fuel 0 [] S1).bind fun ds S2 => newL ds S2) (fun d S' => ∀ v ρ' H', Ext ρ H ρ' H' → RS G ρ' F H' S' → RV G ρ' H' d v → Q v H') (exQ G W ρ F H σ) := q
    intro J ρ1 H1 e1 r1 jr L hD
    have nF : ∀ q ∈ F, q.1 ≠ L := fun q hq => ne_of_none (r1.frm q hq).1 hD
    let K : List D → Sto → Prop := fun ds S2 => PR (newL ds S2) (fun d S' => ∀ v ρ' H', Ext ρ H ρ' H' → RS G ρ' F H' S' → RV G ρ' H' d v → Q v H') (exQ G W ρ F H σ)
    let Wt : Nat → Nat → Hp → Prop := fun i m H => ∃ ρi Si accD accV, Ext ρ1 H1 ρi H ∧ RS G ρi ((L, .lst accV) :: F) H Si ∧ RVs G ρi H accD accV ∧ accV.length ≤ i ∧ m + i = fuel ∧ PR (lcGo body iv m i accD Si) K exF
    have start : PR (lcGo body iv fuel 0 [] S1) K exF := by
      cases z : lcGo body iv fuel 0 [] S1 with
      | ok ds S2 =>
        rw [z] at q
        exact q
      | ex cc xx S2 => exact absurd z (lcGo_nex _ _ _)
      | no =>
        rw [z] at q
        exact q
    refine ⟨Wt, ⟨fuel, ?_⟩, fun i m H2 w => ?_⟩
    · obtain ⟨r2, e2⟩ := r1.frm_new (o := .lst []) hD
      exact ⟨ρ1, S1, [], [], e2, r2, rfl, Nat.zero_le _, rfl, start⟩
    obtain ⟨ρi, Si, accD, accV, ei, ri, ai, li, mi, qi'⟩ := w
    cases m with
    | zero => exact qi'.elim
    | succ m =>
      have key := jr ρi H2 ((L, .lst accV) :: F) Si i ei ri
      unfold lcGo at qi'
      cases hg : ivGet Si i iv with
      | none =>
        rw [hg] at qi'
        exact qi'.elim
      | some od =>
        cases od with
        | none =>
          rw [hg] at qi' key
          refine .inl ⟨key, ?_⟩
          have kk : K accD Si := qi'
          obtain ⟨r2, e2, v2⟩ := ri.adopt nF ai
          have kk : PR (newL accD Si) (fun d S' => ∀ v ρ' H', Ext ρ H ρ' H' → RS G ρ' F H' S' → RV G ρ' H' d v → Q v H') (exQ G W ρ F H σ) := kk
          unfold newL at kk
          split at kk
          · exact kk _ _ _ (e1.trans (ei.trans e2)) r2 v2
          · exact kk.elim
        | some d =>
          rw [hg] at qi' key
          obtain ⟨go, yl⟩ := key
          refine .inr ⟨go, fun H' => Wt (i + 1) m H', fun H' w => ⟨m, Nat.lt_succ_self _, w⟩, fun x H3 hy => ?_⟩
          obtain ⟨r3, e3, v3⟩ := yl x H3 hy
          have qb : PR (match body d Si with
            | .ok (some e) S1 => lcGo body iv m (i + 1) (accD ++ [e]) (match below Si.length e with
              | true => S1.take Si.length
              | false => S1)
            | .ok none S1 => lcGo body iv m (i + 1) accD (S1.take Si.length)
            | _ => R.no) K exF := qi'
          have hbd : body d Si = (match bindT g d (DE.wipe env own) with
            | none => R.no
            | some env2 => (evc cf cs env2 Si).bind fun k S3 => (match k with
              | true => (ev cf e env2 S3).bind fun x S4 => R.ok (some x) S4
              | false => .ok none S3)) := by rw [← hbody]
          have en3 : REnv G ρi H3 (DE.wipe env own) (L2.wipe σ own) := ((en.mono (e1.trans (ei.trans e3)))).wipe own
          cases hb : bindT g d (DE.wipe env own) with
          | none =>
            rw [hbd, hb] at qb
            exact qb.elim
          | some env2 =>
            rw [hb] at hbd
            have hbd : body d Si = (evc cf cs env2 Si).bind fun k S3 => (match k with
              | true => (ev cf e env2 S3).bind fun x S4 => R.ok (some x) S4
              | false => .ok none S3) := hbd
            refine bind_ok en3 v3 hb fun xs en4 => ⟨by rw [wipe_sets hown]; exact wipe_idem, ?_⟩
            -- what stands behind a turn that ends at ρ4, H4, S4
            have back : ∀ {ρ4 : List Addr} {H4 : Hp} {S4 : Sto}, Ext ρi H3 ρ4 H4 → RS G ρ4 ((L, .lst accV) :: F) H4 S4 → RS G ρi ((L, .lst accV) :: F) H4 (S4.take Si.length) ∧ Ext ρi H3 ρi H4 := fun {ρ4 H4 S4} e4 r4 => by
              obtain ⟨τ, hτ⟩ := e4.pre
              subst hτ
              rw [← ri.len]
              exact ⟨r4.trim, e4.drop⟩
            refine ⟨ρi, (L, .lst accV) :: F, Si, env2, r3, en4, ?_⟩
            cases hc : evc cf cs env2 Si with
            | no =>
              rw [hbd, hc] at qb
              exact qb.elim
            | ex cc xx S4 =>
              rw [hbd, hc] at qb
              exact qb.elim
            | ok k S4 =>
              rw [hc] at hbd
              intro ρ4 H4 e4 r4
              cases k with
              | false =>
                rw [hbd] at qb
                rw [if_neg Bool.false_ne_true]
                obtain ⟨r5, e5⟩ := back e4 r4
                exact ⟨ρi, _, accD, accV, ei.trans (e3.trans e5), r5, RVs.mono (e3.trans e5) _ _ ai, Nat.le_succ_of_le li, by omega, qb⟩
              | true =>
                rw [if_pos rfl]
                refine ⟨ρ4, (L, .lst accV) :: F, S4, env2, r4, en4.mono e4, ?_⟩
                have hbd : body d Si = (ev cf e env2 S4).bind fun x S4 => R.ok (some x) S4 := hbd
                cases he : ev cf e env2 S4 with
                | no =>
                  rw [hbd, he] at qb
                  exact qb.elim
                | ex cc xx S5 =>
                  rw [hbd, he] at qb
                  exact qb.elim
                | ok y S5 =>
                  rw [hbd, he] at qb
                  intro v ρ5 H5 e45 r5 hv
                  have e5 := e4.trans e45
                  have hz : accV.length < sizeLine := by
                    have : fuel < sizeLine := by rw [sizeLine_eq]; decide
                    omega
                  refine ⟨accV, (r5.frm _ List.mem_cons_self).1, hz, ?_⟩
                  cases hbl : below Si.length y with
                  | true =>
                    have qb : PR (lcGo body iv m (i + 1) (accD ++ [y]) (match below Si.length y with
                      | true => S5.take Si.length
                      | false => S5)) K exF := qb
                    rw [hbl] at qb
                    obtain ⟨r6, e6⟩ := back e5 r5
                    obtain ⟨r7, e7⟩ := r6.frm_set (o' := .lst (accV ++ [v])) nF (fun _ z => nomatch z) (fun _ _ z => nomatch z)
                    refine ⟨ρi, _, accD ++ [y], accV ++ [v], ei.trans (e3.trans (e6.trans e7)), r7, ?_, by rw [List.length_append]; simp; exact li, by omega, qb⟩
                    have hv' : RV G ρi H5 y v := by
                      obtain ⟨τ, hτ⟩ := e5.pre
                      rw [hτ] at hv
                      exact RV.back y v (by rw [ri.len]; exact hbl) hv
                    exact RVs.append (RVs.mono (e3.trans (e6.trans e7)) _ _ ai) ⟨v, [], rfl, RV.mono e7 _ _ hv', rfl⟩
                  | false =>
                    have qb : PR (lcGo body iv m (i + 1) (accD ++ [y]) (match below Si.length y with
                      | true => S5.take Si.length
                      | false => S5)) K exF := qb
                    rw [hbl] at qb
                    obtain ⟨r7, e7⟩ := r5.frm_set (o' := .lst (accV ++ [v])) nF (fun _ z => nomatch z) (fun _ _ z => nomatch z)
                    refine ⟨ρ5, _, accD ++ [y], accV ++ [v], ei.trans (e3.trans (e5.trans e7)), r7, ?_, by rw [List.length_append]; simp; exact li, by omega, qb⟩
                    exact RVs.append (RVs.mono (e3.trans (e5.trans e7)) _ _ ai) ⟨v, [], rfl, RV.mono e7 _ _ hv, rfl⟩
end
end DE
/-! DEA: what the translator of expressions gives holds. -/
namespace DE
open PySem PySem.Spec PyProof.Rows L2
section
variable {G : Gx} {cf : CF} {c : Tc}

theorem trE_ns {n : Nat} {sc : Scope} {e : Expr} {x : Ex} (h : trE c n sc e = some x) : ∀ a p, e ≠ .Starred a p := by
  intro a p z
  subst z
  cases n with
  | zero => simp only [trE] at h; cases h
  | succ n => simp only [trE] at h; cases h
theorem trEs_ns : ∀ {n : Nat} {sc : Scope} {es : List Expr} {xs : Exs}, trEs c n sc es = some xs → nst es ∧ (es = [] → xs = .nil)
  | 0, _, _, _, h => by simp only [trEs] at h; cases h
  | n + 1, sc, [], xs, h => by
    simp only [trEs] at h
    cases h
    exact ⟨trivial, fun _ => rfl⟩
  | n + 1, sc, e :: r, xs, h => by
    simp only [trEs] at h
    split at h
    · rename_i x ys h1 h2
      exact ⟨⟨trE_ns h1, (trEs_ns h2).1⟩, fun z => by cases z⟩
    · cases h
theorem PTs.imp {X : Cx} {e : List Expr} {t t' : TT} (h : PTs X e t) (i : ∀ σ H Q, t' σ H Q → t σ H Q) : PTs X e t' := ⟨fun pins s σ H Q I q => h.run pins s σ H Q I (i σ H Q q)⟩
/-- what is claimed of each part, at one fuel -/
structure TrOk (c : Tc) (G : Gx) (cf : CF) (n : Nat) : Prop where
  e : ∀ {sc : Scope} {st : Str → Bool} {X : Cx} {W : WX} {e : Expr} {x : Ex}, Cy c G cf X W sc st → trE c n sc e = some x → PE X e (tE G W cf x)
  es : ∀ {sc : Scope} {st : Str → Bool} {X : Cx} {W : WX} {e : List Expr} {x : Exs}, Cy c G cf X W sc st → trEs c n sc e = some x → PA X e (tA G W cf x)
  t : ∀ {sc : Scope} {st : Str → Bool} {X : Cx} {W : WX} {e : Expr} {x : Ex}, Cy c G cf X W sc st → trC c n sc e = some x → PT X e (tT G W cf x) ∧ ∀ op es p, e = .BoolOp op es p → PW X e (tT G W cf x)
  ts : ∀ {sc : Scope} {st : Str → Bool} {X : Cx} {W : WX} {e : List Expr} {x : Exs}, Cy c G cf X W sc st → trCs c n sc e = some x → PTs X e (tTc G W cf x)
  o : ∀ {sc : Scope} {st : Str → Bool} {X : Cx} {W : WX} {e : Option Expr} {x : Ex}, Cy c G cf X W sc st → trO c n sc e = some x → PO X e (tO G W cf x) ∧ ∀ env S (d : D) S', ev cf x env S = .ok d S' → ∃ k, partOf d = some k
  i : ∀ {sc : Scope} {st : Str → Bool} {X : Cx} {W : WX} {tg e : Expr} {x : Itx}, Cy c G cf X W sc st → trI c n sc tg e = some x → PI X tg e (tI G W cf x)
theorem ownOf_mem {N : List Str} : ∀ {l : List (Str × NameKind)} {x : Str} {k : NameKind} {i : Nat}, l.lookup x = some k → (k = .local ∨ k = .cell) → slotOf N x = some i → i ∈ (ownOf N l).map (·.2)
  | [], _, _, _, h, _, _ => by cases h
  | (y, k') :: r, x, k, i, h, hk, hi => by
    rw [List.lookup_cons] at h
    have tl : ∀ {l : List (Str × Nat)}, i ∈ l.map (·.2) → ∀ p, i ∈ (p :: l).map (·.2) := fun h p => List.mem_cons_of_mem _ h
    unfold ownOf
    split at h
    · rename_i e
      have e : x = y := by simpa using e
      subst e
      cases h
      rcases hk with rfl | rfl
      · simp only [hi]
        exact List.mem_cons_self
      · simp only [hi]
        exact List.mem_cons_self
    · have ih := ownOf_mem h hk hi
      split
      · split
        · exact tl ih _
        · exact ih
      · split
        · exact tl ih _
        · exact ih
      · exact ih
theorem ownB_k {scope : Scope} {x : Str} (h : ownB scope x = true) : ∃ k, scope.names.lookup x = some k ∧ (k = .local ∨ k = .cell) := by
  unfold ownB at h
  split at h
  · rename_i e; exact ⟨_, e, .inl rfl⟩
  · rename_i e; exact ⟨_, e, .inr rfl⟩
  · cases h
theorem slots_own {N : List Str} {scope : Scope} : ∀ {es : List Expr} {is : List Nat}, slots N (ownB scope) es = some is → ∀ i ∈ is, i ∈ (ownOf N scope.names).map (·.2)
  | [], is, h, i, hi => by cases h; cases hi
  | e :: r, is, h, i, hi => by
    cases e with
    | Name x p =>
      simp only [slots] at h
      split at h
      · rename_i hs
        split at h
        · rename_i j hj
          obtain ⟨js, h2, rfl⟩ := Option.map_eq_some_iff.mp h
          rcases List.mem_cons.mp hi with rfl | hi
          · obtain ⟨k, hk, hk2⟩ := ownB_k hs
            exact ownOf_mem hk hk2 hj
          · exact slots_own h2 i hi
        · cases h
      · cases h
    | _ => simp only [slots] at h; cases h
theorem trT_own {N : List Str} {scope : Scope} {e : Expr} {g : Tg} (h : trT N (ownB scope) e = some g) : ∀ i ∈ g.sl, i ∈ (ownOf N scope.names).map (·.2) := by
  cases e with
  | Name x p =>
    simp only [trT] at h
    split at h
    · rename_i hs
      obtain ⟨j, hj, rfl⟩ := Option.map_eq_some_iff.mp h
      intro i hi
      rcases List.mem_cons.mp hi with rfl | hi
      · obtain ⟨k, hk, hk2⟩ := ownB_k hs
        exact ownOf_mem hk hk2 hj
      · cases hi
    · cases h
  | Tuple es k p =>
    simp only [trT] at h
    obtain ⟨js, h2, rfl⟩ := Option.map_eq_some_iff.mp h
    exact slots_own h2
  | _ => simp only [trT] at h; cases h
theorem Cy.blk {sc : Scope} {st : Str → Bool} {X : Cx} {W : WX} (C : Cy c G cf X W sc st) (scope : Scope) (s : Shared) (H : Hp) (A : Addr) (cl : List (Str × Addr)) (fp : List Addr) :
    Cy c G cf (X.blk s H scope (compEnvC scope cl A X.env) fp) W0 (relS scope sc) (ownB scope) where
  K := C.K
  calm := C.calm
  N := C.N
  nd := C.nd
  sc := by
    show relS scope X.env.scope = relS scope sc
    rw [C.sc]
  tk := takes0
  un := C.un
  st := fun x h => by
    obtain ⟨k, hk, hk2⟩ := ownB_k h
    have hl : (relS scope X.env.scope).names.lookup x = some k := lookup_relS_keep (by rcases hk2 with rfl | rfl <;> intro z <;> cases z) hk
    refine ⟨?_, ?_⟩
    · show Loc (relS scope X.env.scope) x
      rcases hk2 with rfl | rfl
      · exact .inl hl
      · exact .inr hl
    · rcases hk2 with rfl | rfl
      · exact .inr hl
      · exact .inl (by show (scope.names.lookup x == some .cell) = true; rw [hk]; rfl)
  glo := C.glo
  free := C.free
  fns := C.fns
  exc := C.exc
theorem fold_lc {a : Expr} {v : PySem.Env} {x : Ex} {n : Nat} {sc : Scope} (h : trE c n sc a = some x) : ∀ y, foldedSetIterable a v y = pure y := by
  intro y
  cases n with
  | zero => simp only [trE] at h; cases h
  | succ n => cases a <;> first | rfl | (simp only [trE] at h; cases h)
theorem fold_it {tg a : Expr} {v : PySem.Env} {x : Itx} {n : Nat} {sc : Scope} (h : trI c n sc tg a = some x) : ∀ y, foldedSetIterable a v y = pure y := by
  intro y
  cases n with
  | zero => simp only [trI] at h; cases h
  | succ n =>
    cases a <;> first | rfl | (simp only [trI] at h; obtain ⟨z, hz, _⟩ := Option.map_eq_some_iff.mp h; exact fold_lc hz y)
theorem tr_zero : TrOk c G cf 0 where
  e := fun _ h => by simp only [trE] at h; cases h
  es := fun _ h => by simp only [trEs] at h; cases h
  t := fun _ h => by simp only [trC] at h; cases h
  ts := fun _ h => by simp only [trCs] at h; cases h
  o := fun _ h => by simp only [trO] at h; cases h
  i := fun _ h => by simp only [trI] at h; cases h
theorem trE_succ {n : Nat} (T : TrOk c G cf n) {sc : Scope} {st : Str → Bool} {X : Cx} {W : WX} {e : Expr} {x : Ex} (C : Cy c G cf X W sc st) (h : trE c (n + 1) sc e = some x) : PE X e (tE G W cf x) := by
  cases e with
  | Name y p =>
    simp only [trE] at h
    split at h
    · rename_i hb
      obtain ⟨hb, h3⟩ := Bool.and_eq_true_iff.mp hb
      obtain ⟨h1, h2⟩ := Bool.and_eq_true_iff.mp hb
      obtain ⟨i, hi, rfl⟩ := Option.map_eq_some_iff.mp h
      exact e_loc C h1 (by simpa using h2) (by simpa using h3) hi
    · split at h
      · rename_i hg
        obtain ⟨d, hd, rfl⟩ := Option.map_eq_some_iff.mp h
        exact e_glo C hg hd
      · cases h
  | Constant k j p =>
    simp only [trE] at h
    obtain ⟨d, hd, rfl⟩ := Option.map_eq_some_iff.mp h
    exact e_cst hd
  | BinOp a op b p =>
    simp only [trE] at h
    split at h
    · rename_i o x y h1 h2 h3
      cases h
      exact e_bin C h1 (T.e C h2) (T.e C h3)
    · cases h
  | UnaryOp op a p =>
    simp only [trE] at h
    split at h
    · rename_i x h2
      cases h
      exact e_not (T.e C h2)
    · rename_i x h2
      cases h
      exact e_neg (T.e C h2)
    · cases h
  | BoolOp op es p =>
    simp only [trE] at h
    split at h
    · exact pe_one (T.e C h)
    · split at h
      · rename_i x y h1 h2
        cases h
        cases op with
        | And => exact e_and (T.e C h1) (T.e C h2)
        | Or => exact e_or (T.e C h1) (T.e C h2)
      · cases h
    · cases h
  | Compare a ops cs p =>
    simp only [trE] at h
    split at h
    · split at h
      · rename_i hm h1 h2
        cases h
        exact e_cmp C hm (T.e C h1) (T.e C h2)
      · cases h
    · split at h
      · rename_i hm h1 h2 h3
        cases h
        exact e_chn C hm (T.e C h1) (T.e C h2) (T.e C h3)
      · cases h
    · cases h
  | IfExp t a b p =>
    simp only [trE] at h
    split at h
    · rename_i h1 h2 h3
      cases h
      exact e_ite (T.t C h1).1 (T.e C h2) (T.e C h3)
    · cases h
  | Tuple es k p =>
    simp only [trE] at h
    obtain ⟨xs, hx, rfl⟩ := Option.map_eq_some_iff.mp h
    exact e_tup (T.es C hx)
  | List es p =>
    simp only [trE] at h
    obtain ⟨xs, hx, rfl⟩ := Option.map_eq_some_iff.mp h
    exact e_lst (T.es C hx)
  | Dict ks vs p =>
    cases ks with
    | nil =>
      cases vs with
      | nil =>
        simp only [trE] at h
        cases h
        exact e_dic0
      | cons _ _ => simp only [trE] at h; cases h
    | cons _ _ => simp only [trE] at h; cases h
  | Call f es kws p =>
    simp only [trE] at h
    split at h
    · rename_i y py
      split at h
      · rename_i hg
        split at h
        · rename_i g hf
          obtain ⟨xs, hx, rfl⟩ := Option.map_eq_some_iff.mp h
          obtain ⟨n1, n2⟩ := trEs_ns hx
          cases es with
          | nil =>
            rw [n2 rfl]
            exact e_call0 C hg hf
          | cons e es => exact e_call C hg hf n1 (T.es C hx)
        · split at h
          · rename_i hfr
            split at h
            · rename_i his
              split at h
              · rename_i b y2 hgt hb hy
                cases h
                obtain ⟨g1, g2⟩ := Bool.and_eq_true_iff.mp hgt
                rw [of_decide_eq_true his] at hg hfr ⊢
                exact e_isi C hg hfr g1 g2 hb (trE_ns hy) (T.e C hy)
              · cases h
            · cases h
            · split at h
              · rename_i a hsa
                obtain ⟨y2, hy2, rfl⟩ := Option.map_eq_some_iff.mp h
                unfold setArg at hsa
                split at hsa
                · split at hsa
                  · rename_i hcond
                    cases hsa
                    obtain ⟨hcond, c4⟩ := Bool.and_eq_true_iff.mp hcond
                    obtain ⟨hcond, c3⟩ := Bool.and_eq_true_iff.mp hcond
                    obtain ⟨c1, c2⟩ := Bool.and_eq_true_iff.mp hcond
                    rw [of_decide_eq_true c1] at hg hfr ⊢
                    rw [of_decide_eq_true c2] at c3 c4 ⊢
                    exact e_lenset C hg hfr c3 c4 (trE_ns hy2) (T.e C hy2)
                  · cases hsa
                · cases hsa
              · split at h
                · rename_i b xs hb hx
                  cases h
                  exact e_blt C hg hfr hb (trEs_ns hx).1 (T.es C hx)
                · cases h
          · cases h
      · cases h
    · split at h
      · rename_i hb hm ho hx
        cases h
        obtain ⟨b1, b2⟩ := Bool.and_eq_true_iff.mp hb
        obtain ⟨n1, n2⟩ := trEs_ns hx
        exact e_mth C b1 b2 hm n1 (T.e C ho) (T.es C hx) n2
      · cases h
    · cases h
  | Subscript a i p =>
    have pl : (∀ lo hi p, i ≠ .Slice lo hi none p) → (match trE c n sc a, trE c n sc i with
        | some x, some y => some (Ex.idx x y)
        | _, _ => none) = some x → PE X (.Subscript a i p) (tE G W cf x) := fun hp h => by
      split at h
      · rename_i h1 h2
        cases h
        exact e_idx C hp (T.e C h1) (T.e C h2)
      · cases h
    cases i with
    | Slice lo hi stp p2 =>
      simp only [trE] at h
      split at h
      · split at h
        · rename_i h1 h2 h3
          cases h
          exact e_slc C (T.e C h1) (T.o C h2).1 (T.o C h3).1 (T.o C h2).2
        · cases h
      · split at h
        · rename_i h1
          cases h
          exact e_rev C (T.e C h1)
        · cases h
      · cases h
    | _ =>
      simp only [trE] at h
      exact pl (fun _ _ _ z => nomatch z) h
  | ListComp e gs scope p =>
    simp only [trE] at h
    split at h
    · rename_i tg it ifs
      split at h
      · rename_i g i cs x hb hg hi hcs he
        cases h
        have own := trT_own hg
        refine PE.imp (pe_lc C.calm (by rw [C.N]; exact C.nd) (T.i C hi) (by rw [C.N, C.sc]; exact blkOk_by hb) (g := tG G g) (tt := tTc G W0 cf cs) (te := tE G W0 cf x) (fun s H A cl fp => g_ok (C.blk scope s H A cl fp) hg) (fun s H A cl fp => T.ts (C.blk scope s H A cl fp) hcs) (fun s H A cl fp => T.e (C.blk scope s H A cl fp) he) (fold_it hi)) fun σ H Q q => lc_rd own q
      · cases h
    · cases h
  | _ => simp only [trE] at h; cases h
theorem trC_succ {n : Nat} (T : TrOk c G cf n) {sc : Scope} {st : Str → Bool} {X : Cx} {W : WX} {e : Expr} {x : Ex} (C : Cy c G cf X W sc st) (h : trC c (n + 1) sc e = some x) : PT X e (tT G W cf x) ∧ ∀ op es p, e = .BoolOp op es p → PW X e (tT G W cf x) := by
  cases e with
  | UnaryOp op a p =>
    cases op with
    | Not =>
      simp only [trC] at h
      obtain ⟨y, hy, rfl⟩ := Option.map_eq_some_iff.mp h
      exact ⟨t_not (T.t C hy).1, fun _ _ _ z => nomatch z⟩
    | _ => simp only [trC] at h; cases h
  | BoolOp op es p =>
    have w : PW X (.BoolOp op es p) (tT G W cf x) := by
      simp only [trC] at h
      split at h
      · cases op with
        | And => exact pw_and1 (T.t C h).1
        | Or => exact pw_or1 (T.t C h).1
      · split at h
        · rename_i h1 h2
          cases h
          cases op with
          | And => exact t_and (T.t C h1).1 ((T.t C h2).2 _ _ _ rfl)
          | Or => exact t_or (T.t C h1).1 ((T.t C h2).2 _ _ _ rfl)
        · cases h
      · cases h
    exact ⟨w.pt, fun _ _ _ _ => w⟩
  | Compare a ops cs p =>
    refine ⟨?_, fun _ _ _ z => nomatch z⟩
    simp only [trC] at h
    split at h
    · split at h
      · rename_i hm h1 h2
        cases h
        exact t_cmp C hm (T.e C h1) (T.e C h2)
      · cases h
    · split at h
      · rename_i hm h1 h2 h3
        cases h
        exact t_chn C hm (T.e C h1) (T.e C h2) (T.e C h3)
      · cases h
    · cases h
  | Name y p =>
    simp only [trC] at h
    exact ⟨t_val (T.e C h) fun _ => rfl, fun _ _ _ z => nomatch z⟩
  | Call f es kws p =>
    simp only [trC] at h
    exact ⟨t_val (T.e C h) fun _ => rfl, fun _ _ _ z => nomatch z⟩
  | Subscript a i p =>
    simp only [trC] at h
    exact ⟨t_val (T.e C h) fun _ => rfl, fun _ _ _ z => nomatch z⟩
  | _ => simp only [trC] at h; cases h
theorem trEs_succ {n : Nat} (T : TrOk c G cf n) {sc : Scope} {st : Str → Bool} {X : Cx} {W : WX} {e : List Expr} {x : Exs} (C : Cy c G cf X W sc st) (h : trEs c (n + 1) sc e = some x) : PA X e (tA G W cf x) := by
  simp only [trEs] at h
  split at h
  · cases h
    exact a_nil
  · split at h
    · rename_i h1 h2
      cases h
      exact a_cons (trE_ns h1) (T.e C h1) (T.es C h2)
    · cases h
theorem ts_nil {X : Cx} {W : WX} : PTs X [] (tTc G W cf .nil) := PTs.imp pts_nil fun σ H Q ⟨ρ, F, S, env, r, en, q⟩ => by
  unfold evc at q
  exact q ρ H Ext.refl r
theorem ts_one {X : Cx} {W : WX} {e : Expr} {x : Ex} (h : PT X e (tT G W cf x)) : PTs X [e] (tTc G W cf (.cons x .nil)) := PTs.imp (pts_one h) fun σ H Q ⟨ρ, F, S, env, r, en, q⟩ => by
  unfold evc at q
  refine stepT Ext.refl r en q (fun d S1 q => ?_) fun k S1 ρ1 H1 e1 r1 n1 _ q1 => ?_
  · split at q
    · exact ⟨_, rfl⟩
    · exact q.elim
  · exact q1 ρ1 H1 e1 r1
theorem trCs_succ {n : Nat} (T : TrOk c G cf n) {sc : Scope} {st : Str → Bool} {X : Cx} {W : WX} {e : List Expr} {x : Exs} (C : Cy c G cf X W sc st) (h : trCs c (n + 1) sc e = some x) : PTs X e (tTc G W cf x) := by
  simp only [trCs] at h
  split at h
  · cases h
    exact ts_nil
  · obtain ⟨y, hy, rfl⟩ := Option.map_eq_some_iff.mp h
    exact ts_one (T.t C hy).1
  · cases h
theorem trO_succ {n : Nat} (T : TrOk c G cf n) {sc : Scope} {st : Str → Bool} {X : Cx} {W : WX} {e : Option Expr} {x : Ex} (C : Cy c G cf X W sc st) (h : trO c (n + 1) sc e = some x) : PO X e (tO G W cf x) ∧ ∀ env S (d : D) S', ev cf x env S = .ok d S' → ∃ k, partOf d = some k := by
  simp only [trO] at h
  split at h
  · cases h
    exact ⟨o_none, fun _ _ _ _ => part_non⟩
  · obtain ⟨y, hy, rfl⟩ := Option.map_eq_some_iff.mp h
    exact ⟨o_some (T.e C hy), fun _ _ _ _ => part_ci⟩
theorem trI_succ {n : Nat} (T : TrOk c G cf n) {sc : Scope} {st : Str → Bool} {X : Cx} {W : WX} {tg e : Expr} {x : Itx} (C : Cy c G cf X W sc st) (h : trI c (n + 1) sc tg e = some x) : PI X tg e (tI G W cf x) := by
  have seq : (trE c n sc e).map Itx.seq = some x → PI X tg e (tI G W cf x) := fun h => by
    obtain ⟨y, hy, rfl⟩ := Option.map_eq_some_iff.mp h
    exact i_seq C (T.e C hy)
  cases e with
  | Call f es kws p =>
    simp only [trI] at h
    split at h
    · split at h
      · rename_i hg hx
        obtain ⟨g1, g2⟩ := Bool.and_eq_true_iff.mp hg
        obtain ⟨y, hy, rfl⟩ := Option.map_eq_some_iff.mp h
        rw [of_decide_eq_true hx] at g1 g2 ⊢
        exact i_rng C g1 g2 (trE_ns hy) (T.e C hy)
      · rename_i hg hx _
        obtain ⟨g1, g2⟩ := Bool.and_eq_true_iff.mp hg
        split at h
        · obtain ⟨y, hy, rfl⟩ := Option.map_eq_some_iff.mp h
          rw [of_decide_eq_true hx] at g1 g2 ⊢
          exact i_enu C g1 g2 (trE_ns hy) (T.e C hy)
        · cases h
      · rename_i hg hx
        obtain ⟨g1, g2⟩ := Bool.and_eq_true_iff.mp hg
        split at h
        · rename_i hy hz
          cases h
          rw [of_decide_eq_true hx] at g1 g2 ⊢
          exact i_zip C g1 g2 (trE_ns hy) (trE_ns hz) (T.e C hy) (T.e C hz)
        · cases h
      · exact seq h
    · exact seq h
  | _ =>
    simp only [trI] at h
    exact seq h
theorem tr_ok : ∀ n, TrOk c G cf n
  | 0 => tr_zero
  | n + 1 =>
    have T := tr_ok n
    ⟨trE_succ T, trEs_succ T, trC_succ T, trCs_succ T, trO_succ T, trI_succ T⟩
end
end DE
/-! DEB: statements: from the text to Ss, the reading of what comes, the rules. -/
namespace DE
open PySem PySem.Spec PyProof.Rows L2

/-! ### from the text -/
/-- name = [..]: is the name stored ahead of the block's end -/
def swB (sc : Scope) (e tg : Expr) : Bool := match e with
  | .ListComp _ _ s p => (match tg with
    | .Name y py => (match sc.names.lookup y with
      | some .local => py.line == p.line && !(s.names.any fun q => q.1 == y && (q.2 == .local || q.2 == .cell))
      | _ => false)
    | _ => false)
  | _ => false
def isComp : Expr → Bool
  | .SetComp _ _ _ _ => true
  | .DictComp _ _ _ _ _ => true
  | _ => false
/-- plain local names of one line -/
def locs (sc : Scope) (ln : Nat) : List Expr → Option (List Str)
  | [] => some []
  | .Name x p :: r => (match sc.names.lookup x with
    | some .local => (match p.line == ln with
      | true => (locs sc ln r).map (x :: ·)
      | false => none)
    | _ => none)
  | _ => none
def hdLine : List Expr → Nat
  | e :: _ => e.pos.line
  | [] => 0
def isStar : Expr → Bool
  | .Starred _ _ => true
  | _ => false
/-- a, b = x, y: stored from the right, as such -/
def parB (sc : Scope) (ts vs : List Expr) : Bool := (Nat.beq ts.length 2 || Nat.beq ts.length 3) && Nat.beq vs.length ts.length && !(vs.any isStar) && !(vs.all (foldedForSure 8)) && !(vs.all (constantsAlone 8)) &&
  (match locs sc (hdLine ts) ts with
  | some ns => decide ns.Nodup
  | none => false)
/-- a, b = x, y: as any value -/
def notParB (sc : Scope) (ts vs : List Expr) : Bool := !((Nat.beq ts.length 2 || Nat.beq ts.length 3) && Nat.beq vs.length ts.length) || vs.all (foldedForSure 8) || (ts.any fun
  | .Name x _ => (match sc.names.lookup x with
    | some .cell => true
    | _ => false)
  | _ => true)
def excIn (c : Tc) (sc : Scope) : Expr → Option Nat
  | .Call (.Name x _) [.Constant (.str _) _ _] [] _ => (match gloB sc x with
    | true => c.exc x
    | false => none)
  | _ => none
mutual
def trS (c : Tc) : Nat → Scope → Stmt → Option Ss
  | 0, _, _ => none
  | n + 1, sc, s => match s with
    | .Assign [tg] e _ => (match tg with
      | .Name y _ => (match ownB sc y, slotOf c.N y, trE c n sc e with
        | true, some i, some x => some (.asg i x)
        | _, _, _ => none)
      | .Tuple ts _ _ => (match e with
        | .Tuple vs k2 p2 => (match parB sc ts vs with
          | true => (match slots c.N (ownB sc) ts, trEs c n sc vs with
            | some is, some xs => some (.par is xs)
            | _, _ => none)
          | false => (match notParB sc ts vs, slots c.N (ownB sc) ts, trE c n sc (.Tuple vs k2 p2) with
            | true, some is, some x => some (.asgT is x)
            | _, _, _ => none))
        | e => (match slots c.N (ownB sc) ts, trE c n sc e with
          | some is, some x => some (.asgT is x)
          | _, _ => none))
      | .Subscript o i _ => (match i with
        | .Slice _ _ _ _ => none
        | i => (match trE c n sc o, trE c n sc i, trE c n sc e with
          | some x, some y, some z => some (.setI x y z)
          | _, _, _ => none))
      | _ => none)
    | .Return none _ => some (.ret (.cst .non))
    | .Return (some e) _ => (trE c n sc e).map .ret
    | .If t a b _ => (match trC c n sc t, trSs c n sc a, trSs c n sc b with
      | some x, some y, some z => some (.iff x y z)
      | _, _, _ => none)
    | .While t a [] _ => (match trC c n sc t, trSs c n sc a with
      | some x, some y => some (.whl [] x y)
      | _, _ => none)
    | .For tg it a [] _ => (match trT c.N (ownB sc) tg, trI c n sc tg it, trSs c n sc a with
      | some g, some i, some y => some (.for [] g i y)
      | _, _, _ => none)
    | .Expr e _ => (match e with
      | .ListComp _ _ _ _ => none
      | e => (trE c n sc e).map .exp)
    | .Pass _ => some .pass
    | .Break _ => some .brk
    | .Continue _ => some .cnt
    | .Raise (some e) none _ => (match excIn c sc e with
      | some k => some (.rse k)
      | none => some .nev)
    | _ => none
def trSs (c : Tc) : Nat → Scope → List Stmt → Option (List Ss)
  | 0, _, _ => none
  | n + 1, sc, ss => match ss with
    | [] => some []
    | s :: r => (match trS c n sc s, trSs c n sc r with
      | some x, some y => some (x :: y)
      | _, _ => none)
end
end DE
/-! DEC: statements: the rules. -/
namespace DE
open PySem PySem.Spec PyProof.Rows L2
section
variable {G : Gx} {W : WX} {cf : CF} {ρ ρ0 ρ1 ρ' : List Addr} {H H0 H1 H' : Hp} {F : Frm} {S S' S1 : Sto} {Q : VK} {X : Cx} {σ : L2.St} {env : Env} {Y : Ends}
variable {c : Tc} {sc : Scope}

/-- what a statement's end must be, seen from the state ρ H -/
def PX (G : Gx) (W : WX) (ρ : List Addr) (H : Hp) (F : Frm) (Y : Ends) (r : RX) : Prop := match r with
  | .ok .nx env' S' => ∀ ρ' H' σ', Ext ρ H ρ' H' → RS G ρ' F H' S' → REnv G ρ' H' env' σ' → Y.nx σ' H'
  | .ok .bk env' S' => ∀ ρ' H' σ', Ext ρ H ρ' H' → RS G ρ' F H' S' → REnv G ρ' H' env' σ' → Y.bk σ' H'
  | .ok .ct env' S' => ∀ ρ' H' σ', Ext ρ H ρ' H' → RS G ρ' F H' S' → REnv G ρ' H' env' σ' → Y.ct σ' H'
  | .ok (.rt d) _ S' => ∀ v ρ' H', Ext ρ H ρ' H' → RS G ρ' F H' S' → RV G ρ' H' d v → Y.rt v H'
  | .ex k x env' S' => ∀ ρ' H' σ', Ext ρ H ρ' H' → RS G ρ' F H' S' → REnv G ρ' H' env' σ' → ∀ cv dx, G.xr k x cv dx H' → W cv dx σ' H'
  | .no => False
theorem PX.mono {r : RX} (e : Ext ρ0 H0 ρ1 H1) (h : PX G W ρ0 H0 F Y r) : PX G W ρ1 H1 F Y r := by
  cases r with
  | no => exact h
  | ex k x env' S' => exact fun ρ' H' σ' e' => h ρ' H' σ' (e.trans e')
  | ok f env' S' =>
    cases f with
    | rt d => exact fun v ρ' H' e' => h v ρ' H' (e.trans e')
    | _ => exact fun ρ' H' σ' e' => h ρ' H' σ' (e.trans e')
def tX (G : Gx) (W : WX) (f : Env → Sto → RX) : TS := fun Y σ H => ∃ ρ F S env, RS G ρ F H S ∧ REnv G ρ H env σ ∧ PX G W ρ H F Y (f env S)
theorem PS.imp {s : Stmt} {t t' : TS} (h : PS X s t) (i : ∀ Y σ H, t' Y σ H → t Y σ H) : PS X s t' := ⟨fun pins s σ H Y I q => h.run pins s σ H Y I (i Y σ H q)⟩
theorem PSs.imp {s : List Stmt} {t t' : TS} (h : PSs X s t) (i : ∀ Y σ H, t' Y σ H → t Y σ H) : PSs X s t' := ⟨fun pins s σ H Y I q => h.run pins s σ H Y I (i Y σ H q)⟩
/-- an expression ahead of what a statement does -/
theorem goE {x : Ex} {f : D → Sto → RX} {Q' : VK} (e0 : Ext ρ0 H0 ρ H) (r : RS G ρ F H S) (en : REnv G ρ H env σ) (h : PX G W ρ0 H0 F Y ((ev cf x env S).go env f))
    (k : ∀ d S1 v ρ1 H1, Ext ρ0 H0 ρ1 H1 → RS G ρ1 F H1 S1 → REnv G ρ1 H1 env σ → Ext ρ H ρ1 H1 → RV G ρ1 H1 d v → PX G W ρ0 H0 F Y (f d S1) → Q' v H1) : tE G W cf x σ H Q' := by
  refine ⟨ρ, F, S, env, r, en, ?_⟩
  cases q : ev cf x env S with
  | ok d S1 =>
    rw [q] at h
    exact fun v ρ' H' e' r' hv => k d S1 v ρ' H' (e0.trans e') r' (en.mono e') e' hv h
  | ex kk y S1 =>
    rw [q] at h
    exact fun ρ' H' e' r' cv dx hx => h ρ' H' σ (e0.trans e') r' (en.mono e') cv dx hx
  | no =>
    rw [q] at h
    exact h
theorem goA {x : Exs} {f : List D → Sto → RX} {Q' : List V → Hp → Prop} (e0 : Ext ρ0 H0 ρ H) (r : RS G ρ F H S) (en : REnv G ρ H env σ) (h : PX G W ρ0 H0 F Y ((evs cf x env S).go env f))
    (k : ∀ d S1 v ρ1 H1, Ext ρ0 H0 ρ1 H1 → RS G ρ1 F H1 S1 → REnv G ρ1 H1 env σ → Ext ρ H ρ1 H1 → RVs G ρ1 H1 d v → PX G W ρ0 H0 F Y (f d S1) → Q' v H1) : tA G W cf x σ H Q' := by
  refine ⟨ρ, F, S, env, r, en, ?_⟩
  cases q : evs cf x env S with
  | ok d S1 =>
    rw [q] at h
    exact fun v ρ' H' e' r' hv => k d S1 v ρ' H' (e0.trans e') r' (en.mono e') e' hv h
  | ex kk y S1 =>
    rw [q] at h
    exact fun ρ' H' e' r' cv dx hx => h ρ' H' σ (e0.trans e') r' (en.mono e') cv dx hx
  | no =>
    rw [q] at h
    exact h
theorem goT {x : Ex} {f : D → Sto → RX} {Q' : Bool → Hp → Prop} (e0 : Ext ρ0 H0 ρ H) (r : RS G ρ F H S) (en : REnv G ρ H env σ) (h : PX G W ρ0 H0 F Y ((ev cf x env S).go env f)) (hb : ∀ d S1, PX G W ρ0 H0 F Y (f d S1) → ∃ k, d = .bl k)
    (k : ∀ b S1 ρ1 H1, Ext ρ0 H0 ρ1 H1 → RS G ρ1 F H1 S1 → REnv G ρ1 H1 env σ → Ext ρ H ρ1 H1 → PX G W ρ0 H0 F Y (f (.bl b) S1) → Q' b H1) : tT G W cf x σ H Q' := by
  refine ⟨ρ, F, S, env, r, en, ?_⟩
  cases q : ev cf x env S with
  | ok d S1 =>
    rw [q] at h
    obtain ⟨b, rfl⟩ := hb d S1 h
    exact ⟨b, rfl, fun ρ' H' e' r' => k b S1 ρ' H' (e0.trans e') r' (en.mono e') e' h⟩
  | ex kk y S1 =>
    rw [q] at h
    exact fun ρ' H' e' r' cv dx hx => h ρ' H' σ (e0.trans e') r' (en.mono e') cv dx hx
  | no =>
    rw [q] at h
    exact h
theorem goI {x : Itx} {f : IV → Sto → RX} {Q' : It → Hp → Prop} (e0 : Ext ρ0 H0 ρ H) (r : RS G ρ F H S) (en : REnv G ρ H env σ) (h : PX G W ρ0 H0 F Y ((evi cf x env S).go env f))
    (k : ∀ iv J S1 ρ1 H1, Ext ρ0 H0 ρ1 H1 → RS G ρ1 F H1 S1 → REnv G ρ1 H1 env σ → ItR G ρ1 H1 iv J → PX G W ρ0 H0 F Y (f iv S1) → Q' J H1) : tI G W cf x σ H Q' := by
  refine ⟨ρ, F, S, env, r, en, ?_⟩
  cases q : evi cf x env S with
  | ok iv S1 =>
    rw [q] at h
    exact fun J ρ' H' e' r' ij => k iv J S1 ρ' H' (e0.trans e') r' (en.mono e') ij h
  | ex kk y S1 =>
    rw [q] at h
    exact fun ρ' H' e' r' cv dx hx => h ρ' H' σ (e0.trans e') r' (en.mono e') cv dx hx
  | no =>
    rw [q] at h
    exact h
/-- the rest is a statement list -/
theorem tailX {f : Env → Sto → RX} (e : Ext ρ0 H0 ρ H) (r : RS G ρ F H S) (en : REnv G ρ H env σ) (h : PX G W ρ0 H0 F Y (f env S)) : tX G W f Y σ H := ⟨ρ, F, S, env, r, en, h.mono e⟩

/-! ### the context of a def's body -/
structure Cs (c : Tc) (G : Gx) (cf : CF) (X : Cx) (W : WX) (sc : Scope) : Prop where
  y : Cy c G cf X W sc (ownB sc)
  kd : sc.kind = .function
  po : PassesOwn (model X.prog X.w) X.A X.env X.xe
theorem Cs.bk (C : Cs c G cf X W sc) : X.env.blockKind = .function := by
  unfold Env.blockKind
  rw [C.y.sc, C.kd]
  rfl
theorem Cs.kof (C : Cs c G cf X W sc) (x : Str) : X.env.kindOf x = sc.names.lookup x := by
  show X.env.scope.names.lookup x = _
  rw [C.y.sc]
/-! ### small statements -/
theorem s_nil : PSs X [] (tX G W (execs cf [])) := PSs.imp pss_nil fun D σ H ⟨ρ, F, S, env, r, en, q⟩ => by
  unfold execs at q
  exact q ρ H σ Ext.refl r en
theorem s_cons {s : Stmt} {ss : List Stmt} {x : Ss} {xs : List Ss} (h1 : PS X s (tX G W (exec cf x))) (h2 : PSs X ss (tX G W (execs cf xs))) : PSs X (s :: ss) (tX G W (execs cf (x :: xs))) := by
  refine PSs.imp (pss_cons h1 h2) fun D σ H ⟨ρ, F, S, env, r, en, q⟩ => ?_
  unfold execs at q
  refine ⟨ρ, F, S, env, r, en, ?_⟩
  cases e : exec cf x env S with
  | no =>
    rw [e] at q
    exact q
  | ex k y e2 S1 =>
    rw [e] at q
    exact q
  | ok f e2 S1 =>
    rw [e] at q
    cases f with
    | nx => exact fun ρ' H' σ' e' r' en' => tailX e' r' en' q
    | rt d => exact q
    | bk => exact q
    | ct => exact q
theorem s_pass {pos : Pos} : PS X (.Pass pos) (tX G W (exec cf .pass)) := PS.imp ps_pass fun D σ H ⟨ρ, F, S, env, r, en, q⟩ => by
  unfold exec at q
  exact q ρ H σ Ext.refl r en
theorem s_brk {pos : Pos} : PS X (.Break pos) (tX G W (exec cf .brk)) := PS.imp ps_break fun D σ H ⟨ρ, F, S, env, r, en, q⟩ => by
  unfold exec at q
  exact q ρ H σ Ext.refl r en
theorem s_cnt {pos : Pos} : PS X (.Continue pos) (tX G W (exec cf .cnt)) := PS.imp ps_continue fun D σ H ⟨ρ, F, S, env, r, en, q⟩ => by
  unfold exec at q
  exact q ρ H σ Ext.refl r en
theorem s_nev {s : Stmt} : PS X s (tX G W (exec cf .nev)) := PS.imp ps_never fun D σ H ⟨ρ, F, S, env, r, en, q⟩ => by
  unfold exec at q
  exact q
theorem s_retN {pos : Pos} : PS X (.Return none pos) (tX G W (exec cf (.ret (.cst .non)))) := PS.imp ps_retN fun D σ H ⟨ρ, F, S, env, r, en, q⟩ => by
  unfold exec ev at q
  exact q .non ρ H Ext.refl r rfl
theorem s_ret {e : Expr} {x : Ex} {pos : Pos} (h : PE X e (tE G W cf x)) : PS X (.Return (some e) pos) (tX G W (exec cf (.ret x))) := by
  refine PS.imp (ps_ret h) fun D σ H ⟨ρ, F, S, env, r, en, q⟩ => ?_
  unfold exec at q
  exact goE Ext.refl r en q fun d S1 v ρ1 H1 e1 r1 n1 _ h1 q1 => q1 v ρ1 H1 e1 r1 h1
theorem sw_no {e : Expr} {tg : Option Expr} {l : Nat} {v : PySem.Env} (h : ∀ a b s p, e ≠ .ListComp a b s p) (h2 : isComp e = false) : swapsWith e tg l v = pure false := by
  cases e <;> first | rfl | exact absurd rfl (h _ _ _ _) | cases h2
theorem trE_nocomp {n : Nat} {e : Expr} {x : Ex} (h : trE c n sc e = some x) : isComp e = false := by
  cases n with
  | zero => simp only [trE] at h; cases h
  | succ n => cases e <;> first | rfl | (simp only [trE] at h; cases h)
theorem s_exp {e : Expr} {x : Ex} {pos : Pos} (hl : ∀ a b s p, e ≠ .ListComp a b s p) (hc : isComp e = false) (h : PE X e (tE G W cf x)) : PS X (.Expr e pos) (tX G W (exec cf (.exp x))) := by
  refine PS.imp (ps_expr h (sw_no hl hc)) fun D σ H ⟨ρ, F, S, env, r, en, q⟩ => ?_
  unfold exec at q
  exact goE Ext.refl r en q fun d S1 v ρ1 H1 e1 r1 n1 _ h1 q1 => q1 ρ1 H1 σ e1 r1 n1
theorem s_if {t : Expr} {a b : List Stmt} {x : Ex} {y z : List Ss} {pos : Pos} (ht : PT X t (tT G W cf x)) (ha : PSs X a (tX G W (execs cf y))) (hb : PSs X b (tX G W (execs cf z))) : PS X (.If t a b pos) (tX G W (exec cf (.iff x y z))) := by
  refine PS.imp (ps_if ht ha hb) fun D σ H ⟨ρ, F, S, env, r, en, q⟩ => ?_
  unfold exec at q
  refine goT Ext.refl r en q (fun d S1 q => ?_) fun k S1 ρ1 H1 e1 r1 n1 _ q1 => ?_
  · split at q
    · exact ⟨_, rfl⟩
    · exact ⟨_, rfl⟩
    · exact q.elim
  · cases k with
    | true =>
      rw [if_pos rfl]
      exact tailX e1 r1 n1 q1
    | false =>
      rw [if_neg Bool.false_ne_true]
      exact tailX e1 r1 n1 q1
theorem s_rse (C : Cs c G cf X W sc) {e : Expr} {k : Nat} {pos : Pos} (h : excIn c sc e = some k) : PS X (.Raise (some e) none pos) (tX G W (exec cf (.rse k))) := by
  unfold excIn at h
  split at h
  · split at h
    · rename_i hg
      obtain ⟨Cc, bmB, B, newId, initId, f1, f2, f3, f4, f5, f6⟩ := C.y.exc _ _ h
      obtain ⟨g1, g2⟩ := gloB_ok C.y.sc hg
      refine PS.imp (ps_raise C.y.calm C.y.tk (pmk_own f1 f2 f3 f4 f5 g1 g2)) fun Y σ H ⟨ρ, F, S, env, r, en, q⟩ => ?_
      unfold exec at q
      exact q ρ H σ Ext.refl r en _ _ (f6 H)
    · cases h
  · cases h
end
end DE
/-! DED: statements: assignments, loops. -/
namespace DE
open PySem PySem.Spec PyProof.Rows L2
theorem ss2 {env : PySem.Env} {x y : Str} {a b : Expr} {px py pt pt2 : Pos} {kt k2 : Nat} (hb : env.blockKind = .function) (hx : env.kindOf x = some .local) (hy : env.kindOf y = some .local) (hl : (py.line == px.line) = true) (h1 : isStar a = false) (h2 : isStar b = false)
    (hf : [a, b].all (foldedForSure 8) = false) (hc : [a, b].all (constantsAlone 8) = false) (hxy : x ≠ y) : swappedStores [.Tuple [.Name x px, .Name y py] kt pt] (.Tuple [a, b] k2 pt2) env = pure (some [x, y]) := by
  have ne : ¬ y = x := fun e => hxy e.symm
  have hl' : py.line = px.line := by simpa using hl
  unfold swappedStores
  simp only [hb, List.any_cons, List.any_nil, List.length_cons, List.length_nil, List.filterMap_cons, List.filterMap_nil, hx, hy, hf, hc]
  refine (if_neg (by decide)).trans ((if_neg fun h => ?_).trans ?_)
  · rw [Bool.or_eq_true] at h
    rcases h with h | h
    · cases a <;> first | (cases h1; done) | cases h
    · rw [Bool.or_false] at h
      cases b <;> first | (cases h2; done) | cases h
  · simp [Expr.pos, hl', List.eraseDups_cons, ne, hxy]
theorem ss3 {env : PySem.Env} {x y z : Str} {a b c : Expr} {px py pz pt pt2 : Pos} {kt k2 : Nat} (hb : env.blockKind = .function) (hx : env.kindOf x = some .local) (hy : env.kindOf y = some .local) (hz : env.kindOf z = some .local) (hl : (py.line == px.line) = true) (hl2 : (pz.line == px.line) = true) (h1 : isStar a = false) (h2 : isStar b = false) (h3 : isStar c = false)
    (hf : [a, b, c].all (foldedForSure 8) = false) (hc : [a, b, c].all (constantsAlone 8) = false) (hxy : x ≠ y) (hxz : x ≠ z) (hyz : y ≠ z) : swappedStores [.Tuple [.Name x px, .Name y py, .Name z pz] kt pt] (.Tuple [a, b, c] k2 pt2) env = pure (some [x, y, z]) := by
  have e1 : ¬ y = x := fun e => hxy e.symm
  have e2 : ¬ z = x := fun e => hxz e.symm
  have e3 : ¬ z = y := fun e => hyz e.symm
  have hl' : py.line = px.line := by simpa using hl
  have hl2' : pz.line = px.line := by simpa using hl2
  unfold swappedStores
  simp only [hb, List.any_cons, List.any_nil, List.length_cons, List.length_nil, List.filterMap_cons, List.filterMap_nil, hx, hy, hz, hf, hc]
  refine (if_neg (by decide)).trans ((if_neg fun h => ?_).trans ?_)
  · rw [Bool.or_eq_true] at h
    rcases h with h | h
    · cases a <;> first | (cases h1; done) | cases h
    · rw [Bool.or_eq_true] at h
      rcases h with h | h
      · cases b <;> first | (cases h2; done) | cases h
      · rw [Bool.or_false] at h
        cases c <;> first | (cases h3; done) | cases h
  · simp [Expr.pos, hl', hl2', List.eraseDups_cons, e1, e2, e3, hxy, hxz, hyz]
theorem ssF {env : PySem.Env} {ts vs : List Expr} {kt k2 : Nat} {pt pt2 : Pos} (h : vs.all (foldedForSure 8) = true) : swappedStores [.Tuple ts kt pt] (.Tuple vs k2 pt2) env = pure none := by
  unfold swappedStores
  simp only [h]
  split
  · rfl
  · split
    · rfl
    · split
      · rfl
      · rfl
theorem nbeq (a b : Nat) : Nat.beq a b = (a == b) := by
  rw [Bool.eq_iff_iff]
  constructor
  · intro h
    have := Nat.eq_of_beq_eq_true h
    simpa using this
  · intro h
    have : a = b := by simpa using h
    subst this
    exact Nat.beq_refl a
theorem ssN {env : PySem.Env} {ts vs : List Expr} {kt k2 : Nat} {pt pt2 : Pos} (h : ((Nat.beq ts.length 2 || Nat.beq ts.length 3) && Nat.beq vs.length ts.length) = false) : swappedStores [.Tuple ts kt pt] (.Tuple vs k2 pt2) env = pure none := by
  unfold swappedStores
  simp only
  have : (!(ts.length == 2 || ts.length == 3) || vs.length != ts.length || env.blockKind != .function) = true := by
    have h' : ((ts.length == 2 || ts.length == 3) && (vs.length == ts.length)) = false := by rw [← nbeq, ← nbeq, ← nbeq]; exact h
    rcases Bool.and_eq_false_iff.mp h' with q | q
    · rw [q]; rfl
    · rw [show (vs.length != ts.length) = true by unfold bne; rw [q]; rfl]; simp
  exact if_pos this
theorem fm_lt {α β : Type} (f : α → Option β) : ∀ (l : List α), (∃ a ∈ l, f a = none) → (l.filterMap f).length ≠ l.length
  | [], ⟨_, h, _⟩ => by cases h
  | a :: l, ⟨b, hb, hf⟩ => by
    have le := List.length_filterMap_le f l
    rw [List.filterMap_cons]
    rcases List.mem_cons.mp hb with rfl | hb
    · rw [hf]
      simp only [List.length_cons]
      omega
    · have ih := fm_lt f l ⟨b, hb, hf⟩
      split
      · simp only [List.length_cons]; omega
      · simp only [List.length_cons]; omega
theorem ssC {env : PySem.Env} {ts vs : List Expr} {kt k2 : Nat} {pt pt2 : Pos} (h : ∃ t ∈ ts, ∀ x p, t = .Name x p → env.kindOf x ≠ some .local) : swappedStores [.Tuple ts kt pt] (.Tuple vs k2 pt2) env = pure none := by
  unfold swappedStores
  simp only
  split
  · rfl
  · split
    · rfl
    · refine if_pos ?_
      rw [Bool.or_eq_true]
      refine .inl ?_
      rw [bne_iff_ne]
      refine fm_lt _ _ ?_
      obtain ⟨t, ht, hk⟩ := h
      refine ⟨t, ht, ?_⟩
      cases t with
      | Name x p =>
        have hk := hk x p rfl
        have : (env.kindOf x == some .local) = false := by
          cases e : env.kindOf x == some NameKind.local with
          | false => rfl
          | true => exact absurd (by simpa using e) hk
        simp [this]
      | _ => rfl

section
variable {G : Gx} {W : WX} {cf : CF} {ρ ρ0 ρ1 ρ' : List Addr} {H H0 H1 H' : Hp} {F : Frm} {S S' S1 : Sto} {Q : VK} {X : Cx} {σ : L2.St} {env : Env} {Y : Ends}
variable {c : Tc} {sc : Scope}
theorem ss_not (C : Cs c G cf X W sc) {ts vs : List Expr} {kt k2 : Nat} {pt pt2 : Pos} (h : notParB sc ts vs = true) : swappedStores [.Tuple ts kt pt] (.Tuple vs k2 pt2) X.env = pure none := by
  unfold notParB at h
  rcases Bool.or_eq_true_iff.mp h with h | h
  · rcases Bool.or_eq_true_iff.mp h with h | h
    · refine ssN ?_
      cases z : ((Nat.beq ts.length 2 || Nat.beq ts.length 3) && Nat.beq vs.length ts.length) with
      | false => rfl
      | true => rw [z] at h; cases h
    · exact ssF h
  · obtain ⟨t, ht, q⟩ := List.any_eq_true.mp h
    refine ssC ⟨t, ht, fun x p e => ?_⟩
    subst e
    rw [C.kof]
    intro z
    simp only [z] at q
    cases q
theorem sw_eq (C : Cs c G cf X W sc) {e tg : Expr} {l : Nat} (h2 : isComp e = false) : swapsWith e (some tg) l X.env = pure (swB sc e tg) := by
  cases e with
  | ListComp elt gs scope p =>
    unfold swapsWith swB
    cases tg with
    | Name y py =>
      simp only [C.bk, C.kof]
      cases e : sc.names.lookup y with
      | none => simp
      | some k => cases k <;> first | rfl | simp [Expr.pos]
    | _ => rfl
  | SetComp _ _ _ _ => cases h2
  | DictComp _ _ _ _ _ => cases h2
  | _ => rfl
theorem ownB_st {x : Str} (C : Cs c G cf X W sc) (h : ownB sc x = true) : Loc X.env.scope x ∧ (X.fn x = true ∨ X.env.scope.names.lookup x = some .local) := C.y.st x h
theorem s_asg (C : Cs c G cf X W sc) {y : Str} {py pos : Pos} {e : Expr} {i : Nat} {x : Ex} (ho : ownB sc y = true) (hi : slotOf c.N y = some i) (hsw : swB sc e (.Name y py) = false) (hcm : isComp e = false) (he : PE X e (tE G W cf x)) : PS X (.Assign [.Name y py] e pos) (tX G W (exec cf (.asg i x))) := by
  obtain ⟨l1, l2⟩ := C.y.st y ho
  refine PS.imp (ps_set (by rw [C.y.N]; exact C.y.nd) (C.y.slot hi) l1 he (by rw [sw_eq C hcm, hsw]) l2) fun Y σ H ⟨ρ, F, S, env, r, en, q⟩ => ?_
  unfold exec at q
  exact goE Ext.refl r en q fun d S1 v ρ1 H1 e1 r1 n1 _ h1 q1 => q1 ρ1 H1 _ e1 r1 (n1.set h1)
theorem s_asgLc {n : Nat} (T : TrOk c G cf n) (C : Cs c G cf X W sc) {y : Str} {py pos : Pos} {e : Expr} {i : Nat} {x : Ex} (ho : ownB sc y = true) (hi : slotOf c.N y = some i) (hsw : swB sc e (.Name y py) = true) (he : trE c (n + 1) sc e = some x) : PS X (.Assign [.Name y py] e pos) (tX G W (exec cf (.asg i x))) := by
  cases e with
  | ListComp elt gs scope p =>
    have sw : swapsWith (.ListComp elt gs scope p) (some (.Name y py)) pos.line X.env = pure true := by rw [sw_eq C rfl, hsw]
    have hl : X.env.scope.names.lookup y = some .local := by
      unfold swB at hsw
      simp only at hsw
      rw [C.y.sc]
      split at hsw
      · assumption
      · cases hsw
    simp only [trE] at he
    split at he
    · rename_i tg it ifs
      split at he
      · rename_i g j cs x hb hg hit hcs hel
        cases he
        have own := trT_own hg
        refine PS.imp (ps_setLc C.y.calm (by rw [C.y.N]; exact C.y.nd) (C.y.slot hi) hl sw (T.i C.y hit) (by rw [C.y.N, C.y.sc]; exact blkOk_by hb) (g := tG G g) (tt := tTc G W0 cf cs) (te := tE G W0 cf x) (fun s H A cl fp => g_ok (C.y.blk scope s H A cl fp) hg) (fun s H A cl fp => T.ts (C.y.blk scope s H A cl fp) hcs) (fun s H A cl fp => T.e (C.y.blk scope s H A cl fp) hel) (fold_it hit)) fun Y σ H ⟨ρ, F, S, env, r, en, q⟩ => ?_
        unfold exec at q
        exact lc_rd own (goE Ext.refl r en q fun d S1 v ρ1 H1 e1 r1 n1 _ h1 q1 => q1 ρ1 H1 _ e1 r1 (n1.set h1))
      · cases he
    · cases he
  | _ => cases hsw
theorem s_asgT (C : Cs c G cf X W sc) {ts : List Expr} {kt : Nat} {pt pos : Pos} {e : Expr} {is : List Nat} {x : Ex} (hs : slots c.N (ownB sc) ts = some is) (hw : swappedStores [.Tuple ts kt pt] e X.env = pure none) (hcm : isComp e = false) (he : PE X e (tE G W cf x)) : PS X (.Assign [.Tuple ts kt pt] e pos) (tX G W (exec cf (.asgT is x))) := by
  have hg : PG X (.Tuple ts kt pt) (tG G (.t is)) := g_ok C.y (by simp only [trT, hs, Option.map_some])
  have hsw : swapsWithSole [.Tuple ts kt pt] e pos.line X.env = pure false := by
    show swapsWith e (some (.Tuple ts kt pt)) pos.line X.env = _
    rw [sw_eq C hcm]
    cases e <;> rfl
  refine PS.imp (ps_asg he hg hsw hw) fun Y σ H ⟨ρ, F, S, env, r, en, q⟩ => ?_
  unfold exec at q
  refine goE Ext.refl r en q fun d S1 v ρ1 H1 e1 r1 n1 _ h1 q1 => ?_
  split at q1
  · rename_i e2 hb
    exact bind_ok n1 h1 hb fun xs en' => q1 ρ1 H1 _ e1 r1 en'
  · exact q1.elim
theorem s_setI (C : Cs c G cf X W sc) {o i e : Expr} {tp pos : Pos} {x y z : Ex} (hi : ∀ a b s p, i ≠ .Slice a b s p) (hcm : isComp e = false) (ho : PE X o (tE G W cf x)) (hix : PE X i (tE G W cf y)) (he : PE X e (tE G W cf z)) : PS X (.Assign [.Subscript o i tp] e pos) (tX G W (exec cf (.setI x y z))) := by
  have hsw : swapsWithSole [.Subscript o i tp] e pos.line X.env = pure false := by
    show swapsWith e (some (.Subscript o i tp)) pos.line X.env = _
    rw [sw_eq C hcm]
    cases e <;> rfl
  refine PS.imp (ps_asg he (pg_sub ho hix (set_ok (G := G) C.y.un) (by intro v; cases i <;> first | rfl | exact absurd rfl (hi _ _ _ _))) hsw) fun Y σ H ⟨ρ, F, S, env, r, en, q⟩ => ?_
  unfold exec at q
  refine goE Ext.refl r en q fun d S1 v ρ1 H1 e1 r1 n1 _ h1 q1 => ?_
  show tE G W cf x σ H1 _
  refine goE e1 r1 n1 q1 fun d2 S2 v2 ρ2 H2 e2 r2 n2 e12 h2 q2 => ?_
  refine goE e2 r2 n2 q2 fun d3 S3 v3 ρ3 H3 e3 r3 n3 e23 h3 q3 => ?_
  refine ⟨ρ3, F, S3, d2, d3, d, r3, RV.mono e23 _ _ h2, h3, RV.mono (e12.trans e23) _ _ h1, ?_⟩
  cases hset : setI d2 d3 d S3 with
  | ok u S4 =>
    rw [hset] at q3
    exact fun ρ4 H4 e4 r4 => q3 ρ4 H4 σ (e3.trans e4) r4 (n3.mono e4)
  | ex k y S4 =>
    exact absurd hset (by unfold setI; repeat' (first | (intro z; cases z; done) | split))
  | no =>
    rw [hset] at q3
    exact q3.elim

/-! ### stored from the right -/
theorem locs_cons {ln : Nat} {t : Expr} {r : List Expr} {ns : List Str} (h : locs sc ln (t :: r) = some ns) : ∃ x p ns', t = .Name x p ∧ sc.names.lookup x = some .local ∧ (p.line == ln) = true ∧ ns = x :: ns' ∧ locs sc ln r = some ns' := by
  cases t with
  | Name x p =>
    simp only [locs] at h
    split at h
    · rename_i hl
      split at h
      · rename_i hp
        obtain ⟨ns', h1, rfl⟩ := Option.map_eq_some_iff.mp h
        exact ⟨x, p, ns', rfl, hl, hp, rfl, h1⟩
      · cases h
    · cases h
  | _ => simp only [locs] at h; cases h
theorem slots_cons {st : Str → Bool} {N : List Str} {x : Str} {p : Pos} {r : List Expr} {is : List Nat} (h : slots N st (.Name x p :: r) = some is) : ∃ i js, slotOf N x = some i ∧ is = i :: js ∧ slots N st r = some js := by
  simp only [slots] at h
  split at h
  · split at h
    · rename_i i hi
      obtain ⟨js, h1, rfl⟩ := Option.map_eq_some_iff.mp h
      exact ⟨i, js, hi, rfl, h1⟩
    · cases h
  · cases h
theorem slot_ne {N : List Str} {x y : Str} {i j : Nat} (hi : slotOf N x = some i) (hj : slotOf N y = some j) (h : x ≠ y) : i ≠ j := fun e => by
  have a := slotOf_get hi
  have b := slotOf_get hj
  rw [e, b] at a
  cases a
  exact h rfl
theorem s_par (C : Cs c G cf X W sc) {ts vs : List Expr} {kt k2 : Nat} {pt pt2 pos : Pos} {is : List Nat} {xs : Exs} (h : parB sc ts vs = true) (hs : slots c.N (ownB sc) ts = some is) (ha : PA X vs (tA G W cf xs)) : PS X (.Assign [.Tuple ts kt pt] (.Tuple vs k2 pt2) pos) (tX G W (exec cf (.par is xs))) := by
  unfold parB at h
  obtain ⟨h, h6⟩ := Bool.and_eq_true_iff.mp h
  obtain ⟨h, h5⟩ := Bool.and_eq_true_iff.mp h
  obtain ⟨h, h4⟩ := Bool.and_eq_true_iff.mp h
  obtain ⟨h, h3⟩ := Bool.and_eq_true_iff.mp h
  obtain ⟨h1, h2⟩ := Bool.and_eq_true_iff.mp h
  have hN : X.N.Nodup := by rw [C.y.N]; exact C.y.nd
  have hl2 := Nat.eq_of_beq_eq_true h2
  split at h6
  case h_2 => cases h6
  rename_i ns hns
  have nd : ns.Nodup := of_decide_eq_true h6
  cases ts with
  | nil => cases h1
  | cons t1 ts =>
  cases ts with
  | nil => cases h1
  | cons t2 ts =>
  obtain ⟨x, px, ns1, rfl, lx, ex, rfl, hns2⟩ := locs_cons hns
  obtain ⟨y, py, ns2, rfl, ly, ey, rfl, hns3⟩ := locs_cons hns2
  obtain ⟨i, js, hi, rfl, hs2⟩ := slots_cons hs
  obtain ⟨j, ls, hj, rfl, hs3⟩ := slots_cons hs2
  have xy : x ≠ y := fun e => by subst e; simp at nd
  have lx' : X.env.scope.names.lookup x = some .local := by rw [C.y.sc]; exact lx
  have ly' : X.env.scope.names.lookup y = some .local := by rw [C.y.sc]; exact ly
  have f4 : vs.all (foldedForSure 8) = false := by simpa using h4
  have f5 : vs.all (constantsAlone 8) = false := by simpa using h5
  have f3 : vs.any isStar = false := by simpa using h3
  cases ts with
  | nil =>
    cases hs3
    cases vs with
    | nil => cases hl2
    | cons a vs =>
    cases vs with
    | nil => cases hl2
    | cons b vs =>
    cases vs with
    | cons _ _ => simp at hl2
    | nil =>
    rw [List.any_cons, List.any_cons, Bool.or_eq_false_iff, Bool.or_eq_false_iff] at f3
    have hw := ss2 (kt := kt) (pt := pt) (k2 := k2) (pt2 := pt2) C.bk (by rw [C.kof]; exact lx) (by rw [C.kof]; exact ly) ey f3.1 f3.2.1 f4 f5 xy
    refine PS.imp (ps_par C.y.calm hN (C.y.slot hi) (C.y.slot hj) (slot_ne hi hj xy) lx' ly' ha hw) fun Y σ H ⟨ρ, F, S, env, r, en, q⟩ => ?_
    unfold exec at q
    refine goA Ext.refl r en q fun ds S1 ws ρ1 H1 e1 r1 n1 _ h1 q1 => ?_
    split at q1
    · rename_i hd
      have hd := Nat.eq_of_beq_eq_true hd
      cases ds with
      | nil => cases hd
      | cons d1 ds =>
      cases ds with
      | nil => cases hd
      | cons d2 ds =>
      cases ds with
      | cons _ _ => simp at hd
      | nil =>
      obtain ⟨v1, _, rfl, g1, v2, _, rfl, g2, rfl⟩ := h1
      exact ⟨v1, v2, rfl, q1 ρ1 H1 _ e1 r1 ((n1.set g1).set g2)⟩
    · exact q1.elim
  | cons t3 ts =>
    cases ts with
    | cons _ _ => simp [Nat.beq] at h1
    | nil =>
    obtain ⟨z, pz, ns3, rfl, lz, ez, rfl, hns4⟩ := locs_cons hns3
    obtain ⟨l, ls', hl, rfl, hs4⟩ := slots_cons hs3
    cases hs4
    have xz : x ≠ z := fun e => by subst e; simp at nd
    have yz : y ≠ z := fun e => by subst e; simp at nd
    have lz' : X.env.scope.names.lookup z = some .local := by rw [C.y.sc]; exact lz
    cases vs with
    | nil => cases hl2
    | cons a vs =>
    cases vs with
    | nil => cases hl2
    | cons b vs =>
    cases vs with
    | nil => simp at hl2
    | cons e vs =>
    cases vs with
    | cons _ _ => simp at hl2
    | nil =>
    rw [List.any_cons, List.any_cons, List.any_cons, Bool.or_eq_false_iff, Bool.or_eq_false_iff, Bool.or_eq_false_iff] at f3
    have hw := ss3 (kt := kt) (pt := pt) (k2 := k2) (pt2 := pt2) C.bk (by rw [C.kof]; exact lx) (by rw [C.kof]; exact ly) (by rw [C.kof]; exact lz) ey ez f3.1 f3.2.1 f3.2.2.1 f4 f5 xy xz yz
    refine PS.imp (ps_par3 C.y.calm hN (C.y.slot hi) (C.y.slot hj) (C.y.slot hl) (slot_ne hi hj xy) (slot_ne hi hl xz) (slot_ne hj hl yz) lx' ly' lz' ha hw) fun Y σ H ⟨ρ, F, S, env, r, en, q⟩ => ?_
    unfold exec at q
    refine goA Ext.refl r en q fun ds S1 ws ρ1 H1 e1 r1 n1 _ h1 q1 => ?_
    split at q1
    · rename_i hd
      have hd := Nat.eq_of_beq_eq_true hd
      cases ds with
      | nil => cases hd
      | cons d1 ds =>
      cases ds with
      | nil => cases hd
      | cons d2 ds =>
      cases ds with
      | nil => simp at hd
      | cons d3 ds =>
      cases ds with
      | cons _ _ => simp at hd
      | nil =>
      obtain ⟨v1, _, rfl, g1, v2, _, rfl, g2, v3, _, rfl, g3, rfl⟩ := h1
      exact ⟨v1, v2, v3, rfl, q1 ρ1 H1 _ e1 r1 (((n1.set g1).set g2).set g3)⟩
    · exact q1.elim

/-! ### loops -/
theorem envBelow_get {m : Nat} : ∀ {env : Env} {i : Nat} {d : D}, envBelow m env = true → env[i]? = some (some d) → below m d = true
  | [], i, d, _, h => by simp at h
  | o :: r, i, d, hb, h => by
    cases i with
    | zero =>
      rw [List.getElem?_cons_zero] at h
      cases h
      exact (Bool.and_eq_true_iff.mp (show (below m d && envBelow m r) = true from hb)).1
    | succ i =>
      rw [List.getElem?_cons_succ] at h
      cases o with
      | none => exact envBelow_get (show envBelow m r = true from hb) h
      | some x => exact envBelow_get (Bool.and_eq_true_iff.mp (show (below m x && envBelow m r) = true from hb)).2 h
theorem trim_ok {m : Nat} (e : Ext ρ H ρ1 H1) (r : RS G ρ1 F H1 S1) (hl : ρ.length = m) (en : REnv G ρ1 H1 env σ) : ∃ ρ2, Ext ρ H ρ2 H1 ∧ RS G ρ2 F H1 (trim m env S1) ∧ REnv G ρ2 H1 env σ := by
  unfold trim
  split
  · rename_i hb
    obtain ⟨τ, hτ⟩ := e.pre
    subst hτ
    refine ⟨ρ, e.drop, ?_, en.1, fun i d h => ?_⟩
    · rw [← hl]
      exact r.trim
    · obtain ⟨v, h1, h2⟩ := en.2 i d h
      exact ⟨v, h1, RV.back d v (by rw [hl]; exact envBelow_get hb h) h2⟩
  · exact ⟨ρ1, e, r, en⟩
theorem REnv.wipeL (en : REnv G ρ H env σ) : ∀ vs : List Nat, REnv G ρ H (DE.wipe env vs) σ
  | [] => en
  | v :: vs => by
    have ih := REnv.wipeL en vs
    refine ⟨?_, fun i d q => ?_⟩
    · show ((DE.wipe env vs).set v none).length = _
      rw [List.length_set]
      exact ih.1
    · have q : ((DE.wipe env vs).set v none)[i]? = some (some d) := q
      by_cases e : v = i
      · subst e
        have hl := (List.getElem?_eq_some_iff.mp q).1
        rw [List.length_set] at hl
        rw [List.getElem?_set_self hl] at q
        cases q
      · rw [List.getElem?_set_ne e] at q
        exact ih.2 i d q
theorem s_whl (C : Cs c G cf X W sc) {t : Expr} {b : List Stmt} {x : Ex} {y : List Ss} {pos : Pos} {kill : List Nat} (ht : PT X t (tT G W cf x)) (hb : PSs X b (tX G W (execs cf y))) : PS X (.While t b [] pos) (tX G W (exec cf (.whl kill x y))) := by
  refine PS.imp (ps_while C.po ht hb) fun Y σ H ⟨ρ, F, S, env, r, en, q⟩ => ?_
  unfold exec at q
  refine ⟨fun m σ' H' => ∃ ρi Si envi, Ext ρ H ρi H' ∧ RS G ρi F H' Si ∧ REnv G ρi H' envi σ' ∧ PX G W ρ H F Y (whlGo (fun env S => ev cf x env S) (fun env S => execs cf y env S) kill m envi Si), ⟨fuel, ρ, S, env, Ext.refl, r, en, q⟩, ?_⟩
  rintro m σ1 H1 ⟨ρi, Si, envi, ei, ri, eni, qi⟩
  cases m with
  | zero => exact qi.elim
  | succ m =>
    unfold whlGo at qi
    refine goT ei ri eni qi (fun d S1 q => ?_) fun k S2 ρ2 H2 e2 r2 n2 e12 q2 => ?_
    · split at q
      · exact ⟨_, rfl⟩
      · exact ⟨_, rfl⟩
      · exact q.elim
    · cases k with
      | false =>
        rw [if_neg Bool.false_ne_true]
        obtain ⟨ρ3, e3, r3, n3⟩ := trim_ok e12 r2 ri.len n2
        exact q2 ρ3 H2 σ1 (ei.trans e3) r3 n3
      | true =>
        rw [if_pos rfl]
        refine ⟨_, fun σ' H' w => ⟨m, Nat.lt_succ_self _, w⟩, ρ2, F, S2, envi, r2, n2, ?_⟩
        have q2 : PX G W ρ H F Y (match execs cf y envi S2 with
          | .ok .nx e2 S2 => whlGo (fun env S => ev cf x env S) (fun env S => execs cf y env S) kill m (DE.wipe e2 kill) (trim Si.length (DE.wipe e2 kill) S2)
          | .ok .ct e2 S2 => whlGo (fun env S => ev cf x env S) (fun env S => execs cf y env S) kill m (DE.wipe e2 kill) (trim Si.length (DE.wipe e2 kill) S2)
          | .ok .bk e2 S2 => .ok .nx e2 S2
          | r => r) := q2
        cases hx : execs cf y envi S2 with
        | no =>
          rw [hx] at q2
          exact q2
        | ex k y e3 S3 =>
          rw [hx] at q2
          exact PX.mono e2 q2
        | ok f e3 S3 =>
          rw [hx] at q2
          cases f with
          | nx =>
            intro ρ' H' σ' e' r' n'
            obtain ⟨ρ4, e4, r4, n4⟩ := trim_ok (e12.trans e') r' ri.len (n'.wipeL kill)
            exact ⟨ρ4, _, _, ei.trans e4, r4, n4, q2⟩
          | ct =>
            intro ρ' H' σ' e' r' n'
            obtain ⟨ρ4, e4, r4, n4⟩ := trim_ok (e12.trans e') r' ri.len (n'.wipeL kill)
            exact ⟨ρ4, _, _, ei.trans e4, r4, n4, q2⟩
          | bk => exact fun ρ' H' σ' e' r' n' => q2 ρ' H' σ' (e2.trans e') r' n'
          | rt d => exact fun v ρ' H' e' r' hv => q2 v ρ' H' (e2.trans e') r' hv
theorem s_for (C : Cs c G cf X W sc) {tg it : Expr} {b : List Stmt} {g : Tg} {i : Itx} {y : List Ss} {pos : Pos} {kill : List Nat} (hi : PI X tg it (tI G W cf i)) (hg : PG X tg (tG G g)) (hb : PSs X b (tX G W (execs cf y))) (hs : ∀ x, foldedSetIterable it X.env x = pure x) :
    PS X (.For tg it b [] pos) (tX G W (exec cf (.for kill g i y))) := by
  refine PS.imp (ps_for C.po C.y.calm hi hg hb hs) fun Y σ H ⟨ρ, F, S, env, r, en, q⟩ => ?_
  unfold exec at q
  refine goI Ext.refl r en q fun iv J S1 ρ1 H1 e1 r1 n1 jr q1 => ?_
  refine ⟨fun k m σ' H' => ∃ ρi Si envi, Ext ρ1 H1 ρi H' ∧ RS G ρi F H' Si ∧ REnv G ρi H' envi σ' ∧ PX G W ρ H F Y (forGo g (fun env S => execs cf y env S) kill iv m k envi Si), ⟨fuel, ρ1, S1, env, Ext.refl, r1, n1, q1⟩, ?_⟩
  rintro k m σ1 H2 ⟨ρi, Si, envi, ei, ri, eni, qi⟩
  cases m with
  | zero => exact qi.elim
  | succ m =>
    have key := jr ρi H2 F Si k ei ri
    unfold forGo at qi
    cases hgv : ivGet Si k iv with
    | none =>
      rw [hgv] at qi
      exact qi.elim
    | some od =>
      cases od with
      | none =>
        rw [hgv] at qi key
        exact .inl ⟨key, qi ρi H2 σ1 (e1.trans ei) ri eni⟩
      | some d =>
        rw [hgv] at qi key
        obtain ⟨go, yl⟩ := key
        refine .inr ⟨go, _, fun σ' H' w => ⟨m, Nat.lt_succ_self _, w⟩, fun v H3 hy => ?_⟩
        obtain ⟨r3, e3, v3⟩ := yl v H3 hy
        have n3 := eni.mono e3
        have qi : PX G W ρ H F Y (match bindT g d envi with
          | none => .no
          | some e1 => (match execs cf y e1 Si with
            | .ok .nx e2 S2 => forGo g (fun env S => execs cf y env S) kill iv m (k + 1) (DE.wipe e2 kill) (trim Si.length (DE.wipe e2 kill) S2)
            | .ok .ct e2 S2 => forGo g (fun env S => execs cf y env S) kill iv m (k + 1) (DE.wipe e2 kill) (trim Si.length (DE.wipe e2 kill) S2)
            | .ok .bk e2 S2 => .ok .nx e2 S2
            | r => r)) := qi
        cases hbd : bindT g d envi with
        | none =>
          rw [hbd] at qi
          exact qi.elim
        | some env2 =>
          rw [hbd] at qi
          refine bind_ok n3 v3 hbd fun xs n4 => ⟨ρi, F, Si, env2, r3, n4, ?_⟩
          have qi : PX G W ρ H F Y (match execs cf y env2 Si with
            | .ok .nx e2 S2 => forGo g (fun env S => execs cf y env S) kill iv m (k + 1) (DE.wipe e2 kill) (trim Si.length (DE.wipe e2 kill) S2)
            | .ok .ct e2 S2 => forGo g (fun env S => execs cf y env S) kill iv m (k + 1) (DE.wipe e2 kill) (trim Si.length (DE.wipe e2 kill) S2)
            | .ok .bk e2 S2 => .ok .nx e2 S2
            | r => r) := qi
          have ee := e1.trans (ei.trans e3)
          cases hx : execs cf y env2 Si with
          | no =>
            rw [hx] at qi
            exact qi
          | ex k y e3 S3 =>
            rw [hx] at qi
            exact PX.mono ee qi
          | ok f e4 S3 =>
            rw [hx] at qi
            cases f with
            | nx =>
              intro ρ' H' σ' e' r' n'
              obtain ⟨ρ4, e4, r4, n4⟩ := trim_ok (e3.trans e') r' ri.len (n'.wipeL kill)
              exact ⟨ρ4, _, _, ei.trans e4, r4, n4, qi⟩
            | ct =>
              intro ρ' H' σ' e' r' n'
              obtain ⟨ρ4, e4, r4, n4⟩ := trim_ok (e3.trans e') r' ri.len (n'.wipeL kill)
              exact ⟨ρ4, _, _, ei.trans e4, r4, n4, qi⟩
            | bk => exact fun ρ' H' σ' e' r' n' => qi ρ' H' σ' (ee.trans e') r' n'
            | rt d => exact fun v ρ' H' e' r' hv => qi v ρ' H' (ee.trans e') r' hv
end
end DE
/-! DEE: what the translator of statements gives holds. -/
namespace DE
open PySem PySem.Spec PyProof.Rows L2
section
variable {G : Gx} {cf : CF} {c : Tc}
structure TsOk (c : Tc) (G : Gx) (cf : CF) (n : Nat) : Prop where
  s : ∀ {sc : Scope} {X : Cx} {W : WX} {e : Stmt} {x : Ss}, Cs c G cf X W sc → trS c n sc e = some x → PS X e (tX G W (exec cf x))
  ss : ∀ {sc : Scope} {X : Cx} {W : WX} {e : List Stmt} {x : List Ss}, Cs c G cf X W sc → trSs c n sc e = some x → PSs X e (tX G W (execs cf x))
theorem trS_succ {n : Nat} (T : TsOk c G cf n) {sc : Scope} {X : Cx} {W : WX} {e : Stmt} {x : Ss} (C : Cs c G cf X W sc) (h : trS c (n + 1) sc e = some x) : PS X e (tX G W (exec cf x)) := by
  have E := tr_ok (G := G) (cf := cf) (c := c) n
  cases e with
  | Assign tgs v pos =>
    cases tgs with
    | nil => simp only [trS] at h; cases h
    | cons tg r =>
    cases r with
    | cons _ _ => simp only [trS] at h; cases h
    | nil =>
    cases tg with
    | Name y py =>
      simp only [trS] at h
      split at h
      · rename_i i x ho hi hx
        cases h
        cases hsw : swB sc v (.Name y py) with
        | false => exact s_asg C ho hi hsw (trE_nocomp hx) (E.e C.y hx)
        | true =>
          cases n with
          | zero => simp only [trE] at hx; cases hx
          | succ m => exact s_asgLc (tr_ok m) C ho hi hsw hx
      · cases h
    | Tuple ts k p =>
      have gen : ∀ {is : List Nat} {x : Ex}, slots c.N (ownB sc) ts = some is → swappedStores [.Tuple ts k p] v X.env = pure none → trE c n sc v = some x → PS X (.Assign [.Tuple ts k p] v pos) (tX G W (exec cf (.asgT is x))) := fun h1 h2 h3 => s_asgT C h1 h2 (trE_nocomp h3) (E.e C.y h3)
      simp only [trS] at h
      split at h
      · rename_i vs k2 p2
        split at h
        · rename_i hp
          split at h
          · rename_i h1 h2
            cases h
            exact s_par C hp h1 (E.es C.y h2)
          · cases h
        · split at h
          · rename_i h1 h2 h3
            cases h
            exact gen h2 (ss_not C h1) h3
          · cases h
      · rename_i hnt
        split at h
        · rename_i h1 h2
          cases h
          refine gen h1 ?_ h2
          cases v <;> first | rfl | exact absurd rfl (hnt _ _ _)
        · cases h
    | Subscript o i p =>
      cases i with
      | Slice _ _ _ _ => simp only [trS] at h; cases h
      | _ =>
        simp only [trS] at h
        split at h
        · rename_i h1 h2 h3
          cases h
          exact s_setI C (fun _ _ _ _ z => nomatch z) (trE_nocomp h3) (E.e C.y h1) (E.e C.y h2) (E.e C.y h3)
        · cases h
    | _ => simp only [trS] at h; cases h
  | Return v pos =>
    cases v with
    | none =>
      simp only [trS] at h
      cases h
      exact s_retN
    | some v =>
      simp only [trS] at h
      obtain ⟨y, hy, rfl⟩ := Option.map_eq_some_iff.mp h
      exact s_ret (E.e C.y hy)
  | If t a b pos =>
    simp only [trS] at h
    split at h
    · rename_i h1 h2 h3
      cases h
      exact s_if (E.t C.y h1).1 (T.ss C h2) (T.ss C h3)
    · cases h
  | While t a b pos =>
    cases b with
    | cons _ _ => simp only [trS] at h; cases h
    | nil =>
    simp only [trS] at h
    split at h
    · rename_i h1 h2
      cases h
      exact s_whl C (E.t C.y h1).1 (T.ss C h2)
    · cases h
  | For tg it a b pos =>
    cases b with
    | cons _ _ => simp only [trS] at h; cases h
    | nil =>
    simp only [trS] at h
    split at h
    · rename_i h1 h2 h3
      cases h
      exact s_for C (E.i C.y h2) (g_ok C.y h1) (T.ss C h3) (fold_it h2)
    · cases h
  | Expr v pos =>
    cases v with
    | ListComp _ _ _ _ => simp only [trS] at h; cases h
    | _ =>
      simp only [trS] at h
      obtain ⟨y, hy, rfl⟩ := Option.map_eq_some_iff.mp h
      exact s_exp (fun _ _ _ _ z => nomatch z) (trE_nocomp hy) (E.e C.y hy)
  | Pass pos =>
    simp only [trS] at h
    cases h
    exact s_pass
  | Break pos =>
    simp only [trS] at h
    cases h
    exact s_brk
  | Continue pos =>
    simp only [trS] at h
    cases h
    exact s_cnt
  | Raise v cz pos =>
    cases v with
    | none => cases cz <;> (simp only [trS] at h; cases h)
    | some v =>
      cases cz with
      | some _ => simp only [trS] at h; cases h
      | none =>
        simp only [trS] at h
        split at h
        · rename_i hk
          cases h
          exact s_rse C hk
        · cases h
          exact s_nev
  | _ => simp only [trS] at h; cases h
theorem ts_ok : ∀ n, TsOk c G cf n
  | 0 => ⟨fun _ h => by (simp only [trS] at h; cases h), fun _ h => by (simp only [trSs] at h; cases h)⟩
  | n + 1 => by
    have T := ts_ok n
    refine ⟨trS_succ T, fun C h => ?_⟩
    simp only [trSs] at h
    split at h
    · cases h
      exact s_nil
    · split at h
      · rename_i h1 h2
        cases h
        exact s_cons (T.s C h1) (T.ss C h2)
      · cases h
end
end DE
/-! DEF: the defs of a module keep what the evaluator says. -/
namespace DE
open PySem PySem.Spec PyProof.Rows L2
/-- one def of the table -/
structure Ent where
  code : Nat
  name : Str
  ps : List Str
  N : List Str
  fn : Fn
structure EntOk (K : PySem.W.Frag) (mg : Str → Option Value) (c : Tc) (FT : List (Nat × Fn)) (e : Ent) (f : Addr) (fd : FuncData) : Prop where
  mg : mg e.name = some (.ref f)
  bd : L2.Binds K fd e.ps []
  np : e.fn.np = e.ps.length
  nl : e.fn.nl = e.N.length
  lk : lookF FT e.code = some e.fn
  ex : ∃ (qual : Str) (params : Arguments) (body : List Stmt) (scope : Scope) (kws : List (Str × V)) (n : Nat), FunD K e.name qual params body scope [] kws f fd ∧ FnScope e.N e.ps scope ∧ trSs { c with N := e.N } n scope body = some e.fn.body
/-- what holds of the module's names -/
structure Md (K : PySem.W.Frag) (mg : Str → Option Value) (G : Gx) (c : Tc) (FT : List (Nat × Fn)) (ents : List Ent) : Prop where
  hK : K = G.K
  glo : ∀ x d, c.gt x = some d → ∃ u v, mg x = some u ∧ RelV v u ∧ ∀ ρ H, RV G ρ H d v
  free : ∀ x, c.free x = true → mg x = none
  fns : ∀ x g, c.fns x = some g → ∃ e ∈ ents, e.name = x ∧ e.code = g
  exc : ∀ x k, c.exc x = some k → ∃ (Cc : Addr) (bmB : List Value) (B newId initId : String), ExcBaseFacts B newId initId bmB ∧ PySem.W.excIn K Cc bmB newId = true ∧ mg x = some (.ref Cc) ∧ PySem.W.keepIn K (.ref Cc) = true ∧
    PySem.W.subIn K (.ref Cc) (.type "BaseException") = some true ∧ PySem.W.typeIn K (.ref Cc) = some (.type "type") ∧ ∀ H, G.xr k .non (.ref Cc) none H
  ent : ∀ e ∈ ents, ∃ (f : Addr) (fd : FuncData), EntOk K mg c FT e f fd
section
variable {G : Gx} {W : WX} {cf : CF} {ρ ρ0 ρ1 ρ' : List Addr} {H H0 H1 H' : Hp} {F : Frm} {S S' S1 : Sto} {Q : VK} {X : Cx} {σ : L2.St} {env : Env} {Y : Ends}
theorem start_en {N : List Str} {ds : List D} {vs : List V} (h : RVs G ρ H ds vs) : REnv G ρ H (ds.map some ++ List.replicate (N.length - vs.length) none) (L2.start N vs) := by
  have hl := h.length
  refine ⟨by unfold L2.start; simp [hl], fun i d q => ?_⟩
  by_cases hi : i < ds.length
  · rw [List.getElem?_append_left (by simpa using hi), List.getElem?_map] at q
    obtain ⟨d', h1, h2⟩ := Option.map_eq_some_iff.mp q
    cases h2
    obtain ⟨v, h3, h4⟩ := h.get h1
    refine ⟨v, ?_, h4⟩
    unfold L2.start
    rw [List.getElem?_append_left (by simp; omega), List.getElem?_map, h3]
    rfl
  · rw [List.getElem?_append_right (by simpa using hi), List.getElem?_replicate] at q
    split at q <;> cases q
theorem back_tr {m : Nat} (hm : ρ.length = m) (e : Ext ρ H ρ1 H1) (r : RS G ρ1 F H1 S1) : RS G ρ F H1 (S1.take m) ∧ Ext ρ H ρ H1 := by
  obtain ⟨τ, hτ⟩ := e.pre
  subst hτ hm
  exact ⟨r.trim, e.drop⟩
theorem RS.frm_in {p : Addr} {o : HO} (r : RS G ρ F H S) (hp : H p = some o) (np : ∀ (n : Nat) (a : Addr), ρ[n]? = some a → isFl S n = false → p ≠ a) : RS G ρ ((p, o) :: F) H S :=
  ⟨r.len, r.inj, r.obj, r.bel, fun q hq => by
    rcases List.mem_cons.mp hq with rfl | hq
    · exact ⟨hp, np⟩
    · exact r.frm q hq⟩
/-- what a call's end leaves -/
theorem fin_ok {m : Nat} {d : D} {v : V} {ok : D → Sto → Prop} {ex : Nat → D → Sto → Prop} (hm : ρ.length = m) (e : Ext ρ H ρ1 H1) (r : RS G ρ1 F H1 S1) (hv : RV G ρ1 H1 d v) (q : PR (fin m d S1) (fun d S' => ∀ v ρ' H', Ext ρ H ρ' H' → RS G ρ' F H' S' → RV G ρ' H' d v → Q v H') ex) : Q v H1 := by
  obtain ⟨r0, e0⟩ := back_tr hm e r
  unfold fin at q
  split at q
  · rename_i hb
    obtain ⟨τ, hτ⟩ := e.pre
    rw [hτ] at hv
    exact q v ρ H1 e0 r0 (RV.back d v (by rw [hm]; exact hb) hv)
  · rename_i hb
    split at q
    · rename_i n
      split at q
      · rename_i ds hn
        split at q
        · rename_i hbs
          obtain ⟨a, ha, rfl⟩ := hv
          obtain ⟨vs, h1, h2⟩ := r.lst hn ha
          obtain ⟨τ, hτ⟩ := e.pre
          have hnm : m ≤ n := by
            cases z : Nat.blt n m with
            | false =>
              rcases Nat.lt_or_ge n m with l | l
              · have := Nat.ble_eq_true_of_le l
                rw [show Nat.blt n m = true from this] at z
                cases z
              · exact l
            | true => exact absurd (show below m (.ref n) = true from z) (by rw [hb]; simp)
          have flS : isFl S1 n = false := by unfold isFl; rw [hn]
          have np : ∀ (j : Nat) (b : Addr), ρ[j]? = some b → isFl (S1.take m) j = false → a ≠ b := fun j b hj fj z => by
            subst z
            have lj := (List.getElem?_eq_some_iff.mp hj).1
            have f1 : isFl S1 j = false := by
              unfold isFl at fj ⊢
              rw [List.getElem?_take_of_lt (by omega)] at fj
              exact fj
            have := r.inj j n a (by rw [hτ, List.getElem?_append_left lj]; exact hj) ha f1 flS
            omega
          have r1 := r0.frm_in h1 np
          have hv' : RVs G ρ H1 ds vs := by
            rw [hτ] at h2
            exact RVs.back ds vs (by rw [hm]; exact hbs) h2
          obtain ⟨r2, e2, v2⟩ := r1.adopt (fun q hq => (r.frm q hq).2 n a ha flS) hv'
          have v2 : RV G (ρ ++ [a]) H1 (.ref m) (.ref a) := by
            have := v2
            rw [← r0.len, hm] at this
            exact this
          exact q _ _ _ (e0.trans e2) r2 v2
        · exact q v ρ1 H1 e r hv
      · exact q v ρ1 H1 e r hv
    · exact q v ρ1 H1 e r hv
variable {P : Program} {w : World} {K : PySem.W.Frag} {mg : Str → Option Value} {base : Heap} {c : Tc} {FT : List (Nat × Fn)} {ents : List Ent}
theorem spD_no {g : Nat} {vs : List V} {E : XK} (h : spD G (callF FT 0) g vs H Q E) : False := by
  obtain ⟨ρ, F, S, ds, r, hv, q⟩ := h
  unfold callF at q
  exact q
theorem sp_len {k g : Nat} {fn : Fn} {vs : List V} {E : XK} (hf : lookF FT g = some fn) (h : spD G (callF FT k) g vs H Q E) : vs.length = fn.np := by
  cases k with
  | zero => exact (spD_no h).elim
  | succ k =>
    obtain ⟨ρ, F, S, ds, r, hv, q⟩ := h
    unfold callF at q
    rw [hf] at q
    simp only at q
    split at q
    · rename_i e
      rw [← hv.length]
      exact Nat.eq_of_beq_eq_true e
    · exact q.elim
theorem fns_ok (M : Md K mg G c FT ents) : ∀ (k : Nat) (e : Ent), e ∈ ents → ∀ (f : Addr) (fd : FuncData), EntOk K mg c FT e f fd → FnOk P w K mg base (L2.CX P w) k f fd e.ps (spD G (callF FT k) e.code)
  | 0, e, _, f, fd, _ => ⟨fun vs H Q E h => (spD_no h).elim, fun A outer s H args us vs Q E _ _ _ _ h => (spD_no h).elim⟩
  | k + 1, e, he, f, fd, E0 => by
    obtain ⟨hmg, bd, np, nl, lk, qual, params, body, scope, kws, n, FD, S, tr⟩ := E0
    refine FD.ok S (fun vs H Q E h => (sp_len lk h).trans np) fun cdv A outer s H vs Q E hr hsp => ?_
    have hlen := (sp_len lk hsp).trans np
    obtain ⟨ρ, F, S0, ds, r, hv, q⟩ := hsp
    have C : Cs { c with N := e.N } G (callF FT k) (cxOf (L2.CX P w) P w K mg base e.N qual scope f cdv A outer s H E) (fun cls d _ H => E cls d H) scope := {
      y := {
        K := M.hK
        calm := rfl
        N := rfl
        nd := S.nd
        sc := rfl
        tk := takes_of rfl rfl rfl rfl
        un := by
          have := hr.un
          show (A.deeper _).units + 65 < cLine
          omega
        st := fun x h => by
          obtain ⟨kk, hk, hk2⟩ := ownB_k h
          refine ⟨?_, .inl rfl⟩
          rcases hk2 with rfl | rfl
          · exact .inl hk
          · exact .inr hk
        glo := M.glo
        free := M.free
        fns := fun x g h => by
          obtain ⟨e2, he2, rfl, rfl⟩ := M.fns x g h
          obtain ⟨f2, fd2, E2⟩ := M.ent e2 he2
          have ih := fns_ok M k e2 he2 f2 fd2 E2
          obtain ⟨hmg2, bd2, np2, nl2, lk2, qual2, params2, body2, scope2, kws2, n2, FD2, S2, tr2⟩ := E2
          exact ⟨k, f2, fd2, e2.ps, hmg2, FD2.kp, bd2, ih, hr⟩
        exc := fun x kk h => by
          obtain ⟨Cc, bmB, B, newId, initId, h1, h2, h3, h4, h5, h6, h7⟩ := M.exc x kk h
          exact ⟨Cc, bmB, B, newId, initId, h1, h2, h3, h4, raises_own h5 h6, h7⟩ }
      kd := S.kind
      po := passes_of (K := fun e s'' => L2.CX P w outer H s E e s'') rfl }
    refine ⟨tX G (fun cls d _ H => E cls d H) (execs (callF FT k) e.fn.body), (ts_ok n).ss C tr, ρ, F, S0, ds.map some ++ List.replicate (e.N.length - vs.length) none, r, start_en hv, ?_⟩
    unfold callF at q
    rw [lk] at q
    simp only at q
    split at q
    · rw [nl, np, ← hlen] at q
      cases hx : execs (callF FT k) e.fn.body (ds.map some ++ List.replicate (e.N.length - vs.length) none) S0 with
      | no =>
        rw [hx] at q
        exact q
      | ex kk x e3 S3 =>
        rw [hx] at q
        intro ρ' H' σ' e' r' en' cv dx hxr
        simp only at q
        split at q
        · obtain ⟨r4, e4⟩ := back_tr r.len e' r'
          exact q ρ H' e4 r4 cv dx hxr
        · exact q.elim
      | ok fl e3 S3 =>
        rw [hx] at q
        cases fl with
        | nx =>
          intro ρ' H' σ' e' r' en'
          obtain ⟨r4, e4⟩ := back_tr r.len e' r'
          exact q .non ρ H' e4 r4 rfl
        | rt d =>
          intro v ρ' H' e' r' hv'
          exact fin_ok (ok := fun _ _ => True) r.len e' r' hv' q
        | bk => exact q.elim
        | ct => exact q.elim
    · exact q.elim
theorem Lk.ofOnly {a : Addr} {vs : List V} (hO : Only H) (h : SqL G.K H a vs) : Lk G H a vs := by
  rcases h with (h | h) | h
  · rcases hO a with z | ⟨o, xs, z⟩
    · rw [z] at h; cases h
    · rw [z] at h; cases h
  · exact .inl h
  · exact .inr fun H' => .inr h
theorem ints_rv : ∀ ns : List Int, RVs G ρ H (ns.map D.int) (ns.map V.int)
  | [] => rfl
  | n :: ns => ⟨_, _, rfl, rfl, ints_rv ns⟩
/-- the law's promise, from the evaluator alone -/
theorem law_sp {k g : Nat} {ns : List Int} {a : Addr} {S' : Sto} (hO : Only H) (h : SqL G.K H a (ns.map V.int)) (q : callF FT k g [.ref 0] [.fl (ns.map D.int)] = .ok (.bl true) S') : spD G (callF FT k) g [.ref a] H (fun v _ => v = .bl true) (fun _ _ _ => False) := by
  refine ⟨[a], [], [.fl (ns.map D.int)], [.ref 0], ⟨rfl, ?_, ?_, ?_, fun _ h => by cases h⟩, ⟨_, _, rfl, ⟨a, rfl, rfl⟩, rfl⟩, ?_⟩
  · intro n m b h1 h2 f1 f2
    have l1 := (List.getElem?_eq_some_iff.mp h1).1
    have l2 := (List.getElem?_eq_some_iff.mp h2).1
    simp only [List.length_cons, List.length_nil] at l1 l2
    omega
  · intro n o b h1 h2
    have l1 := (List.getElem?_eq_some_iff.mp h1).1
    simp only [List.length_cons, List.length_nil] at l1
    have : n = 0 := by omega
    subst this
    cases h1
    cases h2
    exact ⟨_, Lk.ofOnly hO h, ints_rv ns⟩
  · intro n o h1
    have l1 := (List.getElem?_eq_some_iff.mp h1).1
    simp only [List.length_cons, List.length_nil] at l1
    have : n = 0 := by omega
    subst this
    cases h1
    refine belows_of fun d hd => ?_
    obtain ⟨i, _, rfl⟩ := List.mem_map.mp hd
    rfl
  · rw [q]
    exact fun v ρ' H' _ _ hv => hv
/-- the same whatever the world -/
def CXw (P : Program) : CXT := fun outer H s E u s' => ∃ w, L2.CX P w outer H s E u s'
theorem fnOk_w {P : Program} {w : World} {K : PySem.W.Frag} {mg : Str → Option Value} {base : Heap} {k : Nat} {f : Addr} {fd : FuncData} {ps : List Str} {sp : Sp} (F : FnOk P w K mg base (L2.CX P w) k f fd ps sp) : FnOk P w K mg base (CXw P) k f fd ps sp :=
  ⟨F.len, fun A outer s H args us vs Q E hr he hb hv hs => codeAny_mono (F.run A outer s H args us vs Q E hr he hb hv hs) fun r s' q => by
    cases r with
    | ok fl => cases fl <;> exact q
    | error e => exact ⟨w, q⟩⟩
theorem cxw_no {P : Program} (H : Hp) (s : Shared) (e : Value) (s' : Shared) (h : CXw P [] H s (fun _ _ _ => False) e s') : False := by
  obtain ⟨w, a, B, H', cls, d, _, _, _, _, _, _, _, q⟩ := h
  exact q
end
end DE
/-! DEG: from the head's facts to the tables. -/
namespace DE
open PySem PySem.Spec PyProof.Rows L2
theorem zip_look {α : Type} : ∀ {ps : List Str} {us : List α}, ps.Nodup → us.length = ps.length → ∀ l : List (Str × α), (∀ n ∈ ps, l.lookup n = (ps.zip us).lookup n) → ps.filterMap (fun n => (l.lookup n).map (n, ·)) = ps.zip us
  | [], us, _, h, l, _ => rfl
  | p :: ps, [], _, h, _, _ => by cases h
  | p :: ps, u :: us, nd, h, l, hl => by
    obtain ⟨h1, h2⟩ := List.nodup_cons.mp nd
    have e := hl p List.mem_cons_self
    rw [List.zip_cons_cons, List.lookup_cons] at e
    simp only [beq_self_eq_true] at e
    rw [List.filterMap_cons, e]
    show (p, u) :: _ = (p, u) :: _
    have ih := zip_look (us := us) h2 (by simpa using h) l (fun n hn => ?_)
    · rw [ih]
      rfl
    rw [hl n (List.mem_cons_of_mem _ hn), List.zip_cons_cons, List.lookup_cons]
    have : (n == p) = false := by
      cases q : n == p with
      | false => rfl
      | true => exact absurd ((show n = p by simpa using q) ▸ hn) h1
    rw [this]
theorem zip_some {α : Type} : ∀ {ps : List Str} {us : List α}, us.length = ps.length → ∀ n ∈ ps, ((ps.zip us).lookup n).isNone = false
  | [], _, _, n, h => by cases h
  | p :: ps, [], h, _, _ => by cases h
  | p :: ps, u :: us, h, n, hn => by
    rw [List.zip_cons_cons, List.lookup_cons]
    cases q : n == p with
    | true => rfl
    | false =>
      rcases List.mem_cons.mp hn with rfl | hn
      · simp at q
      · exact zip_some (by simpa using h) n hn
def plainB (p : Arguments) (ps : List Str) : Bool := p.posonlyargs.isEmpty && p.vararg.isNone && p.kwonlyargs.isEmpty && p.kwarg.isNone && decide (p.args.map (·.arg) = ps) && decide ps.Nodup
theorem bind_plain {name qual : Str} {p : Arguments} {body : List Stmt} {scope : Scope} {kV doc pm cdv ct : Value} {an : Option Addr} {ps : List Str} (h : plainB p ps = true) (us : List Value) (hl : us.length = ps.length) :
    bindArgs (PySem.W.fnOf name qual p body scope .none kV doc pm an cdv ct) ⟨us, []⟩ = pure (ps.zip us) := by
  unfold plainB at h
  obtain ⟨h, nd⟩ := Bool.and_eq_true_iff.mp h
  obtain ⟨h, h5⟩ := Bool.and_eq_true_iff.mp h
  obtain ⟨h, h4⟩ := Bool.and_eq_true_iff.mp h
  obtain ⟨h, h3⟩ := Bool.and_eq_true_iff.mp h
  obtain ⟨h1, h2⟩ := Bool.and_eq_true_iff.mp h
  have nd := of_decide_eq_true nd
  have h5 := of_decide_eq_true h5
  obtain ⟨po, ar, va, ko, kd, kw, df⟩ := p
  have e1 : po = [] := by simpa using h1
  have e2 : va = none := by simpa using h2
  have e3 : ko = [] := by simpa using h3
  have e4 : kw = none := by simpa using h4
  have h5 : ar.map (·.arg) = ps := h5
  clear h1 h2 h3 h4
  subst e1 e2 e3 e4
  unfold bindArgs
  simp only [PySem.W.fnOf, List.map_nil, List.nil_append, h5]
  have miss : (ps.filter fun n => ((ps.zip us).lookup n).isNone) = [] := by
    rw [List.filter_eq_nil_iff]
    intro n hn
    rw [zip_some hl n hn]
    exact Bool.false_ne_true
  have bin := zip_look nd hl (ps.zip us) fun _ _ => rfl
  simp [seqItems?, miss, bin, hl]
  rfl

/-! ### the module's constants -/
mutual
def rvB (K : PySem.W.Frag) : D → Value → Bool
  | .non, u => (match u with
    | .none => true
    | _ => false)
  | .bl b, u => (match u with
    | .bool c => b == c
    | _ => false)
  | .int i, u => (match u with
    | .int j _ => decide (i = j)
    | _ => false)
  | .str x, u => (match u with
    | .str y _ => decide (x = y)
    | _ => false)
  | .tup ds, u => (match u with
    | .ref a => (match K.lookup a with
      | some ⟨.type c, _, .seq its _, _⟩ => decide (c = "tuple") && decide (its.size ≤ sizeLine) && rvBs K ds its.toList && ds.all D.pure
      | _ => false)
    | _ => false)
  | _, _ => false
def rvBs (K : PySem.W.Frag) : List D → List Value → Bool
  | [], us => us.isEmpty
  | d :: ds, us => (match us with
    | [] => false
    | u :: us => rvB K d u && rvBs K ds us)
end
section
variable {G : Gx} {K : PySem.W.Frag}
mutual
theorem rvB_ok (hK : K = G.K) : ∀ (d : D) (u : Value), rvB K d u = true → ∃ v, RelV v u ∧ ∀ ρ H, RV G ρ H d v
  | .non, u, h => by
    unfold rvB at h
    split at h
    · exact ⟨.non, rfl, fun _ _ => rfl⟩
    · cases h
  | .bl b, u, h => by
    unfold rvB at h
    split at h
    · rename_i c
      have : b = c := by simpa using h
      exact ⟨.bl c, rfl, fun _ _ => by rw [this]; rfl⟩
    · cases h
  | .int i, u, h => by
    unfold rvB at h
    split at h
    · rw [of_decide_eq_true h]
      exact ⟨.int _, ⟨_, rfl⟩, fun _ _ => rfl⟩
    · cases h
  | .str x, u, h => by
    unfold rvB at h
    split at h
    · rw [of_decide_eq_true h]
      exact ⟨.str _, ⟨_, rfl⟩, fun _ _ => rfl⟩
    · cases h
  | .tup ds, u, h => by
    unfold rvB at h
    split at h
    · rename_i a
      split at h
      · rename_i c od its n sl hl
        obtain ⟨h, h4⟩ := Bool.and_eq_true_iff.mp h
        obtain ⟨h, h3⟩ := Bool.and_eq_true_iff.mp h
        obtain ⟨h1, h2⟩ := Bool.and_eq_true_iff.mp h
        obtain ⟨vs, r, q⟩ := rvBs_ok hK ds its.toList h3
        have hsz : its.size ≤ sizeLine := of_decide_eq_true h2
        refine ⟨.ref a, rfl, fun ρ H => ⟨h4, ?_, a, vs, rfl, .inr ⟨_, its, n, by rw [← hK]; exact hl, congrArg Value.type (of_decide_eq_true h1), rfl, hsz, r⟩, q ρ H⟩⟩
        have e1 := (q ρ H).length
        have e2 := r.length
        have e3 : its.toList.length = its.size := Array.length_toList
        omega
      · cases h
    · cases h
  | .mix ds, u, h => by unfold rvB at h; cases h
  | .ref n, u, h => by unfold rvB at h; cases h
  | .glo n, u, h => by unfold rvB at h; cases h
theorem rvBs_ok (hK : K = G.K) : ∀ (ds : List D) (us : List Value), rvBs K ds us = true → ∃ vs, Vals vs us ∧ ∀ ρ H, RVs G ρ H ds vs
  | [], us, h => by
    unfold rvBs at h
    cases us with
    | nil => exact ⟨[], .nil, fun _ _ => rfl⟩
    | cons _ _ => cases h
  | d :: ds, us, h => by
    unfold rvBs at h
    cases us with
    | nil => cases h
    | cons u us =>
      obtain ⟨h1, h2⟩ := Bool.and_eq_true_iff.mp h
      obtain ⟨v, r1, q1⟩ := rvB_ok hK d u h1
      obtain ⟨vs, r2, q2⟩ := rvBs_ok hK ds us h2
      exact ⟨v :: vs, .cons r1 r2, fun ρ H => ⟨v, vs, rfl, q1 ρ H, q2 ρ H⟩⟩
end
/-- the module's name x holds d -/
def cstB (K : PySem.W.Frag) (p : Str × D) : Bool := match PySem.W.nsIn K mainGlobals p.1 with
  | some (some u) => rvB K p.2 u
  | _ => false
theorem cstB_ok {h : Heap} {mg : Str → Option Value} (hK : K = G.K) (X : K.In h) (N : h.Ns mainGlobals mg) {p : Str × D} (c : cstB K p = true) : ∃ u v, mg p.1 = some u ∧ RelV v u ∧ ∀ ρ H, RV G ρ H p.2 v := by
  unfold cstB at c
  split at c
  · rename_i u e
    obtain ⟨v, r, q⟩ := rvB_ok hK p.2 u c
    exact ⟨u, v, PySem.W.mg_of X N e, r, q⟩
  · cases c
end
/-! ### the hook -/
def obsE (fa : List He.Fa) (fn : List He.DefD) (ex : PySem.W.Frag → Bool) (K : PySem.W.Frag) : He.AlD := ((fa.all fun f => f.ok K) && (fn.all fun d => d.ok K) && ex K, fn.map fun d => He.fnW K d.at_)
def obsEG (n : Nat) (fa : List He.Fa) (fn : List He.DefD) (ex : PySem.W.Frag → Bool) (g : Addr → Option Obj) : He.AlD := obsE fa fn ex (He.frG g (He.asD g n))
def hookE (n : Nat) (fa : List He.Fa) (fn : List He.DefD) (ex : PySem.W.Frag → Bool) : PySem.W.Hook where
  α := He.AlD
  obs := fun s => obsEG n fa fn ex s.heap.get?
  val := fun _ => He.valD fn
  says := fun _ h => ∃ K : PySem.W.Frag, K.In h ∧ obsE fa fn ex K = He.valD fn
  of := fun _ _ e => ⟨_, He.frG_in, e⟩
  keeps := fun _ _ _ ⟨K, hK, c⟩ k => ⟨K, PySem.W.Frag.In.keeps hK k, c⟩
theorem obsEG_eq {n : Nat} {fa : List He.Fa} {fn : List He.DefD} {ex : PySem.W.Frag → Bool} {g : Addr → Option Obj} {s : Shared} (h : ∀ a, g a = s.heap.get? a) : obsEG n fa fn ex g = (hookE n fa fn ex).obs s := by
  have e : g = s.heap.get? := funext h
  subst e
  rfl
theorem saysE {fa : List He.Fa} {fn : List He.DefD} {ex : PySem.W.Frag → Bool} {K : PySem.W.Frag} (h : obsE fa fn ex K = He.valD fn) : He.SaysD fa fn K ∧ ex K = true := by
  have e1 : ((fa.all fun f => f.ok K) && (fn.all fun d => d.ok K) && ex K) = true := congrArg (fun z : He.AlD => z.1) h
  have e2 : (fn.map fun d => He.fnW K d.at_) = fn.map He.DefD.val := congrArg (fun z : He.AlD => z.2) h
  obtain ⟨a, b⟩ := Bool.and_eq_true_iff.mp e1
  refine ⟨?_, b⟩
  show ((fa.all fun f => f.ok K) && fn.all fun d => d.ok K, fn.map fun d => He.fnW K d.at_) = (true, fn.map He.DefD.val)
  rw [a, e2]
/-! ### a law's tables -/
def lookN (l : List (Str × Nat)) (x : Str) : Option Nat := match l with
  | [] => none
  | (y, n) :: r => match decide (y = x) with
    | true => some n
    | false => lookN r x
def lookD (l : List (Str × D)) (x : Str) : Option D := match l with
  | [] => none
  | (y, n) :: r => match decide (y = x) with
    | true => some n
    | false => lookD r x
def memS (l : List Str) (x : Str) : Bool := l.any fun y => decide (y = x)
theorem lookN_mem : ∀ {l : List (Str × Nat)} {x : Str} {n : Nat}, lookN l x = some n → (x, n) ∈ l
  | [], _, _, h => by cases h
  | (y, m) :: r, x, n, h => by
    unfold lookN at h
    split at h
    · rename_i e
      cases h
      rw [← of_decide_eq_true e]
      exact List.mem_cons_self
    · exact List.mem_cons_of_mem _ (lookN_mem h)
theorem lookD_mem : ∀ {l : List (Str × D)} {x : Str} {n : D}, lookD l x = some n → (x, n) ∈ l
  | [], _, _, h => by cases h
  | (y, m) :: r, x, n, h => by
    unfold lookD at h
    split at h
    · rename_i e
      cases h
      rw [← of_decide_eq_true e]
      exact List.mem_cons_self
    · exact List.mem_cons_of_mem _ (lookD_mem h)
theorem memS_mem {l : List Str} {x : Str} (h : memS l x = true) : x ∈ l := by
  obtain ⟨y, hy, e⟩ := List.any_eq_true.mp h
  rw [← of_decide_eq_true e]
  exact hy
/-- a law's tables: constants, names that are free, defs (by name and code), classes of exceptions -/
structure Tb where
  cs : List (Str × D)
  fr : List Str
  ds : List (Str × Nat)
def Tb.c (t : Tb) : Tc where
  N := []
  gt := lookD t.cs
  fns := lookN t.ds
  free := memS t.fr
  exc := fun _ => none
def Tb.ex (t : Tb) (K : PySem.W.Frag) : Bool := t.cs.all (cstB K)
def Tb.fa (t : Tb) : List He.Fa := t.ds.map (fun p => He.Fa.glo p.1) ++ t.fr.map He.Fa.free
/-- one def of the text against its entry -/
def entB (t : Tb) (FT : List (Nat × Fn)) (e : Ent) (d : He.DefD) : Bool := plainB d.params e.ps && C8.scC e.N e.ps d.scope && Nat.beq e.fn.np e.ps.length && Nat.beq e.fn.nl e.N.length
/-- what the kernel shows of an entry -/
structure EntC (t : Tb) (FT : List (Nat × Fn)) (e : Ent) (d : He.DefD) : Prop where
  b : entB t FT e d = true
  tr : trSs { t.c with N := e.N } 60 d.scope d.body = some e.fn.body
  at_ : d.at_ = (e.name, none)
  nm : d.name = e.name
  dfl : d.dfl = []
  lk : lookF FT e.code = some e.fn
theorem md_of {t : Tb} {fn : List He.DefD} {K : PySem.W.Frag} {h : Heap} {mg : Str → Option Value} {FT : List (Nat × Fn)} {ents : List Ent} (X : K.In h) (N : h.Ns mainGlobals mg) (says : obsE t.fa fn t.ex K = He.valD fn)
    (hE : ∀ e ∈ ents, (e.name, e.code) ∈ t.ds ∧ ∃ (i : Nat) (d : He.DefD), fn[i]? = some d ∧ EntC t FT e d) (hds : ∀ p ∈ t.ds, ∃ e ∈ ents, e.name = p.1 ∧ e.code = p.2) : Md K mg ⟨K, fun _ => none, fun _ _ _ _ _ => False⟩ t.c FT ents := by
  obtain ⟨sd, hx⟩ := saysE says
  have fact : ∀ f ∈ t.fa, f.ok K = true := fun f hf => by
    obtain ⟨i, hi⟩ := List.mem_iff_getElem?.mp hf
    exact sd.fact i hi
  refine ⟨rfl, fun x d hd => ?_, fun x hx => ?_, fun x g hg => hds _ (lookN_mem hg), fun x k hk => (by cases hk), fun e he => ?_⟩
  · exact cstB_ok (G := ⟨K, fun _ => none, fun _ _ _ _ _ => False⟩) rfl X N (p := (x, d)) (List.all_eq_true.mp hx _ (lookD_mem hd))
  · exact He.free_ok X N (fact (.free x) (List.mem_append_right _ (List.mem_map.mpr ⟨x, memS_mem hx, rfl⟩)))
  · obtain ⟨h1, i, d, hi, b, tr, hat, nm, dfl, lk⟩ := hE e he
    obtain ⟨fd, FD⟩ := sd.def_ i hi
    have g := He.glo_ok X N (fact (.glo e.name) (List.mem_append_left _ (List.mem_map.mpr ⟨_, h1, rfl⟩)))
    unfold entB at b
    obtain ⟨b, b4⟩ := Bool.and_eq_true_iff.mp b
    obtain ⟨b, b3⟩ := Bool.and_eq_true_iff.mp b
    obtain ⟨b1, b2⟩ := Bool.and_eq_true_iff.mp b
    have ea : He.fAd K d.at_ = He.ga K e.name := by rw [hat]; rfl
    have ed : d.dvs K = [] := by unfold He.DefD.dvs; rw [dfl]; rfl
    rw [ea, ed, nm] at FD
    refine ⟨_, fd, g, FD.bindsN fun _ _ _ _ _ _ us hl => bind_plain b1 us hl, Nat.eq_of_beq_eq_true b3, Nat.eq_of_beq_eq_true b4, lk, ?_⟩
    exact ⟨_, _, _, _, _, 60, FD, C8.fnScope_by b2, tr⟩
/-- a law's facts, from the tables and the evaluator -/
theorem law_facts {P : Program} {w : World} {t : Tb} {fn : List He.DefD} {K : PySem.W.Frag} {h : Heap} {mg : Str → Option Value} {f : Addr} {FT : List (Nat × Fn)} {ents : List Ent} {e : Ent} {k : Nat} (X : K.In h) (N : h.Ns mainGlobals mg) (says : obsE t.fa fn t.ex K = He.valD fn)
    (hE : ∀ e ∈ ents, (e.name, e.code) ∈ t.ds ∧ ∃ (i : Nat) (d : He.DefD), fn[i]? = some d ∧ EntC t FT e d) (hds : ∀ p ∈ t.ds, ∃ e ∈ ents, e.name = p.1 ∧ e.code = p.2) (he : e ∈ ents) (hps : e.ps = [("script" : Str)]) (hmg : mg e.name = some (.ref f))
    (q : ∀ ns : List Int, ns.length ≤ 63 → ∃ S', callF FT k e.code [.ref 0] [.fl (ns.map D.int)] = .ok (.bl true) S') :
    ∃ (fd : FuncData) (sp : Sp), (∀ (s : Shared) (u : Value), BindsTo s fd ⟨[u], []⟩ [(("script" : Str), u)]) ∧ (∀ (H : Hp) (a : Addr) (ns : List Int), ns.length ≤ 63 → Only H → SqL K H a (ns.map V.int) → sp [.ref a] H (fun v _ => v = .bl true) fun _ _ _ => False) ∧
      ∀ base : Heap, FnOk P w K mg base (CXw P) k f fd [("script" : Str)] sp := by
  have M := md_of X N says hE hds
  obtain ⟨sd, hx⟩ := saysE says
  have fact : ∀ g ∈ t.fa, g.ok K = true := fun g hg => by
    obtain ⟨i, hi⟩ := List.mem_iff_getElem?.mp hg
    exact sd.fact i hi
  obtain ⟨h1, i, d, hi, b, tr, hat, nm, dfl, lk⟩ := hE e he
  obtain ⟨fd, FD⟩ := sd.def_ i hi
  have g := He.glo_ok X N (fact (.glo e.name) (List.mem_append_left _ (List.mem_map.mpr ⟨_, h1, rfl⟩)))
  unfold entB at b
  obtain ⟨b, b4⟩ := Bool.and_eq_true_iff.mp b
  obtain ⟨b, b3⟩ := Bool.and_eq_true_iff.mp b
  obtain ⟨b1, b2⟩ := Bool.and_eq_true_iff.mp b
  have ea : He.fAd K d.at_ = He.ga K e.name := by rw [hat]; rfl
  have ed : d.dvs K = [] := by unfold He.DefD.dvs; rw [dfl]; rfl
  rw [ea, ed, nm] at FD
  rw [hmg] at g
  cases g
  have E0 : EntOk K mg t.c FT e _ fd := ⟨hmg, FD.bindsN fun _ _ _ _ _ _ us hl => bind_plain b1 us hl, Nat.eq_of_beq_eq_true b3, Nat.eq_of_beq_eq_true b4, lk, _, _, _, _, _, 60, FD, C8.fnScope_by b2, tr⟩
  refine ⟨fd, spD ⟨K, fun _ => none, fun _ _ _ _ _ => False⟩ (callF FT k) e.code, fun s u => ?_, fun H a ns hl hO hS => ?_, fun base => ?_⟩
  · have := FD.bindsA (fun _ _ _ _ _ _ us hl => bind_plain b1 us hl) s [u] (by rw [hps]; rfl)
    rw [hps] at this
    exact this
  · obtain ⟨S', q'⟩ := q ns hl
    exact law_sp (G := ⟨K, fun _ => none, fun _ _ _ _ _ => False⟩) hO hS q'
  · have := fns_ok (P := P) (w := w) (base := base) M k e he _ fd E0
    rw [hps] at this
    exact fnOk_w this
end DE
/-! EV1: reasoning about the evaluator: what comes, and what is raised. -/
namespace DE
open PySem (Str PyData sizeLine)
def WP {α : Type} (r : R α) (E : Nat → D → Sto → Prop) (Q : α → Sto → Prop) : Prop := match r with
  | .ok a S => Q a S
  | .ex c x S => E c x S
  | .no => False
def WX (r : RX) (E : Nat → D → Sto → Prop) (Q : Fl → Env → Sto → Prop) : Prop := match r with
  | .ok f e S => Q f e S
  | .ex c x _ S => E c x S
  | .no => False
abbrev EE := Nat → D → Sto → Prop
section
variable {α β : Type} {E : EE} {cf : CF} {env : Env} {S : Sto}
theorem WP.mono {r : R α} {Q Q' : α → Sto → Prop} (h : WP r E Q) (k : ∀ a S, Q a S → Q' a S) : WP r E Q' := by
  cases r with
  | ok a S => exact k a S h
  | ex c x S => exact h
  | no => exact h
theorem WX.mono {r : RX} {Q Q' : Fl → Env → Sto → Prop} (h : WX r E Q) (k : ∀ f e S, Q f e S → Q' f e S) : WX r E Q' := by
  cases r with
  | ok a e S => exact k a e S h
  | ex c x e S => exact h
  | no => exact h
theorem WP.out {r : R α} {P : α → Prop} (h : WP r (fun _ _ _ => False) (fun a _ => P a)) : ∃ a S, r = .ok a S ∧ P a := by
  cases r with
  | ok a S => exact ⟨a, S, rfl, h⟩
  | ex c x S => exact h.elim
  | no => exact h.elim
@[simp] theorem wp_ok {a : α} {Q : α → Sto → Prop} : WP (.ok a S) E Q = Q a S := rfl
@[simp] theorem wp_bind {r : R α} {f : α → Sto → R β} {Q : β → Sto → Prop} : WP (r.bind f) E Q = WP r E (fun a S => WP (f a S) E Q) := by cases r <;> rfl
@[simp] theorem wx_go {r : R α} {f : α → Sto → RX} {Q : Fl → Env → Sto → Prop} : WX (r.go env f) E Q = WP r E (fun a S => WX (f a S) E Q) := by cases r <;> rfl
@[simp] theorem wx_ok {f : Fl} {e : Env} {Q : Fl → Env → Sto → Prop} : WX (.ok f e S) E Q = Q f e S := rfl
/-- what an Option leaves -/
def WO (o : Option α) (Q : α → Prop) : Prop := match o with
  | some a => Q a
  | none => False
@[simp] theorem wo_some {a : α} {Q : α → Prop} : WO (some a) Q = Q a := rfl
@[simp] theorem wp_ofO {o : Option α} {Q : α → Sto → Prop} : WP (R.ofO S o) E Q = WO o (fun a => Q a S) := by cases o <;> rfl
/-- a value as a test -/
def TB (d : D) (P N : Prop) : Prop := match d with
  | .bl true => P
  | .bl false => N
  | _ => False
@[simp] theorem tb_t {P N : Prop} : TB (.bl true) P N = P := rfl
@[simp] theorem tb_f {P N : Prop} : TB (.bl false) P N = N := rfl
theorem tb_c {b : Bool} {P N : Prop} (h : b = true → P) (h' : b = false → N) : TB (.bl b) P N := by
  cases b with
  | true => exact h rfl
  | false => exact h' rfl
theorem tb_p {p : Prop} [Decidable p] {P N : Prop} (h : p → P) (h' : ¬ p → N) : TB (.bl (decide p)) P N := by
  by_cases q : p
  · rw [decide_eq_true q]; exact h q
  · rw [decide_eq_false q]; exact h' q
@[simp] theorem wp_loc {i : Nat} {Q : D → Sto → Prop} : WP (ev cf (.loc i) env S) E Q = WO (env[i]?).join (fun d => Q d S) := by
  unfold ev
  cases h : env[i]? with
  | none => rfl
  | some o => cases o <;> rfl
@[simp] theorem wp_cst {d : D} {Q : D → Sto → Prop} : WP (ev cf (.cst d) env S) E Q = Q d S := by unfold ev; rfl
@[simp] theorem wp_bin {o : Bop} {a b : Ex} {Q : D → Sto → Prop} : WP (ev cf (.bin o a b) env S) E Q = WP (ev cf a env S) E fun x S1 => WP (ev cf b env S1) E fun y S2 => WP (bin o x y S2) E Q := by rw [ev]; simp only [wp_bind]
@[simp] theorem wp_cmp {o : Cop} {a b : Ex} {Q : D → Sto → Prop} : WP (ev cf (.cmp o a b) env S) E Q = WP (ev cf a env S) E fun x S1 => WP (ev cf b env S1) E fun y S2 => WO (cmp o x y S2) fun k => Q (.bl k) S2 := by
  rw [ev]
  simp only [wp_bind]
  congr; funext x S1; congr; funext y S2
  cases cmp o x y S2 <;> rfl
@[simp] theorem wp_chn {o p : Cop} {a b c : Ex} {Q : D → Sto → Prop} : WP (ev cf (.chn o p a b c) env S) E Q = WP (ev cf a env S) E fun x S1 => WP (ev cf b env S1) E fun y S2 => WO (cmp o x y S2) fun k =>
    TB (.bl k) (WP (ev cf c env S2) E fun z S3 => WO (cmp p y z S3) fun k => Q (.bl k) S3) (Q (.bl false) S2) := by
  rw [ev]
  simp only [wp_bind]
  congr; funext x S1; congr; funext y S2
  rcases cmp o x y S2 with _ | _ | _
  · rfl
  · rfl
  · simp only [wo_some, tb_t, wp_bind]
    congr; funext z S3
    cases cmp p y z S3 <;> rfl
theorem tb_match {d : D} {P N : R α} {Q : α → Sto → Prop} : WP (match d with | .bl true => P | .bl false => N | _ => .no) E Q = TB d (WP P E Q) (WP N E Q) := by
  cases d with
  | bl b => cases b <;> rfl
  | _ => rfl
@[simp] theorem wp_and {a b : Ex} {Q : D → Sto → Prop} : WP (ev cf (.and a b) env S) E Q = WP (ev cf a env S) E fun x S1 => TB x (WP (ev cf b env S1) E Q) (Q (.bl false) S1) := by
  rw [ev]; simp only [wp_bind]; congr; funext x S1; exact tb_match
@[simp] theorem wp_or {a b : Ex} {Q : D → Sto → Prop} : WP (ev cf (.or a b) env S) E Q = WP (ev cf a env S) E fun x S1 => TB x (Q (.bl true) S1) (WP (ev cf b env S1) E Q) := by
  rw [ev]; simp only [wp_bind]; congr; funext x S1; exact tb_match
@[simp] theorem wp_ite {c a b : Ex} {Q : D → Sto → Prop} : WP (ev cf (.ite c a b) env S) E Q = WP (ev cf c env S) E fun x S1 => TB x (WP (ev cf a env S1) E Q) (WP (ev cf b env S1) E Q) := by
  rw [ev]; simp only [wp_bind]; congr; funext x S1; exact tb_match
@[simp] theorem wp_not {a : Ex} {Q : D → Sto → Prop} : WP (ev cf (.not a) env S) E Q = WP (ev cf a env S) E fun x S1 => TB x (Q (.bl false) S1) (Q (.bl true) S1) := by
  rw [ev]; simp only [wp_bind]; congr; funext x S1
  cases x with
  | bl b => cases b <;> rfl
  | _ => rfl
@[simp] theorem wp_neg {a : Ex} {Q : D → Sto → Prop} : WP (ev cf (.neg a) env S) E Q = WP (ev cf a env S) E fun x S1 => WO (intOf x) fun i => Q (.int (-i)) S1 := by
  rw [ev]; simp only [wp_bind]; congr; funext x S1; cases x <;> rfl
@[simp] theorem wp_ci {a : Ex} {Q : D → Sto → Prop} : WP (ev cf (.ci a) env S) E Q = WP (ev cf a env S) E fun x S1 => WO (intOf x) fun i => Q (.int i) S1 := by
  rw [ev]; simp only [wp_bind]; congr; funext x S1; cases x <;> rfl
@[simp] theorem wp_tup {es : Exs} {Q : D → Sto → Prop} : WP (ev cf (.tup es) env S) E Q = WP (evs cf es env S) E fun ds S1 => ds.length ≤ sizeLine ∧ Q (mkT ds) S1 := by
  rw [ev]; simp only [wp_bind]; congr; funext ds S1
  cases h : Nat.ble ds.length sizeLine with
  | true => simp only [wp_ok, Nat.le_of_ble_eq_true h, true_and]
  | false =>
    have : ¬ ds.length ≤ sizeLine := fun q => by rw [Nat.ble_eq_true_of_le q] at h; cases h
    simp only [this, false_and]
    rfl
theorem wp_newL {ds : List D} {Q : D → Sto → Prop} : WP (newL ds S) E Q = (ds.length ≤ sizeLine ∧ Q (.ref S.length) (S ++ [.lst ds])) := by
  unfold newL
  cases h : Nat.ble ds.length sizeLine with
  | true => simp only [wp_ok, Nat.le_of_ble_eq_true h, true_and]
  | false =>
    have : ¬ ds.length ≤ sizeLine := fun q => by rw [Nat.ble_eq_true_of_le q] at h; cases h
    simp only [this, false_and]
    rfl
@[simp] theorem wp_lst {es : Exs} {Q : D → Sto → Prop} : WP (ev cf (.lst es) env S) E Q = WP (evs cf es env S) E fun ds S1 => ds.length ≤ sizeLine ∧ Q (.ref S1.length) (S1 ++ [.lst ds]) := by
  rw [ev]; simp only [wp_bind, wp_newL]
@[simp] theorem wp_dic0 {Q : D → Sto → Prop} : WP (ev cf .dic0 env S) E Q = Q (.ref S.length) (S ++ [.dk []]) := by rw [ev]; rfl
@[simp] theorem wp_call {f : Nat} {es : Exs} {Q : D → Sto → Prop} : WP (ev cf (.call f es) env S) E Q = WP (evs cf es env S) E fun ds S1 => WP (cf f ds S1) E Q := by rw [ev]; simp only [wp_bind]
@[simp] theorem wp_blt {b : Blt} {es : Exs} {Q : D → Sto → Prop} : WP (ev cf (.blt b es) env S) E Q = WP (evs cf es env S) E fun ds S1 => WP (blt b ds S1) E Q := by rw [ev]; simp only [wp_bind]
@[simp] theorem wp_mth {m : Mth} {o : Ex} {es : Exs} {Q : D → Sto → Prop} : WP (ev cf (.mth m o es) env S) E Q = WP (ev cf o env S) E fun x S1 => mthOk m x S1 = true ∧ WP (evs cf es env S1) E fun ds S2 => WP (mth m x ds S2) E Q := by
  rw [ev]; simp only [wp_bind]; congr; funext x S1
  cases h : mthOk m x S1 with
  | true => simp only [wp_bind, true_and]
  | false => simp [WP]
@[simp] theorem wp_idx {a b : Ex} {Q : D → Sto → Prop} : WP (ev cf (.idx a b) env S) E Q = WP (ev cf a env S) E fun x S1 => WP (ev cf b env S1) E fun y S2 => WO (idx x y S2) fun d => Q d S2 := by rw [ev]; simp only [wp_bind, wp_ofO]
@[simp] theorem wp_slc {a b c : Ex} {Q : D → Sto → Prop} : WP (ev cf (.slc a b c) env S) E Q = WP (ev cf a env S) E fun x S1 => WP (ev cf b env S1) E fun y S2 => WP (ev cf c env S2) E fun z S3 => WP (slc x y z S3) E Q := by rw [ev]; simp only [wp_bind]
@[simp] theorem wp_rev {a : Ex} {Q : D → Sto → Prop} : WP (ev cf (.rev a) env S) E Q = WP (ev cf a env S) E fun x S1 => WP (rev x S1) E Q := by rw [ev]; simp only [wp_bind]
@[simp] theorem wps_nil {Q : List D → Sto → Prop} : WP (evs cf .nil env S) E Q = Q [] S := by rw [evs]; rfl
@[simp] theorem wps_cons {e : Ex} {es : Exs} {Q : List D → Sto → Prop} : WP (evs cf (.cons e es) env S) E Q = WP (ev cf e env S) E fun d S1 => WP (evs cf es env S1) E fun ds S2 => Q (d :: ds) S2 := by rw [evs]; simp only [wp_bind, wp_ok]
/-- a comprehension's body -/
def lcB (cf : CF) (own : List Nat) (g : Tg) (cs : Exs) (e : Ex) (env : Env) : D → Sto → R (Option D) := fun d S2 => match bindT g d (wipe env own) with
  | none => .no
  | some env2 => (evc cf cs env2 S2).bind fun k S3 => (match k with
    | true => (ev cf e env2 S3).bind fun x S4 => .ok (some x) S4
    | false => .ok none S3)
@[simp] theorem wp_lc {own : List Nat} {g : Tg} {it : Itx} {cs : Exs} {e : Ex} {Q : D → Sto → Prop} : WP (ev cf (.lc own g it cs e) env S) E Q = WP (evi cf it env S) E fun iv S1 => WP (lcGo (lcB cf own g cs e env) iv fuel 0 [] S1) E fun ds S2 => ds.length ≤ sizeLine ∧ Q (.ref S2.length) (S2 ++ [.lst ds]) := by
  rw [ev]; simp only [wp_bind, wp_newL]; rfl
theorem wp_lcB {own : List Nat} {g : Tg} {cs : Exs} {e : Ex} {d : D} {Q : Option D → Sto → Prop} : WP (lcB cf own g cs e env d S) E Q = WO (bindT g d (wipe env own)) fun env2 => WP (evc cf cs env2 S) E fun k S3 => if k = true then WP (ev cf e env2 S3) E (fun x S4 => Q (some x) S4) else Q none S3 := by
  unfold lcB
  cases bindT g d (wipe env own) with
  | none => rfl
  | some env2 =>
    simp only [wp_bind, wo_some]
    congr; funext k S3
    cases k with
    | true => simp only [wp_bind, wp_ok, if_pos]
    | false => simp
@[simp] theorem wpc_nil {Q : Bool → Sto → Prop} : WP (evc cf .nil env S) E Q = Q true S := by rw [evc]; rfl
@[simp] theorem wpc_one {e : Ex} {Q : Bool → Sto → Prop} : WP (evc cf (.cons e .nil) env S) E Q = WP (ev cf e env S) E fun x S1 => WO (boolOf x) fun k => Q k S1 := by
  rw [evc]; simp only [wp_bind]; congr; funext x S1; cases x <;> rfl
@[simp] theorem wpi_seq {e : Ex} {Q : IV → Sto → Prop} : WP (evi cf (.seq e) env S) E Q = WP (ev cf e env S) E fun d S1 => WO (ivOf S1 d) fun iv => Q iv S1 := by rw [evi]; simp only [wp_bind, wp_ofO]
@[simp] theorem wpi_zip {a b : Ex} {Q : IV → Sto → Prop} : WP (evi cf (.zip a b) env S) E Q = WP (ev cf a env S) E fun x S1 => WP (ev cf b env S1) E fun y S2 => WO (zipOf S2 x y) fun iv => Q iv S2 := by rw [evi]; simp only [wp_bind, wp_ofO]
@[simp] theorem wpi_rng {e : Ex} {Q : IV → Sto → Prop} : WP (evi cf (.rng e) env S) E Q = WP (ev cf e env S) E fun d S1 => WO (intOf d) fun n => (n < 2 ^ 62 ∧ -(2 ^ 62) ≤ n) ∧ Q (.fix ((List.range n.toNat).map fun (i : Nat) => D.int i)) S1 := by
  rw [evi]; simp only [wp_bind]; congr; funext d S1
  cases d with
  | int n =>
    show WP (match decide (n < 2 ^ 62) && decide (-(2 ^ 62) ≤ n) with | true => _ | false => _) E Q = ((n < 2 ^ 62 ∧ -(2 ^ 62) ≤ n) ∧ _)
    cases h : decide (n < 2 ^ 62) && decide (-(2 ^ 62) ≤ n) with
    | true =>
      obtain ⟨h1, h2⟩ := Bool.and_eq_true_iff.mp h
      simp only [wp_ok, of_decide_eq_true h1, of_decide_eq_true h2, true_and, and_self]
    | false =>
      have : ¬ (n < 2 ^ 62 ∧ -(2 ^ 62) ≤ n) := fun q => by rw [decide_eq_true q.1, decide_eq_true q.2] at h; cases h
      simp only [this, false_and]
      rfl
  | _ => rfl
/-! ### statements -/
@[simp] theorem wxs_nil {Q : Fl → Env → Sto → Prop} : WX (execs cf [] env S) E Q = Q .nx env S := by rw [execs]; rfl
def nxt (Q : Fl → Env → Sto → Prop) (k : Env → Sto → Prop) : Fl → Env → Sto → Prop := fun f e S => match f with
  | .nx => k e S
  | f => Q f e S
@[simp] theorem nxt_nx {Q : Fl → Env → Sto → Prop} {k : Env → Sto → Prop} {e : Env} : nxt Q k .nx e S = k e S := rfl
@[simp] theorem nxt_rt {Q : Fl → Env → Sto → Prop} {k : Env → Sto → Prop} {e : Env} {d : D} : nxt Q k (.rt d) e S = Q (.rt d) e S := rfl
@[simp] theorem nxt_bk {Q : Fl → Env → Sto → Prop} {k : Env → Sto → Prop} {e : Env} : nxt Q k .bk e S = Q .bk e S := rfl
@[simp] theorem nxt_ct {Q : Fl → Env → Sto → Prop} {k : Env → Sto → Prop} {e : Env} : nxt Q k .ct e S = Q .ct e S := rfl
@[simp] theorem wxs_cons {s : Ss} {r : List Ss} {Q : Fl → Env → Sto → Prop} : WX (execs cf (s :: r) env S) E Q = WX (exec cf s env S) E (nxt Q fun e S1 => WX (execs cf r e S1) E Q) := by
  rw [execs]
  cases exec cf s env S with
  | no => rfl
  | ex c x e S => rfl
  | ok f e S => cases f <;> rfl
variable {Q : Fl → Env → Sto → Prop}
@[simp] theorem wx_asg {i : Nat} {e : Ex} : WX (exec cf (.asg i e) env S) E Q = WP (ev cf e env S) E fun d S1 => Q .nx (env.set i (some d)) S1 := by rw [exec]; simp only [wx_go, wx_ok]
@[simp] theorem wx_asgT {is : List Nat} {e : Ex} : WX (exec cf (.asgT is e) env S) E Q = WP (ev cf e env S) E fun d S1 => WO (bindT (.t is) d env) fun e2 => Q .nx e2 S1 := by
  rw [exec]; simp only [wx_go]; congr; funext d S1; cases bindT (.t is) d env <;> rfl
@[simp] theorem wx_par {is : List Nat} {es : Exs} : WX (exec cf (.par is es) env S) E Q = WP (evs cf es env S) E fun ds S1 => ds.length = is.length ∧ Q .nx (setMany env is ds) S1 := by
  rw [exec]; simp only [wx_go]; congr; funext ds S1
  cases h : Nat.beq ds.length is.length with
  | true => simp only [wx_ok, Nat.eq_of_beq_eq_true h, true_and]
  | false =>
    have : ¬ ds.length = is.length := fun q => by rw [q, Nat.beq_refl] at h; cases h
    simp only [this, false_and]
    rfl
@[simp] theorem wx_setI {o i e : Ex} : WX (exec cf (.setI o i e) env S) E Q = WP (ev cf e env S) E fun v S1 => WP (ev cf o env S1) E fun x S2 => WP (ev cf i env S2) E fun y S3 => WP (setI x y v S3) E fun _ S4 => Q .nx env S4 := by rw [exec]; simp only [wx_go, wx_ok]
@[simp] theorem wx_ret {e : Ex} : WX (exec cf (.ret e) env S) E Q = WP (ev cf e env S) E fun d S1 => Q (.rt d) env S1 := by rw [exec]; simp only [wx_go, wx_ok]
@[simp] theorem wx_iff {c : Ex} {a b : List Ss} : WX (exec cf (.iff c a b) env S) E Q = WP (ev cf c env S) E fun x S1 => TB x (WX (execs cf a env S1) E Q) (WX (execs cf b env S1) E Q) := by
  rw [exec]; simp only [wx_go]; congr; funext x S1
  cases x with
  | bl b => cases b <;> rfl
  | _ => rfl
@[simp] theorem wx_exp {e : Ex} : WX (exec cf (.exp e) env S) E Q = WP (ev cf e env S) E fun _ S1 => Q .nx env S1 := by rw [exec]; simp only [wx_go, wx_ok]
@[simp] theorem wx_pass : WX (exec cf .pass env S) E Q = Q .nx env S := by rw [exec]; rfl
@[simp] theorem wx_brk : WX (exec cf .brk env S) E Q = Q .bk env S := by rw [exec]; rfl
@[simp] theorem wx_cnt : WX (exec cf .cnt env S) E Q = Q .ct env S := by rw [exec]; rfl
@[simp] theorem wx_rse {c : Nat} : WX (exec cf (.rse c) env S) E Q = E c .non S := by rw [exec]; rfl
end

/-! ### calls -/
section
variable {E : EE} {S : Sto} {FT : List (Nat × Fn)} {Q : D → Sto → Prop}
theorem call_wp {k f : Nat} {ds : List D} {fn : Fn} (hf : lookF FT f = some fn) (hn : Nat.beq ds.length fn.np = true)
    (h : WX (execs (callF FT k) fn.body (ds.map some ++ List.replicate (fn.nl - fn.np) none) S) (fun c x S1 => below S.length x = true ∧ E c x (S1.take S.length)) fun fl _ S1 => match fl with
      | .rt d => WP (fin S.length d S1) E Q
      | .nx => Q .non (S1.take S.length)
      | _ => False) : WP (callF FT (k + 1) f ds S) E Q := by
  unfold callF
  rw [hf]
  simp only [hn]
  cases hx : execs (callF FT k) fn.body (ds.map some ++ List.replicate (fn.nl - fn.np) none) S with
  | no => rw [hx] at h; exact h
  | ex c x e S1 =>
    rw [hx] at h
    obtain ⟨h1, h2⟩ := h
    simp only [h1]
    exact h2
  | ok fl e S1 =>
    rw [hx] at h
    cases fl with
    | rt d => exact h
    | nx => exact h
    | bk => exact h.elim
    | ct => exact h.elim
theorem fin_pure {m : Nat} {d : D} (h : below m d = true) (q : Q d (S.take m)) : WP (fin m d S) E Q := by
  unfold fin
  rw [h]
  exact q
theorem fin_list {m n : Nat} {ds : List D} (h : m ≤ n) (hn : S[n]? = some (.lst ds)) (hb : belows m ds = true) (q : Q (.ref m) (S.take m ++ [.lst ds])) : WP (fin m (.ref n) S) E Q := by
  unfold fin
  have : below m (.ref n) = false := by
    show Nat.blt n m = false
    cases z : Nat.blt n m with
    | false => rfl
    | true =>
      have : n < m := Nat.le_of_ble_eq_true z
      omega
  simp only [this, hn, hb]
  exact q
/-! ### loops -/
theorem lc_rule {body : D → Sto → R (Option D)} {iv : IV} {Q : List D → Sto → Prop} (I : Nat → List D → Sto → Prop) (N : Nat) (hN : N < fuel) (h0 : I 0 [] S)
    (hs : ∀ i acc S, I i acc S → match ivGet S i iv with
      | none => False
      | some none => Q acc S
      | some (some d) => i < N ∧ ∃ P : Option D → Sto → Prop, WP (body d S) (fun _ _ _ => False) P ∧ (∀ e S1, P (some e) S1 → I (i + 1) (acc ++ [e]) (match below S.length e with | true => S1.take S.length | false => S1)) ∧ ∀ S1, P none S1 → I (i + 1) acc (S1.take S.length)) :
    WP (lcGo body iv fuel 0 [] S) E Q := by
  have key : ∀ (f i : Nat) (acc : List D) (S : Sto), N < f + i → i ≤ N → I i acc S → WP (lcGo body iv f i acc S) E Q := by
    intro f
    induction f with
    | zero =>
      intro i acc S hl hl2 hi
      omega
    | succ f ih =>
      intro i acc S hl hl2 hi
      have q := hs i acc S hi
      unfold lcGo
      cases hg : ivGet S i iv with
      | none => rw [hg] at q; exact q.elim
      | some o =>
        cases o with
        | none => rw [hg] at q; exact q
        | some d =>
          rw [hg] at q
          obtain ⟨hi2, P, hb, h1, h2⟩ := q
          cases hbd : body d S with
          | no => rw [hbd] at hb; exact hb.elim
          | ex c x S1 => rw [hbd] at hb; exact hb.elim
          | ok r S1 =>
            rw [hbd] at hb
            cases r with
            | none =>
              simp only [hbd]
              exact ih _ _ _ (by omega) (by omega) (h2 S1 hb)
            | some e =>
              simp only [hbd]
              exact ih _ _ _ (by omega) (by omega) (h1 e S1 hb)
  exact key fuel 0 [] S (by omega) (Nat.zero_le _) h0
/-- a comprehension that makes one item of each: the items kept in mind by A, the store by J -/
theorem lc_each {body : D → Sto → R (Option D)} {ds : List D} {Q : List D → Sto → Prop} (J : Nat → List D → Sto → Prop) (hN : ds.length < fuel) (h0 : J 0 [] S)
    (hs : ∀ i d acc S, ds[i]? = some d → J i acc S → WP (body d S) (fun _ _ _ => False) fun o S1 => ∃ e, o = some e ∧ below S.length e = true ∧ J (i + 1) (acc ++ [e]) (S1.take S.length)) (hq : ∀ acc S, J ds.length acc S → Q acc S) :
    WP (lcGo body (.fix ds) fuel 0 [] S) E Q := by
  refine lc_rule (fun i acc S => i ≤ ds.length ∧ J i acc S) ds.length hN ⟨Nat.zero_le _, h0⟩ fun i acc S hi => ?_
  unfold ivGet
  cases hd : ds[i]? with
  | none =>
    have : i = ds.length := by
      have := List.getElem?_eq_none_iff.mp hd
      omega
    subst this
    exact hq acc S hi.2
  | some d =>
    have hl := (List.getElem?_eq_some_iff.mp hd).1
    refine ⟨hl, _, hs i d acc S hd hi.2, fun e S1 h => ?_, fun S1 h => ?_⟩
    · obtain ⟨e', he, hb, hj⟩ := h
      cases he
      rw [hb]
      exact ⟨hl, hj⟩
    · obtain ⟨e', he, _⟩ := h
      cases he
theorem whl_rule {c : Env → Sto → R D} {b : Env → Sto → RX} {kill : List Nat} {env : Env} {Q : Fl → Env → Sto → Prop} (I : Nat → Env → Sto → Prop) (N : Nat) (hN : N < fuel) (h0 : I N env S)
    (hs : ∀ m e S, I m e S → WP (c e S) E fun k S1 => TB k (0 < m ∧ WX (b e S1) E fun fl e2 S2 => match fl with
      | .nx => ∃ m', m' < m ∧ I m' (wipe e2 kill) (trim S.length (wipe e2 kill) S2)
      | .ct => ∃ m', m' < m ∧ I m' (wipe e2 kill) (trim S.length (wipe e2 kill) S2)
      | .bk => Q .nx e2 S2
      | f => Q f e2 S2) (Q .nx e (trim S.length e S1))) : WX (whlGo c b kill fuel env S) E Q := by
  have key : ∀ (f m : Nat) (e : Env) (S : Sto), m < f → I m e S → WX (whlGo c b kill f e S) E Q := by
    intro f
    induction f with
    | zero => intro m e S hl; omega
    | succ f ih =>
      intro m e S hl hi
      have q := hs m e S hi
      unfold whlGo
      rw [wx_go]
      refine WP.mono q fun k S1 h => ?_
      cases k with
      | bl k =>
        cases k with
        | false => exact h
        | true =>
          obtain ⟨hm, h⟩ := h
          simp only
          cases hb : b e S1 with
          | no => rw [hb] at h; exact h
          | ex cc x e2 S2 => rw [hb] at h; exact h
          | ok fl e2 S2 =>
            rw [hb] at h
            cases fl with
            | nx =>
              obtain ⟨m', h1, h2⟩ := h
              exact ih m' _ _ (by omega) h2
            | ct =>
              obtain ⟨m', h1, h2⟩ := h
              exact ih m' _ _ (by omega) h2
            | bk => exact h
            | rt d => exact h
      | _ => exact h.elim
  exact key fuel N env S hN h0
theorem for_rule {g : Tg} {b : Env → Sto → RX} {kill : List Nat} {iv : IV} {env : Env} {Q : Fl → Env → Sto → Prop} (I : Nat → Env → Sto → Prop) (N : Nat) (hN : N < fuel) (h0 : I 0 env S)
    (hs : ∀ i e S, I i e S → match ivGet S i iv with
      | none => False
      | some none => Q .nx e S
      | some (some d) => i < N ∧ WO (bindT g d e) fun e1 => WX (b e1 S) E fun fl e2 S2 => match fl with
        | .nx => I (i + 1) (wipe e2 kill) (trim S.length (wipe e2 kill) S2)
        | .ct => I (i + 1) (wipe e2 kill) (trim S.length (wipe e2 kill) S2)
        | .bk => Q .nx e2 S2
        | f => Q f e2 S2) : WX (forGo g b kill iv fuel 0 env S) E Q := by
  have key : ∀ (f i : Nat) (e : Env) (S : Sto), N < f + i → i ≤ N → I i e S → WX (forGo g b kill iv f i e S) E Q := by
    intro f
    induction f with
    | zero => intro i e S hl hl2 hi; omega
    | succ f ih =>
      intro i e S hl hl2 hi
      have q := hs i e S hi
      unfold forGo
      cases hg : ivGet S i iv with
      | none => rw [hg] at q; exact q.elim
      | some o =>
        cases o with
        | none => rw [hg] at q; exact q
        | some d =>
          rw [hg] at q
          obtain ⟨hi2, q⟩ := q
          cases hbt : bindT g d e with
          | none => rw [hbt] at q; exact q.elim
          | some e1 =>
            rw [hbt] at q
            have q : WX (b e1 S) E _ := q
            simp only [hbt]
            cases hb : b e1 S with
            | no => rw [hb] at q; exact q.elim
            | ex cc x e2 S2 => rw [hb] at q; exact q
            | ok fl e2 S2 =>
              rw [hb] at q
              cases fl with
              | nx => exact ih _ _ _ (by omega) (by omega) q
              | ct => exact ih _ _ _ (by omega) (by omega) q
              | bk => exact q
              | rt d => exact q
  exact key fuel 0 env S (by omega) (Nat.zero_le _) h0
@[simp] theorem wx_whl {cf : CF} {env : Env} {kill : List Nat} {c : Ex} {b : List Ss} {Q : Fl → Env → Sto → Prop} : WX (exec cf (.whl kill c b) env S) E Q = WX (whlGo (fun env S => ev cf c env S) (fun env S => execs cf b env S) kill fuel env S) E Q := by rw [exec]
@[simp] theorem wx_for {cf : CF} {env : Env} {kill : List Nat} {g : Tg} {it : Itx} {b : List Ss} {Q : Fl → Env → Sto → Prop} : WX (exec cf (.for kill g it b) env S) E Q = WP (evi cf it env S) E fun iv S1 => WX (forGo g (fun env S => execs cf b env S) kill iv fuel 0 env S1) E Q := by rw [exec]; simp only [wx_go]
end
end DE
namespace DE
open PySem PySem.Spec PyProof.Rows L2
def cs : List (Str × D) := [(("GREAT" : Str), (.int (1000000000000000000000000000000000000000000000000000000000000))), (("LETTERS" : Str), (.str "abcdefghijklmnopqrstuvwxyz")), (("MOST_LETTERS" : Str), (.int (12))), (("MOST_VALUE" : Str), (.int (4000))), (("MOST_DEEP_VALUE" : Str), (.int (500))), (("MOST_EXPRESSION" : Str), (.int (2000))), (("MOST_DEEP" : Str), (.int (60))), (("MOST_FUNCTIONS" : Str), (.int (60))), (("MOST_PARAMETERS" : Str), (.int (8))), (("MOST_PROGRAM" : Str), (.int (4000))), (("NAME" : Str), (.str "name")), (("VALUE" : Str), (.str "value")), (("DO" : Str), (.str "do")), (("IF" : Str), (.str "if")), (("LET" : Str), (.str "let")), (("CALL" : Str), (.str "call")), (("HALT" : Str), (.str "halt")), (("ONE_TAKEN" : Str), (.tup [(.str "head"), (.str "tail"), (.str "isint"), (.str "isword"), (.str "ispair")])), (("TWO_TAKEN" : Str), (.tup [(.str "add"), (.str "sub"), (.str "mul"), (.str "quot"), (.str "rest"), (.str "less"), (.str "same"), (.str "pair")])), (("OPEN" : Str), (.tup [(.int (0)), (.int (0))]))]
def fr : List Str := [("len" : Str), ("isinstance" : Str), ("all" : Str), ("any" : Str), ("list" : Str), ("tuple" : Str), ("dict" : Str), ("set" : Str), ("sorted" : Str), ("zip" : Str), ("range" : Str), ("max" : Str), ("min" : Str), ("abs" : Str), ("int" : Str), ("sum" : Str), ("enumerate" : Str), ("str" : Str), ("bool" : Str)]
def ds : List (Str × Nat) := [(("is_integer" : Str), 0), (("is_whole" : Str), 1), (("is_tuple_of" : Str), 2), (("is_text_of" : Str), 3), (("fits_name" : Str), 4), (("is_atom" : Str), 5), (("measured" : Str), 6), (("fits_value" : Str), 7), (("are_values" : Str), 8), (("taken_by" : Str), 9), (("is_operation" : Str), 10), (("parts_in" : Str), 11), (("fits_head" : Str), 12), (("nodes_of" : Str), 13), (("size_in" : Str), 14), (("fits_expression" : Str), 15), (("asked_in" : Str), 16), (("calls_in" : Str), 17), (("fits_function" : Str), 18), (("fits_program" : Str), 19), (("need_program" : Str), 20), (("fits_inputs" : Str), 21), (("is_known_pair" : Str), 22), (("fits_known" : Str), 23), (("need_pairs" : Str), 24), (("are_known" : Str), 25), (("which_known" : Str), 26), (("all_inputs" : Str), 27), (("left_inputs" : Str), 28), (("are_inputs" : Str), 29), (("_law_cup" : Str), 30), (("_law_roll" : Str), 31), (("_law_some" : Str), 32), (("_law_sort" : Str), 33), (("_law_like" : Str), 34), (("_law_value" : Str), 35), (("_law_expression" : Str), 36), (("_law_loop" : Str), 37), (("_law_program" : Str), 38), (("_law_inputs" : Str), 39), (("_law_known" : Str), 40), (("_law_left" : Str), 41), (("_law_is_value" : Str), 42), (("_law_are_known" : Str), 43), (("_law_bent" : Str), 44), (("_law_right" : Str), 45), (("_law_written_right" : Str), 46), (("law" : Str), 47)]
def tb : Tb := ⟨cs, fr, ds⟩
def top (i : Nat) : Stmt := PySem.Challenge.pw_knownahead_k29_whole_known_inputs.main.body.getD i (.Pass ⟨0, 0, 0, 0⟩)
def mkD (x : Str) (i : Nat) : He.DefD := ⟨(x, none), x, x, L2.defArgs (top i), L2.defBody (top i), L2.defScope (top i), [], []⟩
def fn : List He.DefD := [mkD "is_integer" 24, mkD "is_whole" 25, mkD "is_tuple_of" 26, mkD "is_text_of" 27, mkD "fits_name" 28, mkD "is_atom" 29, mkD "measured" 30, mkD "fits_value" 31, mkD "are_values" 32, mkD "taken_by" 33, mkD "is_operation" 34, mkD "parts_in" 35, mkD "fits_head" 36, mkD "nodes_of" 37, mkD "size_in" 38, mkD "fits_expression" 39, mkD "asked_in" 40, mkD "calls_in" 41, mkD "fits_function" 42, mkD "fits_program" 43, mkD "need_program" 44, mkD "fits_inputs" 45, mkD "is_known_pair" 48, mkD "fits_known" 49, mkD "need_pairs" 50, mkD "are_known" 51, mkD "which_known" 52, mkD "all_inputs" 53, mkD "left_inputs" 54, mkD "are_inputs" 56, mkD "_law_cup" 58, mkD "_law_roll" 59, mkD "_law_some" 60, mkD "_law_sort" 61, mkD "_law_like" 62, mkD "_law_value" 63, mkD "_law_expression" 64, mkD "_law_loop" 65, mkD "_law_program" 66, mkD "_law_inputs" 67, mkD "_law_known" 68, mkD "_law_left" 69, mkD "_law_is_value" 70, mkD "_law_are_known" 71, mkD "_law_bent" 72, mkD "_law_right" 73, mkD "_law_written_right" 74, mkD "law" 75]

abbrev c_is_integer : Nat := 0
def N_is_integer : List Str := ["value"]
def b_is_integer : List Ss := [.ret (.and (.blt .isI (.cons (.loc 0) .nil)) (.not (.blt .isB (.cons (.loc 0) .nil))))]
def e_is_integer : Ent := ⟨c_is_integer, "is_integer", ["value"], N_is_integer, ⟨1, 1, b_is_integer⟩⟩
abbrev c_is_whole : Nat := 1
def N_is_whole : List Str := ["value", "low", "high"]
def b_is_whole : List Ss := [.ret (.and (.call c_is_integer (.cons (.loc 0) .nil)) (.chn .le .le (.loc 1) (.loc 0) (.loc 2)))]
def e_is_whole : Ent := ⟨c_is_whole, "is_whole", ["value", "low", "high"], N_is_whole, ⟨3, 3, b_is_whole⟩⟩
abbrev c_is_tuple_of : Nat := 2
def N_is_tuple_of : List Str := ["value", "low", "high"]
def b_is_tuple_of : List Ss := [.ret (.and (.blt .isT (.cons (.loc 0) .nil)) (.chn .le .le (.loc 1) (.blt .len (.cons (.loc 0) .nil)) (.loc 2)))]
def e_is_tuple_of : Ent := ⟨c_is_tuple_of, "is_tuple_of", ["value", "low", "high"], N_is_tuple_of, ⟨3, 3, b_is_tuple_of⟩⟩
abbrev c_is_text_of : Nat := 3
def N_is_text_of : List Str := ["value", "signs", "low", "high", ".0", "sign"]
def b_is_text_of : List Ss := [.ret (.and (.blt .isS (.cons (.loc 0) .nil)) (.and (.chn .le .le (.loc 2) (.blt .len (.cons (.loc 0) .nil)) (.loc 3)) (.blt .all (.cons (.lc [4, 5] (.v 5) (.seq (.loc 0)) .nil (.cmp .isin (.loc 5) (.loc 1))) .nil))))]
def e_is_text_of : Ent := ⟨c_is_text_of, "is_text_of", ["value", "signs", "low", "high"], N_is_text_of, ⟨4, 6, b_is_text_of⟩⟩
abbrev c_fits_name : Nat := 4
def N_fits_name : List Str := ["value"]
def b_fits_name : List Ss := [.ret (.call c_is_text_of (.cons (.loc 0) (.cons (.cst (.str "abcdefghijklmnopqrstuvwxyz")) (.cons (.cst (.int (1))) (.cons (.cst (.int (12))) .nil)))))]
def e_fits_name : Ent := ⟨c_fits_name, "fits_name", ["value"], N_fits_name, ⟨1, 1, b_fits_name⟩⟩
abbrev c_is_atom : Nat := 5
def N_is_atom : List Str := ["value"]
def b_is_atom : List Ss := [.ret (.or (.call c_is_whole (.cons (.loc 0) (.cons (.bin .sub (.cst (.int (1))) (.cst (.int (1000000000000000000000000000000000000000000000000000000000000)))) (.cons (.bin .sub (.cst (.int (1000000000000000000000000000000000000000000000000000000000000))) (.cst (.int (1)))) .nil)))) (.call c_fits_name (.cons (.loc 0) .nil)))]
def e_is_atom : Ent := ⟨c_is_atom, "is_atom", ["value"], N_is_atom, ⟨1, 1, b_is_atom⟩⟩
abbrev c_measured : Nat := 6
def N_measured : List Str := ["value", "many", "deepest", "todo", "here", "deep"]
def b_measured : List Ss := [.par [1, 2, 3] (.cons (.cst (.int (0))) (.cons (.cst (.int (0))) (.cons (.lst (.cons (.tup (.cons (.loc 0) (.cons (.cst (.int (0))) .nil))) .nil)) .nil))), .whl [] (.cmp .ne (.loc 3) (.lst .nil)) [.asgT [4, 5] (.mth .pop (.loc 3) .nil), .iff (.call c_is_tuple_of (.cons (.loc 4) (.cons (.cst (.int (2))) (.cons (.cst (.int (2))) .nil)))) [.exp (.mth .extend (.loc 3) (.cons (.lst (.cons (.tup (.cons (.idx (.loc 4) (.cst (.int (1)))) (.cons (.bin .add (.loc 5) (.cst (.int (1)))) .nil))) (.cons (.tup (.cons (.idx (.loc 4) (.cst (.int (0)))) (.cons (.bin .add (.loc 5) (.cst (.int (1)))) .nil))) .nil))) .nil)), .asg 2 (.blt .max2 (.cons (.loc 2) (.cons (.bin .add (.loc 5) (.cst (.int (1)))) .nil)))] [.iff (.call c_is_atom (.cons (.loc 4) .nil)) [.asg 1 (.bin .add (.loc 1) (.cst (.int (1))))] [.ret (.cst .non)]], .iff (.or (.cmp .gt (.bin .add (.loc 1) (.blt .len (.cons (.loc 3) .nil))) (.cst (.int (4000)))) (.cmp .gt (.loc 2) (.cst (.int (500))))) [.ret (.cst .non)] []], .ret (.tup (.cons (.loc 1) (.cons (.loc 2) .nil)))]
def e_measured : Ent := ⟨c_measured, "measured", ["value"], N_measured, ⟨1, 6, b_measured⟩⟩
abbrev c_fits_value : Nat := 7
def N_fits_value : List Str := ["value"]
def b_fits_value : List Ss := [.ret (.cmp .isn (.call c_measured (.cons (.loc 0) .nil)) (.cst .non))]
def e_fits_value : Ent := ⟨c_fits_value, "fits_value", ["value"], N_fits_value, ⟨1, 1, b_fits_value⟩⟩
abbrev c_are_values : Nat := 8
def N_are_values : List Str := ["value", "low", "high", ".0", "one"]
def b_are_values : List Ss := [.ret (.and (.call c_is_tuple_of (.cons (.loc 0) (.cons (.loc 1) (.cons (.loc 2) .nil)))) (.blt .all (.cons (.lc [3, 4] (.v 4) (.seq (.loc 0)) .nil (.call c_fits_value (.cons (.loc 4) .nil))) .nil)))]
def e_are_values : Ent := ⟨c_are_values, "are_values", ["value", "low", "high"], N_are_values, ⟨3, 5, b_are_values⟩⟩
abbrev c_taken_by : Nat := 9
def N_taken_by : List Str := ["operation"]
def b_taken_by : List Ss := [.ret (.ite (.cmp .isin (.loc 0) (.cst (.tup [(.str "head"), (.str "tail"), (.str "isint"), (.str "isword"), (.str "ispair")]))) (.cst (.int (1))) (.cst (.int (2))))]
def e_taken_by : Ent := ⟨c_taken_by, "taken_by", ["operation"], N_taken_by, ⟨1, 1, b_taken_by⟩⟩
abbrev c_is_operation : Nat := 10
def N_is_operation : List Str := ["value"]
def b_is_operation : List Ss := [.ret (.and (.blt .isS (.cons (.loc 0) .nil)) (.cmp .isin (.loc 0) (.bin .add (.cst (.tup [(.str "head"), (.str "tail"), (.str "isint"), (.str "isword"), (.str "ispair")])) (.cst (.tup [(.str "add"), (.str "sub"), (.str "mul"), (.str "quot"), (.str "rest"), (.str "less"), (.str "same"), (.str "pair")])))))]
def e_is_operation : Ent := ⟨c_is_operation, "is_operation", ["value"], N_is_operation, ⟨1, 1, b_is_operation⟩⟩
abbrev c_parts_in : Nat := 11
def N_parts_in : List Str := ["expression", "kind"]
def b_parts_in : List Ss := [.asg 1 (.idx (.loc 0) (.cst (.int (0)))), .iff (.cmp .isin (.loc 1) (.tup (.cons (.cst (.str "do")) (.cons (.cst (.str "call")) .nil)))) [.ret (.blt .list (.cons (.idx (.loc 0) (.cst (.int (2)))) .nil))] [], .ret (.ite (.cmp .eq (.loc 1) (.cst (.str "if"))) (.blt .list (.cons (.slc (.loc 0) (.ci (.cst (.int (1)))) (.cst .non)) .nil)) (.ite (.cmp .eq (.loc 1) (.cst (.str "let"))) (.blt .list (.cons (.slc (.loc 0) (.ci (.cst (.int (2)))) (.cst .non)) .nil)) (.lst .nil)))]
def e_parts_in : Ent := ⟨c_parts_in, "parts_in", ["expression"], N_parts_in, ⟨1, 2, b_parts_in⟩⟩
abbrev c_fits_head : Nat := 12
def N_fits_head : List Str := ["value", "kind", "many", "second"]
def b_fits_head : List Ss := [.iff (.or (.not (.call c_is_tuple_of (.cons (.loc 0) (.cons (.cst (.int (2))) (.cons (.cst (.int (4))) .nil))))) (.not (.blt .isS (.cons (.idx (.loc 0) (.cst (.int (0)))) .nil)))) [.ret (.cst (.bl false))] [], .par [1, 2, 3] (.cons (.idx (.loc 0) (.cst (.int (0)))) (.cons (.blt .len (.cons (.loc 0) .nil)) (.cons (.idx (.loc 0) (.cst (.int (1)))) .nil))), .iff (.cmp .isin (.loc 1) (.tup (.cons (.cst (.str "name")) (.cons (.cst (.str "halt")) .nil)))) [.ret (.and (.cmp .eq (.loc 2) (.cst (.int (2)))) (.call c_fits_name (.cons (.loc 3) .nil)))] [], .iff (.cmp .eq (.loc 1) (.cst (.str "value"))) [.ret (.and (.cmp .eq (.loc 2) (.cst (.int (2)))) (.call c_fits_value (.cons (.loc 3) .nil)))] [], .iff (.cmp .eq (.loc 1) (.cst (.str "do"))) [.ret (.and (.cmp .eq (.loc 2) (.cst (.int (3)))) (.and (.call c_is_operation (.cons (.loc 3) .nil)) (.call c_is_tuple_of (.cons (.idx (.loc 0) (.cst (.int (2)))) (.cons (.call c_taken_by (.cons (.loc 3) .nil)) (.cons (.call c_taken_by (.cons (.loc 3) .nil)) .nil))))))] [], .iff (.cmp .eq (.loc 1) (.cst (.str "call"))) [.ret (.and (.cmp .eq (.loc 2) (.cst (.int (3)))) (.and (.call c_fits_name (.cons (.loc 3) .nil)) (.call c_is_tuple_of (.cons (.idx (.loc 0) (.cst (.int (2)))) (.cons (.cst (.int (0))) (.cons (.cst (.int (8))) .nil))))))] [], .ret (.or (.and (.cmp .eq (.loc 1) (.cst (.str "if"))) (.cmp .eq (.loc 2) (.cst (.int (4))))) (.and (.cmp .eq (.loc 1) (.cst (.str "let"))) (.and (.cmp .eq (.loc 2) (.cst (.int (4)))) (.call c_fits_name (.cons (.loc 3) .nil)))))]
def e_fits_head : Ent := ⟨c_fits_head, "fits_head", ["value"], N_fits_head, ⟨1, 4, b_fits_head⟩⟩
abbrev c_nodes_of : Nat := 13
def N_nodes_of : List Str := ["value", "many", "todo", "here", "deep", ".0", "part"]
def b_nodes_of : List Ss := [.par [1, 2] (.cons (.cst (.int (0))) (.cons (.lst (.cons (.tup (.cons (.loc 0) (.cons (.cst (.int (1))) .nil))) .nil)) .nil)), .whl [] (.cmp .ne (.loc 2) (.lst .nil)) [.asgT [3, 4] (.mth .pop (.loc 2) .nil), .asg 1 (.bin .add (.loc 1) (.cst (.int (1)))), .iff (.or (.cmp .gt (.loc 4) (.cst (.int (60)))) (.or (.cmp .gt (.bin .add (.loc 1) (.blt .len (.cons (.loc 2) .nil))) (.cst (.int (2000)))) (.not (.call c_fits_head (.cons (.loc 3) .nil))))) [.ret (.cst .non)] [], .exp (.mth .extend (.loc 2) (.cons (.lc [5, 6] (.v 6) (.seq (.call c_parts_in (.cons (.loc 3) .nil))) .nil (.tup (.cons (.loc 6) (.cons (.bin .add (.loc 4) (.cst (.int (1)))) .nil)))) .nil))], .ret (.loc 1)]
def e_nodes_of : Ent := ⟨c_nodes_of, "nodes_of", ["value"], N_nodes_of, ⟨1, 7, b_nodes_of⟩⟩
abbrev c_size_in : Nat := 14
def N_size_in : List Str := ["expression", "many", "todo"]
def b_size_in : List Ss := [.par [1, 2] (.cons (.cst (.int (0))) (.cons (.lst (.cons (.loc 0) .nil)) .nil)), .whl [] (.cmp .ne (.loc 2) (.lst .nil)) [.asg 1 (.bin .add (.loc 1) (.cst (.int (1)))), .exp (.mth .extend (.loc 2) (.cons (.call c_parts_in (.cons (.mth .pop (.loc 2) .nil) .nil)) .nil))], .ret (.loc 1)]
def e_size_in : Ent := ⟨c_size_in, "size_in", ["expression"], N_size_in, ⟨1, 3, b_size_in⟩⟩
abbrev c_fits_expression : Nat := 15
def N_fits_expression : List Str := ["value"]
def b_fits_expression : List Ss := [.ret (.cmp .isn (.call c_nodes_of (.cons (.loc 0) .nil)) (.cst .non))]
def e_fits_expression : Ent := ⟨c_fits_expression, "fits_expression", ["value"], N_fits_expression, ⟨1, 1, b_fits_expression⟩⟩
abbrev c_asked_in : Nat := 16
def N_asked_in : List Str := ["expression", "found", "todo", "here", "told", ".0", "part"]
def b_asked_in : List Ss := [.par [1, 2] (.cons .dic0 (.cons (.lst (.cons (.tup (.cons (.loc 0) (.cons (.tup .nil) .nil))) .nil)) .nil)), .whl [] (.cmp .ne (.loc 2) (.lst .nil)) [.asgT [3, 4] (.mth .pop (.loc 2) .nil), .iff (.and (.cmp .eq (.idx (.loc 3) (.cst (.int (0)))) (.cst (.str "name"))) (.cmp .notin (.idx (.loc 3) (.cst (.int (1)))) (.loc 4))) [.setI (.loc 1) (.idx (.loc 3) (.cst (.int (1)))) (.cst (.bl true))] [.iff (.cmp .eq (.idx (.loc 3) (.cst (.int (0)))) (.cst (.str "let"))) [.exp (.mth .extend (.loc 2) (.cons (.lst (.cons (.tup (.cons (.idx (.loc 3) (.cst (.int (2)))) (.cons (.loc 4) .nil))) (.cons (.tup (.cons (.idx (.loc 3) (.cst (.int (3)))) (.cons (.bin .add (.loc 4) (.tup (.cons (.idx (.loc 3) (.cst (.int (1)))) .nil))) .nil))) .nil))) .nil))] [.exp (.mth .extend (.loc 2) (.cons (.lc [5, 6] (.v 6) (.seq (.call c_parts_in (.cons (.loc 3) .nil))) .nil (.tup (.cons (.loc 6) (.cons (.loc 4) .nil)))) .nil))]]], .ret (.blt .sorted (.cons (.loc 1) .nil))]
def e_asked_in : Ent := ⟨c_asked_in, "asked_in", ["expression"], N_asked_in, ⟨1, 7, b_asked_in⟩⟩
abbrev c_calls_in : Nat := 17
def N_calls_in : List Str := ["expression", "found", "todo", "here"]
def b_calls_in : List Ss := [.par [1, 2] (.cons (.lst .nil) (.cons (.lst (.cons (.loc 0) .nil)) .nil)), .whl [] (.cmp .ne (.loc 2) (.lst .nil)) [.asg 3 (.mth .pop (.loc 2) .nil), .iff (.cmp .eq (.idx (.loc 3) (.cst (.int (0)))) (.cst (.str "call"))) [.exp (.mth .append (.loc 1) (.cons (.loc 3) .nil))] [], .exp (.mth .extend (.loc 2) (.cons (.rev (.call c_parts_in (.cons (.loc 3) .nil))) .nil))], .ret (.loc 1)]
def e_calls_in : Ent := ⟨c_calls_in, "calls_in", ["expression"], N_calls_in, ⟨1, 4, b_calls_in⟩⟩
abbrev c_fits_function : Nat := 18
def N_fits_function : List Str := ["value", ".0", "parameter"]
def b_fits_function : List Ss := [.iff (.or (.not (.call c_is_tuple_of (.cons (.loc 0) (.cons (.cst (.int (3))) (.cons (.cst (.int (3))) .nil))))) (.or (.not (.call c_fits_name (.cons (.idx (.loc 0) (.cst (.int (0)))) .nil))) (.not (.call c_is_tuple_of (.cons (.idx (.loc 0) (.cst (.int (1)))) (.cons (.cst (.int (0))) (.cons (.cst (.int (8))) .nil))))))) [.ret (.cst (.bl false))] [], .iff (.or (.not (.blt .all (.cons (.lc [1, 2] (.v 2) (.seq (.idx (.loc 0) (.cst (.int (1))))) .nil (.call c_fits_name (.cons (.loc 2) .nil))) .nil))) (.cmp .ne (.blt .lenset (.cons (.idx (.loc 0) (.cst (.int (1)))) .nil)) (.blt .len (.cons (.idx (.loc 0) (.cst (.int (1)))) .nil)))) [.ret (.cst (.bl false))] [], .ret (.call c_fits_expression (.cons (.idx (.loc 0) (.cst (.int (2)))) .nil))]
def e_fits_function : Ent := ⟨c_fits_function, "fits_function", ["value"], N_fits_function, ⟨1, 3, b_fits_function⟩⟩
abbrev c_fits_program : Nat := 19
def N_fits_program : List Str := ["value", "f", "parameters", "body", "many", ".0", "function", "name", "call"]
def b_fits_program : List Ss := [.iff (.or (.not (.call c_is_tuple_of (.cons (.loc 0) (.cons (.cst (.int (1))) (.cons (.cst (.int (60))) .nil))))) (.not (.blt .all (.cons (.lc [5, 6] (.v 6) (.seq (.loc 0)) .nil (.call c_fits_function (.cons (.loc 6) .nil))) .nil)))) [.ret (.cst (.bl false))] [], .asg 4 (.blt .dict (.cons (.lc [5, 1, 2, 3] (.t [1, 2, 3]) (.seq (.loc 0)) .nil (.tup (.cons (.loc 1) (.cons (.blt .len (.cons (.loc 2) .nil)) .nil)))) .nil)), .iff (.or (.cmp .ne (.blt .len (.cons (.loc 4) .nil)) (.blt .len (.cons (.loc 0) .nil))) (.cmp .gt (.blt .sum (.cons (.lc [5, 1, 2, 3] (.t [1, 2, 3]) (.seq (.loc 0)) .nil (.call c_size_in (.cons (.loc 3) .nil))) .nil)) (.cst (.int (4000))))) [.ret (.cst (.bl false))] [], .for [] (.t [1, 2, 3]) (.seq (.loc 0)) [.iff (.not (.blt .all (.cons (.lc [5, 7] (.v 7) (.seq (.call c_asked_in (.cons (.loc 3) .nil))) .nil (.cmp .isin (.loc 7) (.loc 2))) .nil))) [.ret (.cst (.bl false))] [], .iff (.not (.blt .all (.cons (.lc [5, 8] (.v 8) (.seq (.call c_calls_in (.cons (.loc 3) .nil))) .nil (.cmp .eq (.mth .get1 (.loc 4) (.cons (.idx (.loc 8) (.cst (.int (1)))) .nil)) (.blt .len (.cons (.idx (.loc 8) (.cst (.int (2)))) .nil)))) .nil))) [.ret (.cst (.bl false))] []], .ret (.cst (.bl true))]
def e_fits_program : Ent := ⟨c_fits_program, "fits_program", ["value"], N_fits_program, ⟨1, 9, b_fits_program⟩⟩
abbrev c_need_program : Nat := 20
def N_need_program : List Str := ["value"]
def b_need_program : List Ss := [.iff (.not (.call c_fits_program (.cons (.loc 0) .nil))) [.nev] []]
def e_need_program : Ent := ⟨c_need_program, "need_program", ["value"], N_need_program, ⟨1, 1, b_need_program⟩⟩
abbrev c_fits_inputs : Nat := 21
def N_fits_inputs : List Str := ["program", "value", "many"]
def b_fits_inputs : List Ss := [.asg 2 (.blt .len (.cons (.idx (.idx (.loc 0) (.cst (.int (0)))) (.cst (.int (1)))) .nil)), .ret (.call c_are_values (.cons (.loc 1) (.cons (.loc 2) (.cons (.loc 2) .nil))))]
def e_fits_inputs : Ent := ⟨c_fits_inputs, "fits_inputs", ["program", "value"], N_fits_inputs, ⟨2, 3, b_fits_inputs⟩⟩
abbrev c_is_known_pair : Nat := 22
def N_is_known_pair : List Str := ["value"]
def b_is_known_pair : List Ss := [.iff (.or (.not (.call c_is_tuple_of (.cons (.loc 0) (.cons (.cst (.int (2))) (.cons (.cst (.int (2))) .nil))))) (.not (.call c_is_integer (.cons (.idx (.loc 0) (.cst (.int (0)))) .nil)))) [.ret (.cst (.bl false))] [], .iff (.cmp .eq (.idx (.loc 0) (.cst (.int (0)))) (.cst (.int (0)))) [.ret (.and (.call c_is_integer (.cons (.idx (.loc 0) (.cst (.int (1)))) .nil)) (.cmp .eq (.idx (.loc 0) (.cst (.int (1)))) (.cst (.int (0)))))] [], .ret (.and (.cmp .eq (.idx (.loc 0) (.cst (.int (0)))) (.cst (.int (1)))) (.call c_fits_value (.cons (.idx (.loc 0) (.cst (.int (1)))) .nil)))]
def e_is_known_pair : Ent := ⟨c_is_known_pair, "is_known_pair", ["value"], N_is_known_pair, ⟨1, 1, b_is_known_pair⟩⟩
abbrev c_fits_known : Nat := 23
def N_fits_known : List Str := ["program", "value", "many", ".0", "pair"]
def b_fits_known : List Ss := [.asg 2 (.blt .len (.cons (.idx (.idx (.loc 0) (.cst (.int (0)))) (.cst (.int (1)))) .nil)), .ret (.and (.call c_is_tuple_of (.cons (.loc 1) (.cons (.loc 2) (.cons (.loc 2) .nil)))) (.blt .all (.cons (.lc [3, 4] (.v 4) (.seq (.loc 1)) .nil (.call c_is_known_pair (.cons (.loc 4) .nil))) .nil)))]
def e_fits_known : Ent := ⟨c_fits_known, "fits_known", ["program", "value"], N_fits_known, ⟨2, 5, b_fits_known⟩⟩
abbrev c_need_pairs : Nat := 24
def N_need_pairs : List Str := ["known", ".0", "pair"]
def b_need_pairs : List Ss := [.iff (.or (.not (.call c_is_tuple_of (.cons (.loc 0) (.cons (.cst (.int (0))) (.cons (.cst (.int (8))) .nil))))) (.not (.blt .all (.cons (.lc [1, 2] (.v 2) (.seq (.loc 0)) .nil (.call c_is_known_pair (.cons (.loc 2) .nil))) .nil)))) [.nev] []]
def e_need_pairs : Ent := ⟨c_need_pairs, "need_pairs", ["known"], N_need_pairs, ⟨1, 3, b_need_pairs⟩⟩
abbrev c_are_known : Nat := 25
def N_are_known : List Str := ["program", "value"]
def b_are_known : List Ss := [.exp (.call c_need_program (.cons (.loc 0) .nil)), .ret (.call c_fits_known (.cons (.loc 0) (.cons (.loc 1) .nil)))]
def e_are_known : Ent := ⟨c_are_known, "are_known", ["program", "value"], N_are_known, ⟨2, 2, b_are_known⟩⟩
abbrev c_which_known : Nat := 26
def N_which_known : List Str := ["known", ".0", "pair"]
def b_which_known : List Ss := [.exp (.call c_need_pairs (.cons (.loc 0) .nil)), .ret (.blt .tuple (.cons (.lc [1, 2] (.v 2) (.seq (.loc 0)) .nil (.idx (.loc 2) (.cst (.int (0))))) .nil))]
def e_which_known : Ent := ⟨c_which_known, "which_known", ["known"], N_which_known, ⟨1, 3, b_which_known⟩⟩
abbrev c_all_inputs : Nat := 27
def N_all_inputs : List Str := ["known", "left", "many", "rest", ".0", "pair"]
def b_all_inputs : List Ss := [.exp (.call c_need_pairs (.cons (.loc 0) .nil)), .asg 2 (.blt .len (.cons (.lc [4, 5] (.v 5) (.seq (.loc 0)) (.cons (.cmp .eq (.loc 5) (.cst (.tup [(.int (0)), (.int (0))]))) .nil) (.cst (.int (1)))) .nil)), .iff (.not (.call c_are_values (.cons (.loc 1) (.cons (.loc 2) (.cons (.loc 2) .nil))))) [.nev] [], .asg 3 (.rev (.blt .list (.cons (.loc 1) .nil))), .ret (.blt .tuple (.cons (.lc [4, 5] (.v 5) (.seq (.loc 0)) .nil (.ite (.cmp .eq (.loc 5) (.cst (.tup [(.int (0)), (.int (0))]))) (.mth .pop (.loc 3) .nil) (.idx (.loc 5) (.cst (.int (1)))))) .nil))]
def e_all_inputs : Ent := ⟨c_all_inputs, "all_inputs", ["known", "left"], N_all_inputs, ⟨2, 6, b_all_inputs⟩⟩
abbrev c_left_inputs : Nat := 28
def N_left_inputs : List Str := ["known", "inputs", ".0", "pair", "value"]
def b_left_inputs : List Ss := [.exp (.call c_need_pairs (.cons (.loc 0) .nil)), .iff (.not (.call c_are_values (.cons (.loc 1) (.cons (.blt .len (.cons (.loc 0) .nil)) (.cons (.blt .len (.cons (.loc 0) .nil)) .nil))))) [.nev] [], .ret (.blt .tuple (.cons (.lc [2, 3, 4] (.t [3, 4]) (.zip (.loc 0) (.loc 1)) (.cons (.cmp .eq (.loc 3) (.cst (.tup [(.int (0)), (.int (0))]))) .nil) (.loc 4)) .nil))]
def e_left_inputs : Ent := ⟨c_left_inputs, "left_inputs", ["known", "inputs"], N_left_inputs, ⟨2, 5, b_left_inputs⟩⟩
abbrev c_are_inputs : Nat := 29
def N_are_inputs : List Str := ["program", "value"]
def b_are_inputs : List Ss := [.exp (.call c_need_program (.cons (.loc 0) .nil)), .ret (.call c_fits_inputs (.cons (.loc 0) (.cons (.loc 1) .nil)))]
def e_are_inputs : Ent := ⟨c_are_inputs, "are_inputs", ["program", "value"], N_are_inputs, ⟨2, 2, b_are_inputs⟩⟩
abbrev c__law_cup : Nat := 30
def N__law_cup : List Str := ["script", "cell"]
def b__law_cup : List Ss := [.asg 1 (.blt .abs (.cons (.idx (.bin .add (.blt .list (.cons (.loc 0) .nil)) (.lst (.cons (.cst (.int (0))) .nil))) (.cst (.int (0)))) .nil)), .ret (.lst (.cons (.ite (.cmp .ge (.loc 1) (.bin .pow (.cst (.int (10))) (.cst (.int (18))))) (.bin .fdiv (.loc 1) (.cst (.int (73)))) (.cst (.int (0)))) (.cons (.bin .add (.bin .mod (.blt .int (.cons (.bin .add (.bin .mul (.loc 1) (.cst (.int (283)))) (.cst (.int (3907)))) .nil)) (.cst (.int (2077503167)))) (.cst (.int (167)))) .nil)))]
def e__law_cup : Ent := ⟨c__law_cup, "_law_cup", ["script"], N__law_cup, ⟨1, 2, b__law_cup⟩⟩
abbrev c__law_roll : Nat := 31
def N__law_roll : List Str := ["cup", "many", "found", "deep"]
def b__law_roll : List Ss := [.iff (.cmp .gt (.idx (.loc 0) (.cst (.int (0)))) (.cst (.int (0)))) [.asg 2 (.bin .mod (.blt .int (.cons (.idx (.loc 0) (.cst (.int (0)))) .nil)) (.loc 1)), .setI (.loc 0) (.cst (.int (0))) (.bin .fdiv (.idx (.loc 0) (.cst (.int (0)))) (.loc 1)), .ret (.loc 2)] [], .setI (.loc 0) (.cst (.int (1))) (.bin .mod (.blt .int (.cons (.bin .add (.bin .mul (.idx (.loc 0) (.cst (.int (1)))) (.cst (.int (31051)))) (.cst (.int (7993)))) .nil)) (.cst (.int (2147483543)))), .asg 3 (.bin .mod (.blt .int (.cons (.bin .mul (.idx (.loc 0) (.cst (.int (1)))) (.bin .add (.idx (.loc 0) (.cst (.int (1)))) (.cst (.int (229))))) .nil)) (.cst (.int (2147483587)))), .ret (.bin .mod (.blt .int (.cons (.bin .fdiv (.loc 3) (.cst (.int (821)))) .nil)) (.loc 1))]
def e__law_roll : Ent := ⟨c__law_roll, "_law_roll", ["cup", "many"], N__law_roll, ⟨2, 4, b__law_roll⟩⟩
abbrev c__law_some : Nat := 32
def N__law_some : List Str := ["cup", "things"]
def b__law_some : List Ss := [.ret (.idx (.loc 1) (.call c__law_roll (.cons (.loc 0) (.cons (.blt .len (.cons (.loc 1) .nil)) .nil))))]
def e__law_some : Ent := ⟨c__law_some, "_law_some", ["cup", "things"], N__law_some, ⟨2, 2, b__law_some⟩⟩
abbrev c__law_sort : Nat := 33
def N__law_sort : List Str := ["value"]
def b__law_sort : List Ss := [.iff (.or (.cmp .is (.loc 0) (.cst .non)) (.blt .isB (.cons (.loc 0) .nil))) [.ret (.ite (.cmp .is (.loc 0) (.cst .non)) (.cst (.int (0))) (.cst (.int (1))))] [], .iff (.or (.blt .isI (.cons (.loc 0) .nil)) (.blt .isS (.cons (.loc 0) .nil))) [.ret (.ite (.blt .isI (.cons (.loc 0) .nil)) (.cst (.int (2))) (.cst (.int (3))))] [], .ret (.ite (.blt .isT (.cons (.loc 0) .nil)) (.cst (.int (4))) (.ite (.blt .isL (.cons (.loc 0) .nil)) (.cst (.int (5))) (.cst (.int (6)))))]
def e__law_sort : Ent := ⟨c__law_sort, "_law_sort", ["value"], N__law_sort, ⟨1, 1, b__law_sort⟩⟩
abbrev c__law_like : Nat := 34
def N__law_like : List Str := ["one", "other", "sort", ".0", "first", "second"]
def b__law_like : List Ss := [.asg 2 (.call c__law_sort (.cons (.loc 1) .nil)), .iff (.or (.cmp .ne (.call c__law_sort (.cons (.loc 0) .nil)) (.loc 2)) (.cmp .eq (.loc 2) (.cst (.int (6))))) [.ret (.cst (.bl false))] [], .iff (.cmp .isin (.loc 2) (.tup (.cons (.cst (.int (4))) (.cons (.cst (.int (5))) .nil)))) [.ret (.and (.cmp .eq (.blt .len (.cons (.loc 0) .nil)) (.blt .len (.cons (.loc 1) .nil))) (.cmp .eq (.lc [3, 4, 5] (.t [4, 5]) (.zip (.loc 0) (.loc 1)) (.cons (.not (.call c__law_like (.cons (.loc 4) (.cons (.loc 5) .nil)))) .nil) (.cst (.int (1)))) (.lst .nil)))] [], .ret (.cmp .eq (.loc 0) (.loc 1))]
def e__law_like : Ent := ⟨c__law_like, "_law_like", ["one", "other"], N__law_like, ⟨2, 6, b__law_like⟩⟩
abbrev c__law_value : Nat := 35
def N__law_value : List Str := ["cup", "deep", "way", "found", "turn"]
def b__law_value : List Ss := [.asg 2 (.call c__law_roll (.cons (.loc 0) (.cons (.ite (.cmp .gt (.loc 1) (.cst (.int (0)))) (.cst (.int (5))) (.cst (.int (3)))) .nil))), .iff (.cmp .lt (.loc 2) (.cst (.int (2)))) [.ret (.bin .sub (.call c__law_roll (.cons (.loc 0) (.cons (.cst (.int (9))) .nil))) (.cst (.int (3))))] [], .iff (.cmp .eq (.loc 2) (.cst (.int (2)))) [.ret (.call c__law_some (.cons (.loc 0) (.cons (.lst (.cons (.cst (.str "a")) (.cons (.cst (.str "b")) (.cons (.cst (.str "no")) (.cons (.cst (.str "yes")) (.cons (.cst (.str "nil")) .nil)))))) .nil)))] [], .iff (.cmp .eq (.loc 2) (.cst (.int (3)))) [.ret (.tup (.cons (.call c__law_value (.cons (.loc 0) (.cons (.bin .sub (.loc 1) (.cst (.int (1)))) .nil))) (.cons (.call c__law_value (.cons (.loc 0) (.cons (.bin .sub (.loc 1) (.cst (.int (1)))) .nil))) .nil)))] [], .asg 3 (.cst (.str "nil")), .for [] (.v 4) (.rng (.call c__law_roll (.cons (.loc 0) (.cons (.cst (.int (4))) .nil)))) [.asg 3 (.tup (.cons (.call c__law_value (.cons (.loc 0) (.cons (.cst (.int (0))) .nil))) (.cons (.loc 3) .nil)))], .ret (.loc 3)]
def e__law_value : Ent := ⟨c__law_value, "_law_value", ["cup", "deep"], N__law_value, ⟨2, 5, b__law_value⟩⟩
abbrev c__law_expression : Nat := 36
def N__law_expression : List Str := ["cup", "deep", "names", "functions", "way", "operation", "many", "test", "name", "f", ".0", "turn", "one"]
def b__law_expression : List Ss := [.asg 4 (.ite (.cmp .gt (.loc 1) (.cst (.int (0)))) (.call c__law_roll (.cons (.loc 0) (.cons (.cst (.int (10))) .nil))) (.call c__law_roll (.cons (.loc 0) (.cons (.cst (.int (3))) .nil)))), .iff (.or (.cmp .eq (.loc 4) (.cst (.int (0)))) (.and (.cmp .eq (.loc 4) (.cst (.int (1)))) (.cmp .eq (.loc 2) (.tup .nil)))) [.ret (.tup (.cons (.cst (.str "value")) (.cons (.call c__law_value (.cons (.loc 0) (.cons (.cst (.int (1))) .nil))) .nil)))] [], .iff (.cmp .lt (.loc 4) (.cst (.int (3)))) [.ret (.ite (.cmp .ne (.loc 2) (.tup .nil)) (.tup (.cons (.cst (.str "name")) (.cons (.call c__law_some (.cons (.loc 0) (.cons (.loc 2) .nil))) .nil))) (.tup (.cons (.cst (.str "value")) (.cons (.call c__law_roll (.cons (.loc 0) (.cons (.cst (.int (5))) .nil))) .nil))))] [], .iff (.cmp .lt (.loc 4) (.cst (.int (6)))) [.asg 5 (.call c__law_some (.cons (.loc 0) (.cons (.lst (.cons (.cst (.str "add")) (.cons (.cst (.str "sub")) (.cons (.cst (.str "mul")) (.cons (.cst (.str "less")) (.cons (.cst (.str "same")) (.cons (.cst (.str "pair")) (.cons (.cst (.str "pair")) (.cons (.cst (.str "head")) (.cons (.cst (.str "tail")) (.cons (.cst (.str "isint")) (.cons (.cst (.str "ispair")) (.cons (.cst (.str "quot")) (.cons (.cst (.str "rest")) (.cons (.cst (.str "isword")) .nil))))))))))))))) .nil))), .asg 6 (.ite (.cmp .isin (.loc 5) (.tup (.cons (.cst (.str "head")) (.cons (.cst (.str "tail")) (.cons (.cst (.str "isint")) (.cons (.cst (.str "isword")) (.cons (.cst (.str "ispair")) .nil))))))) (.cst (.int (1))) (.cst (.int (2)))), .ret (.tup (.cons (.cst (.str "do")) (.cons (.loc 5) (.cons (.blt .tuple (.cons (.lc [10, 11] (.v 11) (.rng (.loc 6)) .nil (.call c__law_expression (.cons (.loc 0) (.cons (.bin .sub (.loc 1) (.cst (.int (1)))) (.cons (.loc 2) (.cons (.loc 3) .nil)))))) .nil)) .nil))))] [], .iff (.cmp .lt (.loc 4) (.cst (.int (8)))) [.asg 7 (.tup (.cons (.cst (.str "do")) (.cons (.call c__law_some (.cons (.loc 0) (.cons (.lst (.cons (.cst (.str "less")) (.cons (.cst (.str "same")) .nil))) .nil))) (.cons (.tup (.cons (.call c__law_expression (.cons (.loc 0) (.cons (.cst (.int (0))) (.cons (.loc 2) (.cons (.loc 3) .nil))))) (.cons (.call c__law_expression (.cons (.loc 0) (.cons (.cst (.int (0))) (.cons (.loc 2) (.cons (.loc 3) .nil))))) .nil))) .nil)))), .ret (.tup (.cons (.cst (.str "if")) (.cons (.loc 7) (.cons (.call c__law_expression (.cons (.loc 0) (.cons (.bin .sub (.loc 1) (.cst (.int (1)))) (.cons (.loc 2) (.cons (.loc 3) .nil))))) (.cons (.call c__law_expression (.cons (.loc 0) (.cons (.bin .sub (.loc 1) (.cst (.int (1)))) (.cons (.loc 2) (.cons (.loc 3) .nil))))) .nil)))))] [], .iff (.cmp .eq (.loc 4) (.cst (.int (8)))) [.asg 8 (.call c__law_some (.cons (.loc 0) (.cons (.lst (.cons (.cst (.str "x")) (.cons (.cst (.str "y")) (.cons (.cst (.str "z")) .nil)))) .nil))), .ret (.tup (.cons (.cst (.str "let")) (.cons (.loc 8) (.cons (.call c__law_expression (.cons (.loc 0) (.cons (.bin .sub (.loc 1) (.cst (.int (1)))) (.cons (.loc 2) (.cons (.loc 3) .nil))))) (.cons (.call c__law_expression (.cons (.loc 0) (.cons (.bin .sub (.loc 1) (.cst (.int (1)))) (.cons (.blt .tuple (.cons (.blt .sorted (.cons (.blt .dict (.cons (.lc [10, 12] (.v 12) (.seq (.bin .add (.loc 2) (.tup (.cons (.loc 8) .nil)))) .nil (.tup (.cons (.loc 12) (.cons (.cst (.bl true)) .nil)))) .nil)) .nil)) .nil)) (.cons (.loc 3) .nil))))) .nil)))))] [], .iff (.or (.cmp .eq (.loc 3) (.lst .nil)) (.cmp .eq (.call c__law_roll (.cons (.loc 0) (.cons (.cst (.int (12))) .nil))) (.cst (.int (0))))) [.ret (.tup (.cons (.cst (.str "halt")) (.cons (.call c__law_some (.cons (.loc 0) (.cons (.lst (.cons (.cst (.str "bad")) (.cons (.cst (.str "stop")) .nil))) .nil))) .nil)))] [], .asgT [9, 6] (.call c__law_some (.cons (.loc 0) (.cons (.loc 3) .nil))), .ret (.tup (.cons (.cst (.str "call")) (.cons (.loc 9) (.cons (.blt .tuple (.cons (.lc [10, 11] (.v 11) (.rng (.loc 6)) .nil (.call c__law_expression (.cons (.loc 0) (.cons (.bin .sub (.loc 1) (.cst (.int (1)))) (.cons (.loc 2) (.cons (.loc 3) .nil)))))) .nil)) .nil))))]
def e__law_expression : Ent := ⟨c__law_expression, "_law_expression", ["cup", "deep", "names", "functions"], N__law_expression, ⟨4, 13, b__law_expression⟩⟩
abbrev c__law_loop : Nat := 37
def N__law_loop : List Str := ["cup", "f", "functions", "lists", "one", "two", "test", "step", "part", "other", "again", "found"]
def b__law_loop : List Ss := [.par [3, 4, 5] (.cons (.cmp .eq (.call c__law_roll (.cons (.loc 0) (.cons (.cst (.int (2))) .nil))) (.cst (.int (0)))) (.cons (.tup (.cons (.cst (.str "name")) (.cons (.cst (.str "n")) .nil))) (.cons (.tup (.cons (.cst (.str "name")) (.cons (.cst (.str "m")) .nil))) .nil))), .asg 6 (.ite (.loc 3) (.tup (.cons (.cst (.str "do")) (.cons (.cst (.str "ispair")) (.cons (.tup (.cons (.loc 4) .nil)) .nil)))) (.tup (.cons (.cst (.str "do")) (.cons (.cst (.str "less")) (.cons (.tup (.cons (.tup (.cons (.cst (.str "value")) (.cons (.cst (.int (0))) .nil))) (.cons (.loc 4) .nil))) .nil))))), .asg 7 (.ite (.loc 3) (.tup (.cons (.cst (.str "do")) (.cons (.cst (.str "tail")) (.cons (.tup (.cons (.loc 4) .nil)) .nil)))) (.tup (.cons (.cst (.str "do")) (.cons (.cst (.str "sub")) (.cons (.tup (.cons (.loc 4) (.cons (.tup (.cons (.cst (.str "value")) (.cons (.cst (.int (1))) .nil))) .nil))) .nil))))), .asg 8 (.ite (.loc 3) (.tup (.cons (.cst (.str "do")) (.cons (.cst (.str "head")) (.cons (.tup (.cons (.loc 4) .nil)) .nil)))) (.loc 4)), .asg 9 (.call c__law_some (.cons (.loc 0) (.cons (.lst (.cons (.loc 5) (.cons (.tup (.cons (.cst (.str "do")) (.cons (.cst (.str "pair")) (.cons (.tup (.cons (.loc 8) (.cons (.loc 5) .nil))) .nil)))) (.cons (.tup (.cons (.cst (.str "do")) (.cons (.cst (.str "add")) (.cons (.tup (.cons (.loc 5) (.cons (.tup (.cons (.cst (.str "value")) (.cons (.cst (.int (1))) .nil))) .nil))) .nil)))) (.cons (.call c__law_expression (.cons (.loc 0) (.cons (.cst (.int (1))) (.cons (.tup (.cons (.cst (.str "m")) .nil)) (.cons (.loc 2) .nil))))) .nil))))) .nil))), .asg 10 (.tup (.cons (.cst (.str "call")) (.cons (.loc 1) (.cons (.tup (.cons (.loc 7) (.cons (.loc 9) .nil))) .nil)))), .asg 11 (.call c__law_some (.cons (.loc 0) (.cons (.lst (.cons (.loc 10) (.cons (.tup (.cons (.cst (.str "do")) (.cons (.cst (.str "pair")) (.cons (.tup (.cons (.loc 8) (.cons (.loc 10) .nil))) .nil)))) (.cons (.tup (.cons (.cst (.str "do")) (.cons (.cst (.str "add")) (.cons (.tup (.cons (.tup (.cons (.cst (.str "value")) (.cons (.cst (.int (2))) .nil))) (.cons (.loc 10) .nil))) .nil)))) (.cons (.tup (.cons (.cst (.str "let")) (.cons (.cst (.str "r")) (.cons (.loc 10) (.cons (.call c__law_expression (.cons (.loc 0) (.cons (.cst (.int (1))) (.cons (.tup (.cons (.cst (.str "m")) (.cons (.cst (.str "r")) .nil))) (.cons (.loc 2) .nil))))) .nil))))) .nil))))) .nil))), .ret (.tup (.cons (.loc 1) (.cons (.tup (.cons (.cst (.str "n")) (.cons (.cst (.str "m")) .nil))) (.cons (.tup (.cons (.cst (.str "if")) (.cons (.loc 6) (.cons (.loc 11) (.cons (.call c__law_some (.cons (.loc 0) (.cons (.lst (.cons (.loc 5) (.cons (.tup (.cons (.cst (.str "value")) (.cons (.cst (.str "nil")) .nil))) (.cons (.call c__law_expression (.cons (.loc 0) (.cons (.cst (.int (1))) (.cons (.tup (.cons (.cst (.str "m")) .nil)) (.cons (.loc 2) .nil))))) .nil)))) .nil))) .nil))))) .nil))))]
def e__law_loop : Ent := ⟨c__law_loop, "_law_loop", ["cup", "f", "functions"], N__law_loop, ⟨3, 12, b__law_loop⟩⟩
abbrev c__law_program : Nat := 38
def N__law_program : List Str := ["cup", "functions", "made", "f", "parameters"]
def b__law_program : List Ss := [.par [1, 2] (.cons (.lst .nil) (.cons (.lst .nil) .nil)), .for [] (.v 3) (.seq (.slc (.tup (.cons (.cst (.str "loop")) (.cons (.cst (.str "walk")) .nil))) (.cst .non) (.ci (.bin .add (.cst (.int (1))) (.call c__law_roll (.cons (.loc 0) (.cons (.cst (.int (2))) .nil))))))) [.exp (.mth .append (.loc 2) (.cons (.call c__law_loop (.cons (.loc 0) (.cons (.loc 3) (.cons (.loc 1) .nil)))) .nil)), .asg 1 (.bin .add (.loc 1) (.lst (.cons (.tup (.cons (.loc 3) (.cons (.cst (.int (2))) .nil))) .nil)))], .for [] (.v 3) (.seq (.slc (.tup (.cons (.cst (.str "aux")) (.cons (.cst (.str "side")) .nil))) (.cst .non) (.ci (.call c__law_roll (.cons (.loc 0) (.cons (.cst (.int (3))) .nil)))))) [.asg 4 (.slc (.tup (.cons (.cst (.str "a")) (.cons (.cst (.str "b")) (.cons (.cst (.str "c")) .nil)))) (.cst .non) (.ci (.bin .add (.cst (.int (1))) (.call c__law_roll (.cons (.loc 0) (.cons (.cst (.int (2))) .nil)))))), .exp (.mth .append (.loc 2) (.cons (.tup (.cons (.loc 3) (.cons (.loc 4) (.cons (.call c__law_expression (.cons (.loc 0) (.cons (.cst (.int (2))) (.cons (.loc 4) (.cons (.loc 1) .nil))))) .nil)))) .nil)), .asg 1 (.bin .add (.loc 1) (.lst (.cons (.tup (.cons (.loc 3) (.cons (.blt .len (.cons (.loc 4) .nil)) .nil))) .nil)))], .asg 4 (.slc (.tup (.cons (.cst (.str "a")) (.cons (.cst (.str "b")) (.cons (.cst (.str "c")) .nil)))) (.cst .non) (.ci (.bin .add (.cst (.int (1))) (.call c__law_roll (.cons (.loc 0) (.cons (.cst (.int (3))) .nil)))))), .ret (.bin .add (.tup (.cons (.tup (.cons (.cst (.str "main")) (.cons (.loc 4) (.cons (.call c__law_expression (.cons (.loc 0) (.cons (.cst (.int (3))) (.cons (.loc 4) (.cons (.loc 1) .nil))))) .nil)))) .nil)) (.blt .tuple (.cons (.rev (.loc 2)) .nil)))]
def e__law_program : Ent := ⟨c__law_program, "_law_program", ["cup"], N__law_program, ⟨1, 5, b__law_program⟩⟩
abbrev c__law_inputs : Nat := 39
def N__law_inputs : List Str := ["cup", "program", ".0", "parameter"]
def b__law_inputs : List Ss := [.ret (.blt .tuple (.cons (.lc [2, 3] (.v 3) (.seq (.idx (.idx (.loc 1) (.cst (.int (0)))) (.cst (.int (1))))) .nil (.call c__law_value (.cons (.loc 0) (.cons (.cst (.int (2))) .nil)))) .nil))]
def e__law_inputs : Ent := ⟨c__law_inputs, "_law_inputs", ["cup", "program"], N__law_inputs, ⟨2, 4, b__law_inputs⟩⟩
abbrev c__law_known : Nat := 40
def N__law_known : List Str := ["cup", "inputs", "way", ".0", "value"]
def b__law_known : List Ss := [.asg 2 (.call c__law_roll (.cons (.loc 0) (.cons (.cst (.int (5))) .nil))), .ret (.blt .tuple (.cons (.lc [3, 4] (.v 4) (.seq (.loc 1)) .nil (.ite (.or (.cmp .eq (.loc 2) (.cst (.int (0)))) (.and (.cmp .gt (.loc 2) (.cst (.int (1)))) (.cmp .eq (.call c__law_roll (.cons (.loc 0) (.cons (.cst (.int (2))) .nil))) (.cst (.int (0)))))) (.tup (.cons (.cst (.int (1))) (.cons (.loc 4) .nil))) (.tup (.cons (.cst (.int (0))) (.cons (.cst (.int (0))) .nil))))) .nil))]
def e__law_known : Ent := ⟨c__law_known, "_law_known", ["cup", "inputs"], N__law_known, ⟨2, 5, b__law_known⟩⟩
abbrev c__law_left : Nat := 41
def N__law_left : List Str := ["known", "inputs", ".0", "pair", "value"]
def b__law_left : List Ss := [.ret (.blt .tuple (.cons (.lc [2, 3, 4] (.t [3, 4]) (.zip (.loc 0) (.loc 1)) (.cons (.cmp .eq (.loc 3) (.tup (.cons (.cst (.int (0))) (.cons (.cst (.int (0))) .nil)))) .nil) (.loc 4)) .nil))]
def e__law_left : Ent := ⟨c__law_left, "_law_left", ["known", "inputs"], N__law_left, ⟨2, 5, b__law_left⟩⟩
abbrev c__law_is_value : Nat := 42
def N__law_is_value : List Str := ["value", ".0", "sign"]
def b__law_is_value : List Ss := [.iff (.cmp .eq (.call c__law_sort (.cons (.loc 0) .nil)) (.cst (.int (2)))) [.ret (.cmp .lt (.blt .abs (.cons (.loc 0) .nil)) (.bin .pow (.cst (.int (10))) (.cst (.int (60)))))] [], .iff (.cmp .eq (.call c__law_sort (.cons (.loc 0) .nil)) (.cst (.int (3)))) [.ret (.and (.chn .le .le (.cst (.int (1))) (.blt .len (.cons (.loc 0) .nil)) (.cst (.int (12)))) (.cmp .eq (.lc [1, 2] (.v 2) (.seq (.loc 0)) (.cons (.cmp .notin (.loc 2) (.cst (.str "abcdefghijklmnopqrstuvwxyz"))) .nil) (.loc 2)) (.lst .nil)))] [], .ret (.and (.cmp .eq (.call c__law_sort (.cons (.loc 0) .nil)) (.cst (.int (4)))) (.and (.cmp .eq (.blt .len (.cons (.loc 0) .nil)) (.cst (.int (2)))) (.and (.call c__law_is_value (.cons (.idx (.loc 0) (.cst (.int (0)))) .nil)) (.call c__law_is_value (.cons (.idx (.loc 0) (.cst (.int (1)))) .nil)))))]
def e__law_is_value : Ent := ⟨c__law_is_value, "_law_is_value", ["value"], N__law_is_value, ⟨1, 3, b__law_is_value⟩⟩
abbrev c__law_are_known : Nat := 43
def N__law_are_known : List Str := ["many", "value", "pair"]
def b__law_are_known : List Ss := [.iff (.or (.cmp .ne (.call c__law_sort (.cons (.loc 1) .nil)) (.cst (.int (4)))) (.cmp .ne (.blt .len (.cons (.loc 1) .nil)) (.loc 0))) [.ret (.cst (.bl false))] [], .for [] (.v 2) (.seq (.loc 1)) [.iff (.or (.cmp .ne (.call c__law_sort (.cons (.loc 2) .nil)) (.cst (.int (4)))) (.or (.cmp .ne (.blt .len (.cons (.loc 2) .nil)) (.cst (.int (2)))) (.or (.cmp .ne (.call c__law_sort (.cons (.idx (.loc 2) (.cst (.int (0)))) .nil)) (.cst (.int (2)))) (.cmp .notin (.idx (.loc 2) (.cst (.int (0)))) (.tup (.cons (.cst (.int (0))) (.cons (.cst (.int (1))) .nil))))))) [.ret (.cst (.bl false))] [], .iff (.or (.and (.cmp .eq (.idx (.loc 2) (.cst (.int (0)))) (.cst (.int (0)))) (.not (.call c__law_like (.cons (.idx (.loc 2) (.cst (.int (1)))) (.cons (.cst (.int (0))) .nil))))) (.and (.cmp .eq (.idx (.loc 2) (.cst (.int (0)))) (.cst (.int (1)))) (.not (.call c__law_is_value (.cons (.idx (.loc 2) (.cst (.int (1)))) .nil))))) [.ret (.cst (.bl false))] []], .ret (.cst (.bl true))]
def e__law_are_known : Ent := ⟨c__law_are_known, "_law_are_known", ["many", "value"], N__law_are_known, ⟨2, 3, b__law_are_known⟩⟩
abbrev c__law_bent : Nat := 44
def N__law_bent : List Str := ["cup", "known", "odd", "at"]
def b__law_bent : List Ss := [.asg 2 (.call c__law_some (.cons (.loc 0) (.cons (.lst (.cons (.cst .non) (.cons (.tup (.cons (.cst (.int (0))) (.cons (.cst (.int (1))) .nil))) (.cons (.tup (.cons (.cst (.int (1))) .nil)) (.cons (.tup (.cons (.cst (.int (2))) (.cons (.cst (.int (0))) .nil))) (.cons (.tup (.cons (.cst (.bl true)) (.cons (.cst (.int (1))) .nil))) (.cons (.tup (.cons (.cst (.bl false)) (.cons (.cst (.int (0))) .nil))) (.cons (.tup (.cons (.cst (.int (0))) (.cons (.cst (.bl false)) .nil))) (.cons (.tup (.cons (.cst (.int (1))) (.cons (.cst (.bl true)) .nil))) (.cons (.tup (.cons (.cst (.int (1))) (.cons (.cst (.str "")) .nil))) (.cons (.tup (.cons (.cst (.int (1))) (.cons (.cst (.str "A")) .nil))) (.cons (.tup (.cons (.cst (.int (1))) (.cons (.tup (.cons (.cst (.int (1))) (.cons (.cst (.int (2))) (.cons (.cst (.int (3))) .nil)))) .nil))) (.cons (.lst (.cons (.cst (.int (0))) (.cons (.cst (.int (0))) .nil))) (.cons (.cst (.int (0))) (.cons (.tup (.cons (.cst (.int (0))) (.cons (.cst (.int (0))) (.cons (.cst (.int (0))) .nil)))) (.cons (.tup (.cons (.cst (.int (1))) (.cons (.bin .pow (.cst (.int (10))) (.cst (.int (60)))) .nil))) (.cons (.tup (.cons (.cst (.int (1))) (.cons (.cst .non) .nil))) (.cons (.tup (.cons (.cst (.int (0))) (.cons (.cst (.int (0))) .nil))) .nil)))))))))))))))))) .nil))), .iff (.cmp .eq (.loc 1) (.tup .nil)) [.ret (.tup (.cons (.loc 2) .nil))] [], .asg 3 (.call c__law_roll (.cons (.loc 0) (.cons (.blt .len (.cons (.loc 1) .nil)) .nil))), .ret (.idx (.lst (.cons (.bin .add (.bin .add (.slc (.loc 1) (.cst .non) (.ci (.loc 3))) (.tup (.cons (.loc 2) .nil))) (.slc (.loc 1) (.ci (.bin .add (.loc 3) (.cst (.int (1))))) (.cst .non))) (.cons (.bin .add (.slc (.loc 1) (.cst .non) (.ci (.loc 3))) (.slc (.loc 1) (.ci (.bin .add (.loc 3) (.cst (.int (1))))) (.cst .non))) (.cons (.bin .add (.loc 1) (.tup (.cons (.loc 2) .nil))) (.cons (.blt .list (.cons (.loc 1) .nil)) .nil))))) (.call c__law_some (.cons (.loc 0) (.cons (.lst (.cons (.cst (.int (0))) (.cons (.cst (.int (0))) (.cons (.cst (.int (0))) (.cons (.cst (.int (1))) (.cons (.cst (.int (2))) (.cons (.cst (.int (3))) .nil))))))) .nil))))]
def e__law_bent : Ent := ⟨c__law_bent, "_law_bent", ["cup", "known"], N__law_bent, ⟨2, 4, b__law_bent⟩⟩
abbrev c__law_right : Nat := 45
def N__law_right : List Str := ["cup", "program", "inputs", "known", "many", "left", "told", "value", "other", "mixed", ".0", "pair", "turn"]
def b__law_right : List Ss := [.asg 2 (.call c__law_inputs (.cons (.loc 0) (.cons (.loc 1) .nil))), .asgT [3, 4] (.tup (.cons (.call c__law_known (.cons (.loc 0) (.cons (.loc 2) .nil))) (.cons (.blt .len (.cons (.loc 2) .nil)) .nil))), .asg 5 (.call c__law_left (.cons (.loc 3) (.cons (.loc 2) .nil))), .asg 6 (.lst (.cons (.call c_are_known (.cons (.loc 1) (.cons (.loc 3) .nil))) (.cons (.call c_which_known (.cons (.loc 3) .nil)) (.cons (.call c_left_inputs (.cons (.loc 3) (.cons (.loc 2) .nil))) (.cons (.call c_all_inputs (.cons (.loc 3) (.cons (.loc 5) .nil))) (.cons (.call c_are_inputs (.cons (.loc 1) (.cons (.call c_all_inputs (.cons (.loc 3) (.cons (.loc 5) .nil))) .nil))) .nil)))))), .iff (.not (.call c__law_like (.cons (.loc 6) (.cons (.lst (.cons (.cst (.bl true)) (.cons (.blt .tuple (.cons (.lc [10, 11] (.v 11) (.seq (.loc 3)) .nil (.idx (.loc 11) (.cst (.int (0))))) .nil)) (.cons (.loc 5) (.cons (.loc 2) (.cons (.cst (.bl true)) .nil)))))) .nil)))) [.ret (.cst (.bl false))] [], .for [] (.v 7) (.seq (.bin .add (.lc [10, 12] (.v 12) (.rng (.cst (.int (6)))) .nil (.call c__law_bent (.cons (.loc 0) (.cons (.loc 3) .nil)))) (.lst (.cons (.cst .non) (.cons (.tup .nil) (.cons (.cst (.int (0))) (.cons (.cst (.str "a")) (.cons (.bin .mul (.tup (.cons (.tup (.cons (.cst (.int (0))) (.cons (.cst (.int (0))) .nil))) .nil)) (.loc 4)) (.cons (.bin .mul (.loc 3) (.cst (.int (9)))) .nil))))))))) [.iff (.not (.call c__law_like (.cons (.call c_are_known (.cons (.loc 1) (.cons (.loc 7) .nil))) (.cons (.call c__law_are_known (.cons (.loc 4) (.cons (.loc 7) .nil))) .nil)))) [.ret (.cst (.bl false))] []], .asg 8 (.blt .tuple (.cons (.lc [10, 7] (.v 7) (.seq (.loc 2)) .nil (.call c__law_value (.cons (.loc 0) (.cons (.cst (.int (1))) .nil)))) .nil)), .asg 9 (.blt .tuple (.cons (.lc [10, 11, 7] (.t [11, 7]) (.zip (.loc 3) (.loc 8)) .nil (.ite (.cmp .eq (.idx (.loc 11) (.cst (.int (0)))) (.cst (.int (1)))) (.idx (.loc 11) (.cst (.int (1)))) (.loc 7))) .nil)), .ret (.call c__law_like (.cons (.call c_all_inputs (.cons (.loc 3) (.cons (.call c_left_inputs (.cons (.loc 3) (.cons (.loc 8) .nil))) .nil))) (.cons (.loc 9) .nil)))]
def e__law_right : Ent := ⟨c__law_right, "_law_right", ["cup", "program"], N__law_right, ⟨2, 13, b__law_right⟩⟩
abbrev c__law_written_right : Nat := 46
def N__law_written_right : List Str := ["name", "power", "told"]
def b__law_written_right : List Ss := [.asg 0 (.tup (.cons (.cst (.str "name")) (.cons (.cst (.str "n")) .nil))), .asg 1 (.tup (.cons (.tup (.cons (.cst (.str "power")) (.cons (.tup (.cons (.cst (.str "n")) (.cons (.cst (.str "m")) .nil))) (.cons (.tup (.cons (.cst (.str "if")) (.cons (.tup (.cons (.cst (.str "do")) (.cons (.cst (.str "less")) (.cons (.tup (.cons (.loc 0) (.cons (.tup (.cons (.cst (.str "value")) (.cons (.cst (.int (1))) .nil))) .nil))) .nil)))) (.cons (.tup (.cons (.cst (.str "value")) (.cons (.cst (.int (1))) .nil))) (.cons (.tup (.cons (.cst (.str "name")) (.cons (.cst (.str "m")) .nil))) .nil))))) .nil)))) .nil)), .iff (.not (.call c__law_like (.cons (.lst (.cons (.call c_are_known (.cons (.loc 1) (.cons (.tup (.cons (.tup (.cons (.cst (.int (2))) (.cons (.cst (.int (2))) .nil))) (.cons (.tup (.cons (.cst (.int (0))) (.cons (.cst (.int (0))) .nil))) .nil))) .nil))) (.cons (.call c_are_known (.cons (.loc 1) (.cons (.tup (.cons (.tup (.cons (.cst (.int (0))) (.cons (.cst (.int (0))) .nil))) (.cons (.tup (.cons (.neg (.cst (.int (1)))) (.cons (.cst (.int (2))) .nil))) .nil))) .nil))) .nil))) (.cons (.lst (.cons (.cst (.bl false)) (.cons (.cst (.bl false)) .nil))) .nil)))) [.ret (.cst (.bl false))] [], .asg 2 (.lst (.cons (.call c_are_known (.cons (.loc 1) (.cons (.tup (.cons (.tup (.cons (.cst (.int (1))) (.cons (.cst (.int (2))) .nil))) (.cons (.tup (.cons (.cst (.int (0))) (.cons (.cst (.int (0))) .nil))) .nil))) .nil))) (.cons (.call c_are_known (.cons (.loc 1) (.cons (.tup (.cons (.tup (.cons (.cst (.int (1))) (.cons (.cst (.int (2))) .nil))) .nil)) .nil))) (.cons (.call c_which_known (.cons (.tup (.cons (.tup (.cons (.cst (.int (1))) (.cons (.cst (.int (2))) .nil))) (.cons (.tup (.cons (.cst (.int (0))) (.cons (.cst (.int (0))) .nil))) .nil))) .nil)) (.cons (.call c_all_inputs (.cons (.tup (.cons (.tup (.cons (.cst (.int (0))) (.cons (.cst (.int (0))) .nil))) (.cons (.tup (.cons (.cst (.int (1))) (.cons (.cst (.int (5))) .nil))) .nil))) (.cons (.tup (.cons (.cst (.int (7))) .nil)) .nil))) (.cons (.call c_left_inputs (.cons (.tup (.cons (.tup (.cons (.cst (.int (0))) (.cons (.cst (.int (0))) .nil))) (.cons (.tup (.cons (.cst (.int (1))) (.cons (.cst (.int (5))) .nil))) .nil))) (.cons (.tup (.cons (.cst (.int (7))) (.cons (.cst (.int (8))) .nil))) .nil))) .nil)))))), .ret (.call c__law_like (.cons (.loc 2) (.cons (.lst (.cons (.cst (.bl true)) (.cons (.cst (.bl false)) (.cons (.tup (.cons (.cst (.int (1))) (.cons (.cst (.int (0))) .nil))) (.cons (.tup (.cons (.cst (.int (7))) (.cons (.cst (.int (5))) .nil))) (.cons (.tup (.cons (.cst (.int (7))) .nil)) .nil)))))) .nil)))]
def e__law_written_right : Ent := ⟨c__law_written_right, "_law_written_right", [], N__law_written_right, ⟨0, 3, b__law_written_right⟩⟩
abbrev c_law : Nat := 47
def N_law : List Str := ["script", "cup", "turn", "none", "eight"]
def b_law : List Ss := [.asg 1 (.call c__law_cup (.cons (.loc 0) .nil)), .iff (.not (.call c__law_written_right .nil)) [.ret (.cst (.bl false))] [], .for [] (.v 2) (.rng (.cst (.int (4)))) [.iff (.not (.call c__law_right (.cons (.loc 1) (.cons (.call c__law_program (.cons (.loc 1) .nil)) .nil)))) [.ret (.cst (.bl false))] []], .asgT [3, 4] (.tup (.cons (.tup (.cons (.tup (.cons (.cst (.str "f")) (.cons (.tup .nil) (.cons (.tup (.cons (.cst (.str "value")) (.cons (.cst (.int (1))) .nil))) .nil)))) .nil)) (.cons (.tup (.cons (.tup (.cons (.cst (.str "f")) (.cons (.tup (.cons (.cst (.str "a")) (.cons (.cst (.str "b")) (.cons (.cst (.str "c")) (.cons (.cst (.str "d")) (.cons (.cst (.str "e")) (.cons (.cst (.str "f")) (.cons (.cst (.str "g")) (.cons (.cst (.str "h")) .nil))))))))) (.cons (.tup (.cons (.cst (.str "name")) (.cons (.cst (.str "a")) .nil))) .nil)))) .nil)) .nil))), .iff (.or (.not (.call c__law_right (.cons (.loc 1) (.cons (.loc 3) .nil)))) (.not (.call c__law_right (.cons (.loc 1) (.cons (.loc 4) .nil))))) [.ret (.cst (.bl false))] [], .ret (.cst (.bl true))]
def e_law : Ent := ⟨c_law, "law", ["script"], N_law, ⟨1, 5, b_law⟩⟩


def FT : List (Nat × Fn) := [(c_is_integer, e_is_integer.fn), (c_is_whole, e_is_whole.fn), (c_is_tuple_of, e_is_tuple_of.fn), (c_is_text_of, e_is_text_of.fn), (c_fits_name, e_fits_name.fn), (c_is_atom, e_is_atom.fn), (c_measured, e_measured.fn), (c_fits_value, e_fits_value.fn), (c_are_values, e_are_values.fn), (c_taken_by, e_taken_by.fn), (c_is_operation, e_is_operation.fn), (c_parts_in, e_parts_in.fn), (c_fits_head, e_fits_head.fn), (c_nodes_of, e_nodes_of.fn), (c_size_in, e_size_in.fn), (c_fits_expression, e_fits_expression.fn), (c_asked_in, e_asked_in.fn), (c_calls_in, e_calls_in.fn), (c_fits_function, e_fits_function.fn), (c_fits_program, e_fits_program.fn), (c_need_program, e_need_program.fn), (c_fits_inputs, e_fits_inputs.fn), (c_is_known_pair, e_is_known_pair.fn), (c_fits_known, e_fits_known.fn), (c_need_pairs, e_need_pairs.fn), (c_are_known, e_are_known.fn), (c_which_known, e_which_known.fn), (c_all_inputs, e_all_inputs.fn), (c_left_inputs, e_left_inputs.fn), (c_are_inputs, e_are_inputs.fn), (c__law_cup, e__law_cup.fn), (c__law_roll, e__law_roll.fn), (c__law_some, e__law_some.fn), (c__law_sort, e__law_sort.fn), (c__law_like, e__law_like.fn), (c__law_value, e__law_value.fn), (c__law_expression, e__law_expression.fn), (c__law_loop, e__law_loop.fn), (c__law_program, e__law_program.fn), (c__law_inputs, e__law_inputs.fn), (c__law_known, e__law_known.fn), (c__law_left, e__law_left.fn), (c__law_is_value, e__law_is_value.fn), (c__law_are_known, e__law_are_known.fn), (c__law_bent, e__law_bent.fn), (c__law_right, e__law_right.fn), (c__law_written_right, e__law_written_right.fn), (c_law, e_law.fn)]
def ents : List Ent := [e_is_integer, e_is_whole, e_is_tuple_of, e_is_text_of, e_fits_name, e_is_atom, e_measured, e_fits_value, e_are_values, e_taken_by, e_is_operation, e_parts_in, e_fits_head, e_nodes_of, e_size_in, e_fits_expression, e_asked_in, e_calls_in, e_fits_function, e_fits_program, e_need_program, e_fits_inputs, e_is_known_pair, e_fits_known, e_need_pairs, e_are_known, e_which_known, e_all_inputs, e_left_inputs, e_are_inputs, e__law_cup, e__law_roll, e__law_some, e__law_sort, e__law_like, e__law_value, e__law_expression, e__law_loop, e__law_program, e__law_inputs, e__law_known, e__law_left, e__law_is_value, e__law_are_known, e__law_bent, e__law_right, e__law_written_right, e_law]
end DE
/-! GN1: the cup; values drawn. -/
namespace DE
open PySem (Str PyData sizeLine)
/-! ### the cup -/
def HasCup (n : Nat) (S : Sto) : Prop := ∃ a b : Int, S[n]? = some (.lst [.int a, .int b])
def CupTo (n : Nat) (S S' : Sto) : Prop := ∃ a b : Int, S' = S.set n (.lst [.int a, .int b])
section
variable {n m : Nat} {S S' S'' L T : Sto}
theorem HasCup.lt (h : HasCup n S) : n < S.length := by
  obtain ⟨a, b, h⟩ := h
  exact (List.getElem?_eq_some_iff.mp h).1
theorem CupTo.refl (h : HasCup n S) : CupTo n S S := by
  obtain ⟨a, b, h⟩ := h
  refine ⟨a, b, ?_⟩
  obtain ⟨hl, e⟩ := List.getElem?_eq_some_iff.mp h
  rw [← e, List.set_getElem_self]
theorem CupTo.len (h : CupTo n S S') : S'.length = S.length := by
  obtain ⟨a, b, rfl⟩ := h
  rw [List.length_set]
theorem CupTo.has (h : HasCup n S) (c : CupTo n S S') : HasCup n S' := by
  have hl := h.lt
  obtain ⟨a, b, rfl⟩ := c
  exact ⟨a, b, by rw [List.getElem?_set_self hl]⟩
theorem CupTo.trans (h : CupTo n S S') (c : CupTo n S' S'') : CupTo n S S'' := by
  obtain ⟨a, b, rfl⟩ := h
  obtain ⟨a', b', rfl⟩ := c
  exact ⟨a', b', by rw [List.set_set]⟩
theorem CupTo.get (c : CupTo n S S') (h : m ≠ n) : S'[m]? = S[m]? := by
  obtain ⟨a, b, rfl⟩ := c
  rw [List.getElem?_set_ne (Ne.symm h)]
theorem CupTo.app (c : CupTo n (S ++ L) T) (h : n < S.length) : ∃ S', T = S' ++ L ∧ CupTo n S S' := by
  obtain ⟨a, b, rfl⟩ := c
  exact ⟨S.set n (.lst [.int a, .int b]), by rw [List.set_append_left _ _ h], a, b, rfl⟩
theorem HasCup.app (h : HasCup n S) : HasCup n (S ++ L) := by
  have hl := h.lt
  obtain ⟨a, b, h⟩ := h
  exact ⟨a, b, by rw [List.getElem?_append_left hl]; exact h⟩
theorem take_all (S : Sto) : S.take S.length = S := List.take_length
theorem CupTo.take (c : CupTo n S S') : S'.take S.length = S' := by rw [← c.len]; exact List.take_length
theorem take_app (S L : Sto) : (S ++ L).take S.length = S := by simp
theorem CupTo.takeA (c : CupTo n S S') : (S' ++ L).take S.length = S' := by rw [← c.len]; simp
end
theorem fmod_nn {a b : Int} (h : 0 < b) : 0 ≤ a % b ∧ a % b < b := ⟨Int.emod_nonneg _ (by omega), Int.emod_lt_of_pos _ h⟩
section
variable {k n : Nat} {S : Sto} {E : EE} {Q : D → Sto → Prop}
theorem idx_lst {n : Nat} {i : Int} {ds : List D} {S : Sto} (h : S[n]? = some (.lst ds)) : idx (.ref n) (.int i) S = (ixN ds.length i).bind fun j => ds[j]? := by
  unfold idx
  simp only [h]
theorem bin_add {i j : Int} : bin .add (.int i) (.int j) S = .ok (.int (i + j)) S := rfl
theorem bin_sub {i j : Int} : bin .sub (.int i) (.int j) S = .ok (.int (i - j)) S := rfl
theorem bin_mul {i j : Int} (h : small i = true ∨ small j = true) : bin .mul (.int i) (.int j) S = .ok (.int (i * j)) S := by
  unfold bin
  have : (small i || small j) = true := by rcases h with h | h <;> simp [h]
  simp only [this]
theorem bin_mod {i j : Int} (h : 0 < j) : bin .mod (.int i) (.int j) S = .ok (.int (i % j)) S := by
  unfold bin
  simp only [decide_eq_true h]
theorem bin_fdiv {i j : Int} (h : 0 < j) (h2 : j.natAbs.log2 < 9000) : bin .fdiv (.int i) (.int j) S = .ok (.int (i / j)) S := by
  unfold bin
  simp only [decide_eq_true h, decide_eq_true h2, Bool.and_self]
@[simp] theorem below_int {m : Nat} {i : Int} : below m (.int i) = true := rfl
@[simp] theorem below_str {m : Nat} {x : Str} : below m (.str x) = true := rfl
@[simp] theorem below_bl {m : Nat} {b : Bool} : below m (.bl b) = true := rfl
@[simp] theorem below_non {m : Nat} : below m .non = true := rfl
@[simp] theorem below_tup {m : Nat} {ds : List D} : below m (.tup ds) = true := rfl
@[simp] theorem blt_int {i : Int} : blt .int [.int i] S = .ok (.int i) S := rfl
@[simp] theorem blt_abs {i : Int} : blt .abs [.int i] S = .ok (.int (if i < 0 then -i else i)) S := rfl
theorem blt_len_l {m : Nat} {ds : List D} (h : S[m]? = some (.lst ds)) : blt .len [.ref m] S = .ok (.int ds.length) S := by
  show bLen (.ref m) S = _
  unfold bLen
  simp only [h]
@[simp] theorem blt_len_t {ds : List D} : blt .len [.tup ds] S = .ok (.int ds.length) S := rfl
theorem setI_lst {n : Nat} {ds : List D} {i : Int} {j : Nat} {v : D} (h : S[n]? = some (.lst ds)) (hi : ixN ds.length i = some j) (hb : below n v = true) : setI (.ref n) (.int i) v S = .ok () (S.set n (.lst (ds.set j v))) := by
  unfold setI
  simp only [h, hi, hb]
  rfl
theorem ixN_nn {n : Nat} {i : Int} (h : 0 ≤ i) (h2 : i < n) : ixN n i = some i.toNat := by
  unfold ixN
  rw [if_pos h, if_pos h2]
theorem roll_ok {m : Int} (h : HasCup n S) (hk : 1 ≤ k) (hm : 0 < m) (hm2 : m < 2 ^ 64) (q : ∀ (r : Int) S', 0 ≤ r → r < m → CupTo n S S' → Q (.int r) S') : WP (callF FT k c__law_roll [.ref n, .int m] S) E Q := by
  obtain ⟨k, rfl⟩ : ∃ j, k = j + 1 := ⟨k - 1, by omega⟩
  have hl := h.lt
  have lg : m.natAbs.log2 < 9000 := by
    have : m.natAbs.log2 < 64 := by
      rw [Nat.log2_lt (by omega)]
      omega
    omega
  obtain ⟨a, b, h⟩ := h
  refine call_wp (fn := e__law_roll.fn) rfl rfl ?_
  generalize (fun c x S1 => below S.length x = true ∧ E c x (S1.take S.length) : EE) = E'
  show WX (execs _ b__law_roll [some (.ref n), some (.int m), none, none] S) _ _
  unfold b__law_roll
  have sm : small 31051 = true := by decide
  have e0 : ∀ v, setI (.ref n) (.int 0) (.int v) S = .ok () (S.set n (.lst [.int v, .int b])) := fun v => setI_lst (j := 0) h rfl rfl
  have e1 : ∀ v, setI (.ref n) (.int 1) (.int v) S = .ok () (S.set n (.lst [.int a, .int v])) := fun v => setI_lst (j := 1) h rfl rfl
  simp [idx_lst h, ixN, cmp, cmpI, bin_mod hm, bin_fdiv hm lg, e0, e1, bin_mul (S := S) (.inr sm), bin_add, bin_mod (j := 2147483543) (by decide)]
  have fin0 : ∀ (x y r : Int), 0 ≤ r → r < m → WP (fin S.length (.int r) (S.set n (.lst [.int x, .int y]))) E Q := fun x y r h1 h2 => by
    refine fin_pure rfl ?_
    have c : CupTo n S (S.set n (.lst [.int x, .int y])) := ⟨x, y, rfl⟩
    rw [c.take]
    exact q r _ h1 h2 c
  refine tb_p (fun _ => fin0 _ _ _ (fmod_nn hm).1 (fmod_nn hm).2) fun _ => ?_
  generalize hc : (b * 31051 + 7993) % 2147483543 = c
  have c1 : 0 ≤ c ∧ c < 2147483543 := by rw [← hc]; exact fmod_nn (by decide)
  have sc : small c = true := by unfold small; exact decide_eq_true ⟨by omega, by omega⟩
  have g : (S.set n (.lst [.int a, .int c]))[n]? = some (.lst [.int a, .int c]) := by rw [List.getElem?_set_self hl]
  simp [idx_lst g, ixN, bin_add, bin_mul (.inl sc), bin_mod hm, bin_mod (j := 2147483587) (by decide), bin_fdiv (j := 821) (by decide) (by decide)]
  exact fin0 _ _ _ (fmod_nn hm).1 (fmod_nn hm).2
theorem some_l {m : Nat} {ds : List D} (h : HasCup n S) (hm : m ≠ n) (hl : S[m]? = some (.lst ds)) (h0 : 0 < ds.length) (h2 : ds.length < 2 ^ 60) (hb : belows S.length ds = true) (hk : 2 ≤ k) (q : ∀ d S', d ∈ ds → CupTo n S S' → Q d S') : WP (callF FT k c__law_some [.ref n, .ref m] S) E Q := by
  obtain ⟨k, rfl⟩ : ∃ j, k = j + 1 := ⟨k - 1, by omega⟩
  refine call_wp (fn := e__law_some.fn) rfl rfl ?_
  generalize (fun c x S1 => below S.length x = true ∧ E c x (S1.take S.length) : EE) = E'
  show WX (execs _ b__law_some [some (.ref n), some (.ref m)] S) _ _
  unfold b__law_some
  simp [blt_len_l hl]
  refine roll_ok h (by omega) (by omega) (by omega) fun r S' h3 h4 c => ?_
  rw [idx_lst ((c.get hm).trans hl), ixN_nn h3 h4]
  have lt : r.toNat < ds.length := by omega
  simp [lt]
  have hd : ds[r.toNat] ∈ ds := List.getElem_mem lt
  refine fin_pure (belows_sub hb _ hd) ?_
  rw [c.take]
  exact q _ _ hd c
/-- .. of a list just made -/
theorem some_new {ds : List D} (h : HasCup n S) (hk : 2 ≤ k) (h0 : 0 < ds.length) (h2 : ds.length < 2 ^ 60) (hb : belows S.length ds = true) (q : ∀ d S', d ∈ ds → CupTo n S S' → Q d (S' ++ [.lst ds])) : WP (callF FT k c__law_some [.ref n, .ref S.length] (S ++ [.lst ds])) E Q := by
  have hl := h.lt
  refine some_l h.app (by omega) (by simp) h0 h2 (belows_mono (by simp) _ hb) hk fun d S' hd c => ?_
  obtain ⟨S1, rfl, c1⟩ := c.app hl
  exact q d S1 hd c1
/-- .. of a tuple -/
theorem some_t {ds : List D} (h : HasCup n S) (hk : 2 ≤ k) (h0 : 0 < ds.length) (h2 : ds.length < 2 ^ 60) (hb : belows S.length ds = true) (q : ∀ d S', d ∈ ds → CupTo n S S' → Q d S') : WP (callF FT k c__law_some [.ref n, .tup ds] S) E Q := by
  obtain ⟨k, rfl⟩ : ∃ j, k = j + 1 := ⟨k - 1, by omega⟩
  refine call_wp (fn := e__law_some.fn) rfl rfl ?_
  generalize (fun c x S1 => below S.length x = true ∧ E c x (S1.take S.length) : EE) = E'
  show WX (execs _ b__law_some [some (.ref n), some (.tup ds)] S) _ _
  unfold b__law_some
  simp
  refine roll_ok h (by omega) (by omega) (by omega) fun r S' h3 h4 c => ?_
  have e : idx (.tup ds) (.int r) S' = (ixN ds.length r).bind fun j => ds[j]? := rfl
  have lt : r.toNat < ds.length := by omega
  simp [e, ixN_nn h3 h4, lt]
  have hd : ds[r.toNat] ∈ ds := List.getElem_mem lt
  refine fin_pure (belows_sub hb _ hd) ?_
  rw [c.take]
  exact q _ _ hd c
@[simp] theorem szl : sizeLine = 16777216 := by decide
theorem eq_int {i j : Int} : cmp .eq (.int i) (.int j) S = some (decide (i = j)) := by
  show eqB S (.int i) (.int j) = _
  have t : ∀ i, toP S 5000 (.int i) = some (.int i) := fun _ => rfl
  unfold eqB
  simp only [t]
  have : (PyData.canLay0 (.int i) && PyData.canLay0 (.int j) && Nat.ble (min (PyData.int i).depth (PyData.int j).depth) 64) = true := by
    simp [PyData.canLay0, PyData.depth]
  rw [this]
  simp [PyData.eqv]
  by_cases h : i = j
  · subst h; simp
  · simp [h]
theorem ne_int {i j : Int} : cmp .ne (.int i) (.int j) S = some (!decide (i = j)) := by
  have := eq_int (S := S) (i := i) (j := j)
  show (cmp .eq (.int i) (.int j) S).map (!·) = _
  rw [this]
  rfl
@[simp] theorem lt_int {i j : Int} : cmp .lt (.int i) (.int j) S = some (decide (i < j)) := rfl
@[simp] theorem le_int {i j : Int} : cmp .le (.int i) (.int j) S = some (decide (i ≤ j)) := rfl
@[simp] theorem gt_int {i j : Int} : cmp .gt (.int i) (.int j) S = some (decide (j < i)) := rfl
@[simp] theorem ge_int {i j : Int} : cmp .ge (.int i) (.int j) S = some (decide (j ≤ i)) := rfl
end
end DE
/-! GN2: values drawn. -/
namespace DE
open PySem (Str PyData sizeLine)
/-- values of the language -/
inductive Vl where | int (i : Int) | str (x : Str) | pair (a b : Vl)
def Vl.d : Vl → D
  | .int i => .int i
  | .str x => .str x
  | .pair a b => .tup [a.d, b.d]
def Vl.sz : Vl → Nat
  | .pair a b => a.sz + b.sz
  | _ => 1
def Vl.dp : Vl → Nat
  | .pair a b => max a.dp b.dp + 1
  | _ => 0
def wordB (x : Str) : Bool := Nat.ble 1 x.cps.size && Nat.ble x.cps.size 12 && x.cps.toList.all fun c => Nat.ble 97 c && Nat.ble c 122
def Vl.ok : Vl → Prop
  | .int i => -(10 ^ 60) < i ∧ i < 10 ^ 60
  | .str x => wordB x = true
  | .pair a b => a.ok ∧ b.ok
theorem Vl.pure (v : Vl) : v.d.pure = true := by cases v <;> rfl
@[simp] theorem vl_below {m : Nat} (v : Vl) : below m v.d = true := by cases v <;> rfl
theorem Vl.sz_pos (v : Vl) : 0 < v.sz := by
  induction v with
  | int i => exact Nat.one_pos
  | str x => exact Nat.one_pos
  | pair a b iha ihb => show 0 < a.sz + b.sz; omega
theorem mkT_pure {ds : List D} (h : ds.all D.pure = true) : mkT ds = .tup ds := by
  unfold mkT
  rw [h]
section
variable {k n : Nat} {S : Sto} {E : EE} {Q : D → Sto → Prop}
theorem value0 (h : HasCup n S) (hk : 3 ≤ k) (q : ∀ (v : Vl) S', v.ok → v.sz = 1 → v.dp = 0 → CupTo n S S' → Q v.d S') : WP (callF FT k c__law_value [.ref n, .int 0] S) E Q := by
  obtain ⟨k, rfl⟩ : ∃ j, k = j + 1 := ⟨k - 1, by omega⟩
  refine call_wp (fn := e__law_value.fn) rfl rfl ?_
  generalize (fun c x S1 => below S.length x = true ∧ E c x (S1.take S.length) : EE) = E'
  show WX (execs _ b__law_value [some (.ref n), some (.int 0), none, none, none] S) _ _
  unfold b__law_value
  simp
  refine roll_ok h (by omega) (by decide) (by decide) fun r S1 h1 h2 c1 => ?_
  simp
  refine tb_p (fun h3 => ?_) (fun h3 => ?_)
  · refine roll_ok (c1.has h) (by omega) (by decide) (by decide) fun r2 S2 h4 h5 c2 => ?_
    simp [bin_sub]
    refine fin_pure rfl ?_
    rw [(c1.trans c2).take]
    exact q (.int (r2 - 3)) S2 ⟨by omega, by omega⟩ rfl rfl (c1.trans c2)
  · have e : r = 2 := by omega
    subst e
    simp [eq_int]
    refine some_new (c1.has h) (by omega) (by decide) (by decide) (by rfl) fun d S2 hd c2 => ?_
    have ce := c1.trans c2
    have hw : ∃ x, d = .str x ∧ wordB x = true := by
      simp only [List.mem_cons, List.not_mem_nil, or_false] at hd
      rcases hd with rfl | rfl | rfl | rfl | rfl
      · exact ⟨_, rfl, by decide⟩
      · exact ⟨_, rfl, by decide⟩
      · exact ⟨_, rfl, by decide⟩
      · exact ⟨_, rfl, by decide⟩
      · exact ⟨_, rfl, by decide⟩
    obtain ⟨x, rfl, hx⟩ := hw
    refine fin_pure rfl ?_
    rw [← ce.len, take_app]
    exact q (.str x) S2 hx rfl rfl ce
theorem cup_trim {S1 S2 : Sto} {env : Env} (c : CupTo n S1 S2) : trim S1.length env S2 = S2 := by
  unfold trim
  split
  · rw [c.take]
  · rfl
theorem value_ok : ∀ (deep : Nat) {k n : Nat} {S : Sto} {E : EE} {Q : D → Sto → Prop}, HasCup n S → deep + 3 ≤ k → (∀ (v : Vl) S', v.ok → v.sz ≤ 4 * 2 ^ deep → v.dp ≤ deep + 3 → CupTo n S S' → Q v.d S') → WP (callF FT k c__law_value [.ref n, .int deep] S) E Q
  | 0, k, n, S, E, Q, h, hk, q => value0 h (by omega) fun v S' h1 h2 h3 c => q v S' h1 (by omega) (by omega) c
  | deep + 1, k, n, S, E, Q, h, hk, q => by
    obtain ⟨k, rfl⟩ : ∃ j, k = j + 1 := ⟨k - 1, by omega⟩
    refine call_wp (fn := e__law_value.fn) rfl rfl ?_
    generalize (fun c x S1 => below S.length x = true ∧ E c x (S1.take S.length) : EE) = E'
    show WX (execs _ b__law_value [some (.ref n), some (.int (deep + 1 : Nat)), none, none, none] S) _ _
    have pw : 1 ≤ 2 ^ deep := Nat.one_le_two_pow
    have pw2 : 2 ^ (deep + 1) = 2 * 2 ^ deep := by rw [Nat.pow_succ, Nat.mul_comm]
    have dpos : (0 : Int) < ((deep + 1 : Nat) : Int) := by omega
    have dsub : ((deep + 1 : Nat) : Int) - 1 = (deep : Int) := by omega
    unfold b__law_value
    simp only [wxs_cons, wx_asg, wp_call, wps_cons, wps_nil, wp_loc, wp_ite, wp_cmp, wp_cst, gt_int, List.getElem?_cons_zero, List.getElem?_cons_succ, Option.join_some, wo_some, decide_eq_true dpos, tb_t, nxt_nx]
    refine roll_ok h (by omega) (by decide) (by decide) fun r S1 h1 h2 c1 => ?_
    simp
    refine tb_p (fun h3 => ?_) (fun h3 => ?_)
    · refine roll_ok (c1.has h) (by omega) (by decide) (by decide) fun r2 S2 h4 h5 c2 => ?_
      simp [bin_sub]
      refine fin_pure rfl ?_
      rw [(c1.trans c2).take]
      exact q (.int (r2 - 3)) S2 ⟨by omega, by omega⟩ (by show 1 ≤ _; omega) (Nat.zero_le _) (c1.trans c2)
    · rw [eq_int, wo_some]
      refine tb_p (fun h3 => ?_) (fun h3 => ?_)
      · refine some_new (c1.has h) (by omega) (by decide) (by decide) (by rfl) fun d S2 hd c2 => ?_
        have ce := c1.trans c2
        have hw : ∃ x, d = .str x ∧ wordB x = true := by
          simp only [List.mem_cons, List.not_mem_nil, or_false] at hd
          rcases hd with rfl | rfl | rfl | rfl | rfl
          · exact ⟨_, rfl, by decide⟩
          · exact ⟨_, rfl, by decide⟩
          · exact ⟨_, rfl, by decide⟩
          · exact ⟨_, rfl, by decide⟩
          · exact ⟨_, rfl, by decide⟩
        obtain ⟨x, rfl, hx⟩ := hw
        refine fin_pure rfl ?_
        rw [← ce.len, take_app]
        exact q (.str x) S2 hx (by show 1 ≤ _; omega) (Nat.zero_le _) ce
      · rw [eq_int, wo_some]
        refine tb_p (fun h4 => ?_) (fun h4 => ?_)
        · simp only [bin_sub, wp_ok]
          rw [show ((deep : Int) + 1 - 1) = (deep : Int) by omega]
          refine value_ok deep (c1.has h) (by omega) fun v1 S2 o1 z1 p1 c2 => ?_
          have h2' := c2.has (c1.has h)
          refine value_ok deep h2' (by omega) fun v2 S3 o2 z2 p2 c3 => ?_
          have ce := (c1.trans c2).trans c3
          rw [mkT_pure (by simp [Vl.pure])]
          refine fin_pure rfl ?_
          rw [ce.take]
          refine q (.pair v1 v2) S3 ⟨o1, o2⟩ (by show v1.sz + v2.sz ≤ _; omega) (by show max v1.dp v2.dp + 1 ≤ _; omega) ce
        · refine roll_ok (c1.has h) (by omega) (by decide) (by decide) fun r2 S2 h5 h6 c2 => ?_
          have c12 := c1.trans c2
          simp only [intOf, wo_some]
          refine ⟨⟨by omega, by omega⟩, ?_⟩
          refine for_rule (fun i e S' => i ≤ r2.toNat ∧ CupTo n S S' ∧ ∃ (v : Vl) (t : Option D), e = [some (.ref n), some (.int ((deep : Int) + 1)), some (.int r), some v.d, t] ∧ v.ok ∧ v.sz ≤ 1 + i ∧ v.dp ≤ i) r2.toNat (by unfold fuel; omega) ⟨Nat.zero_le _, c12, .str "nil", _, rfl, (by show wordB _ = true; decide), Nat.le_refl _, Nat.le_refl _⟩ fun i e S' ⟨hi, cS, v, t, he, hv, hz, hp⟩ => ?_
          subst he
          unfold ivGet
          simp only [List.getElem?_map]
          by_cases hir : i < r2.toNat
          · rw [List.getElem?_range hir]
            refine ⟨hir, ?_⟩
            simp [bindT]
            refine value0 (cS.has h) (by omega) fun w S3 ow zw pw cw => ?_
            rw [mkT_pure (by simp [Vl.pure])]
            have := cS.trans cw
            rw [cup_trim cw]
            exact ⟨hir, this, .pair w v, ⟨_, rfl⟩, ⟨ow, hv⟩, by show w.sz + v.sz ≤ _; omega, by show max w.dp v.dp + 1 ≤ _; omega⟩
          · rw [List.getElem?_eq_none (by rw [List.length_range]; omega)]
            simp
            refine fin_pure (vl_below v) ?_
            rw [cS.take]
            refine q v S' hv (by omega) (by omega) cS
end
end DE
/-! GN3: data; == ; terms. -/
namespace DE
open PySem (Str PyData sizeLine)
/-! ### data -/
inductive Dat : Nat → D → Prop where
  | non {n : Nat} : Dat n .non
  | bl {n : Nat} {b : Bool} : Dat n (.bl b)
  | int {n : Nat} {i : Int} : Dat n (.int i)
  | str {n : Nat} {x : Str} (h : PyData.strOk x = true) : Dat n (.str x)
  | tup {n : Nat} {ds : List D} (h : ∀ d ∈ ds, Dat n d) : Dat (n + 1) (.tup ds)
theorem optAll_of {α β : Type} {f : α → Option β} {g : α → β} : ∀ {l : List α}, (∀ a ∈ l, f a = some (g a)) → optAll f l = some (l.map g)
  | [], _ => rfl
  | a :: l, h => by
    unfold optAll
    rw [h a List.mem_cons_self]
    simp only
    rw [optAll_of fun b hb => h b (List.mem_cons_of_mem _ hb)]
    rfl
/-- the data of a pure value -/
def dP : Nat → D → PyData
  | _, .bl b => .bool b
  | _, .int i => .int i
  | _, .str x => .str x
  | n + 1, .tup ds => .tuple (ds.map (dP n))
  | _, _ => .none
theorem canAll_of : ∀ {xs : List PyData}, (∀ x ∈ xs, x.canLay0 = true) → PyData.canLayAll0 xs = true
  | [], _ => by simp [PyData.canLayAll0]
  | x :: xs, h => by
    simp only [PyData.canLayAll0]
    rw [h x List.mem_cons_self, canAll_of fun y hy => h y (List.mem_cons_of_mem _ hy)]
    rfl
theorem depthAll_of {n : Nat} : ∀ {xs : List PyData}, (∀ x ∈ xs, x.depth ≤ n) → PyData.depthAll xs ≤ n
  | [], _ => by simp [PyData.depthAll]
  | x :: xs, h => by
    simp only [PyData.depthAll]
    have h1 := h x List.mem_cons_self
    have h2 := depthAll_of fun y hy => h y (List.mem_cons_of_mem x hy)
    omega
theorem dat_P {n : Nat} {d : D} (h : Dat n d) : (∀ (S : Sto) (f : Nat), n < f → toP S f d = some (dP n d)) ∧ (dP n d).canLay0 = true ∧ (dP n d).depth ≤ n := by
  induction h with
  | non =>
    refine ⟨fun S f hf => ?_, ?_, ?_⟩
    · obtain ⟨f, rfl⟩ : ∃ g, f = g + 1 := ⟨f - 1, by omega⟩
      simp [toP, dP]
    · simp [dP, PyData.canLay0]
    · simp [dP, PyData.depth]
  | bl =>
    refine ⟨fun S f hf => ?_, ?_, ?_⟩
    · obtain ⟨f, rfl⟩ : ∃ g, f = g + 1 := ⟨f - 1, by omega⟩
      simp [toP, dP]
    · simp [dP, PyData.canLay0]
    · simp [dP, PyData.depth]
  | int =>
    refine ⟨fun S f hf => ?_, ?_, ?_⟩
    · obtain ⟨f, rfl⟩ : ∃ g, f = g + 1 := ⟨f - 1, by omega⟩
      simp [toP, dP]
    · simp [dP, PyData.canLay0]
    · simp [dP, PyData.depth]
  | str hx =>
    refine ⟨fun S f hf => ?_, ?_, ?_⟩
    · obtain ⟨f, rfl⟩ : ∃ g, f = g + 1 := ⟨f - 1, by omega⟩
      simp [toP, dP]
    · simp [dP, PyData.canLay0, hx]
    · simp [dP, PyData.depth]
  | @tup n ds hd ih =>
    refine ⟨fun S f hf => ?_, ?_, ?_⟩
    · obtain ⟨f, rfl⟩ : ∃ g, f = g + 1 := ⟨f - 1, by omega⟩
      simp only [toP, dP]
      rw [optAll_of (g := dP n) fun d h => (ih d h).1 S f (by omega)]
      rfl
    · simp only [dP, PyData.canLay0]
      exact canAll_of fun x hx => by
        obtain ⟨d, h, rfl⟩ := List.mem_map.mp hx
        exact (ih d h).2.1
    · simp only [dP, PyData.depth]
      have : PyData.depthAll (ds.map (dP n)) ≤ n := depthAll_of fun x hx => by
        obtain ⟨d, h, rfl⟩ := List.mem_map.mp hx
        exact (ih d h).2.2
      omega
theorem Dat.mono {n m : Nat} {d : D} (h : Dat n d) (l : n ≤ m) : Dat m d := by
  induction h generalizing m with
  | non => exact .non
  | bl => exact .bl
  | int => exact .int
  | str h => exact .str h
  | @tup n ds hd ih =>
    obtain ⟨m, rfl⟩ : ∃ g, m = g + 1 := ⟨m - 1, by omega⟩
    exact .tup fun d h => ih d h (by omega)
theorem Dat.pure {n : Nat} {d : D} (h : Dat n d) : d.pure = true := by cases h <;> rfl
theorem dat_bel {n m : Nat} {d : D} (h : Dat n d) : below m d = true := below_pure h.pure
section
variable {S : Sto}
theorem eq_dat {n m : Nat} {a b : D} (ha : Dat n a) (hb : Dat m b) (h : min n m ≤ 64) (h1 : n < 5000) (h2 : m < 5000) : cmp .eq a b S = some (PyData.eqv (dP n a) (dP m b)) := by
  show eqB S a b = _
  obtain ⟨p1, p2, p3⟩ := dat_P ha
  obtain ⟨q1, q2, q3⟩ := dat_P hb
  unfold eqB
  rw [p1 S 5000 h1, q1 S 5000 h2]
  simp only [p2, q2]
  have : Nat.ble (min (dP n a).depth (dP m b).depth) 64 = true := Nat.ble_eq_true_of_le (by omega)
  rw [this]
  rfl
theorem ne_dat {n m : Nat} {a b : D} (ha : Dat n a) (hb : Dat m b) (h : min n m ≤ 64) (h1 : n < 5000) (h2 : m < 5000) : cmp .ne a b S = some (!PyData.eqv (dP n a) (dP m b)) := by
  have := eq_dat (S := S) ha hb h h1 h2
  show (cmp .eq a b S).map (!·) = _
  rw [this]
  rfl
theorem eqv_nil {xs : List PyData} : PyData.eqvAll xs [] = xs.isEmpty := by cases xs <;> simp [PyData.eqvAll]
/-- a list against the empty one -/
theorem eq_nil {n p m : Nat} {ds : List D} (hp : S[p]? = some (.lst ds)) (hm : S[m]? = some (.lst [])) (hd : ∀ d ∈ ds, Dat n d) (h1 : n < 4990) : cmp .eq (.ref p) (.ref m) S = some ds.isEmpty := by
  show eqB S (.ref p) (.ref m) = _
  have t1 : toP S 5000 (.ref p) = some (.list (ds.map (dP n))) := by
    show (match S[p]? with | some (.lst ds) => _ | some (.fl ds) => _ | _ => _) = _
    rw [hp]
    simp only
    rw [optAll_of (g := dP n) fun d h => (dat_P (hd d h)).1 S 4999 (by omega)]
    rfl
  have t2 : toP S 5000 (.ref m) = some (.list []) := by
    show (match S[m]? with | some (.lst ds) => _ | some (.fl ds) => _ | _ => _) = _
    rw [hm]
    rfl
  unfold eqB
  rw [t1, t2]
  have c1 : (PyData.list (ds.map (dP n))).canLay0 = true := by
    simp only [PyData.canLay0]
    exact canAll_of fun x hx => by
      obtain ⟨d, h, rfl⟩ := List.mem_map.mp hx
      exact (dat_P (hd d h)).2.1
  have c2 : (PyData.list []).canLay0 = true := by simp [PyData.canLay0, PyData.canLayAll0]
  have c3 : Nat.ble (min (PyData.list (ds.map (dP n))).depth (PyData.list []).depth) 64 = true := Nat.ble_eq_true_of_le (by
    have : (PyData.list []).depth = 1 := by simp [PyData.depth, PyData.depthAll]
    omega)
  simp only [c1, c2, c3, Bool.and_self]
  simp only [PyData.eqv, eqv_nil]
  cases ds <;> rfl
theorem ne_nil {n p m : Nat} {ds : List D} (hp : S[p]? = some (.lst ds)) (hm : S[m]? = some (.lst [])) (hd : ∀ d ∈ ds, Dat n d) (h1 : n < 4990) : cmp .ne (.ref p) (.ref m) S = some (!ds.isEmpty) := by
  have := eq_nil hp hm hd h1
  show (cmp .eq (.ref p) (.ref m) S).map (!·) = _
  rw [this]
  rfl
end
theorem word_ok {x : Str} (h : wordB x = true) : PyData.strOk x = true := by
  unfold wordB at h
  obtain ⟨h1, h2⟩ := Bool.and_eq_true_iff.mp h
  unfold PyData.strOk
  rw [Array.all_eq_true_iff_forall_mem] 
  intro c hc
  have := List.all_eq_true.mp h2 c (by simpa using hc)
  obtain ⟨_, h4⟩ := Bool.and_eq_true_iff.mp this
  have := Nat.le_of_ble_eq_true h4
  simp
  omega
theorem Vl.dat : ∀ {v : Vl}, v.ok → Dat v.dp v.d
  | .int i, _ => .int
  | .str x, h => .str (word_ok h)
  | .pair a b, h => .tup fun d hd => by
    have h1 := Vl.dat h.1
    have h2 := Vl.dat h.2
    simp only [List.mem_cons, List.not_mem_nil, or_false] at hd
    rcases hd with rfl | rfl
    · exact h1.mono (Nat.le_max_left _ _)
    · exact h2.mono (Nat.le_max_right _ _)
/-! ### terms -/
inductive Tm where
  | name (x : Str) | val (v : Vl) | doo (op : Str) (as : List Tm) | iff (t a b : Tm) | lett (x : Str) (a b : Tm) | halt (w : Str) | call (f : Str) (as : List Tm)
mutual
def Tm.d : Tm → D
  | .name x => .tup [.str "name", .str x]
  | .val v => .tup [.str "value", v.d]
  | .doo op as => .tup [.str "do", .str op, .tup (Tm.ds as)]
  | .iff t a b => .tup [.str "if", t.d, a.d, b.d]
  | .lett x a b => .tup [.str "let", .str x, a.d, b.d]
  | .halt w => .tup [.str "halt", .str w]
  | .call f as => .tup [.str "call", .str f, .tup (Tm.ds as)]
def Tm.ds : List Tm → List D
  | [] => []
  | t :: ts => t.d :: Tm.ds ts
end
mutual
def Tm.sz : Tm → Nat
  | .doo _ as => Tm.szs as + 1
  | .iff t a b => t.sz + a.sz + b.sz + 1
  | .lett _ a b => a.sz + b.sz + 1
  | .call _ as => Tm.szs as + 1
  | _ => 1
def Tm.szs : List Tm → Nat
  | [] => 0
  | t :: ts => t.sz + Tm.szs ts
end
mutual
def Tm.dp : Tm → Nat
  | .doo _ as => Tm.dps as + 1
  | .iff t a b => max t.dp (max a.dp b.dp) + 1
  | .lett _ a b => max a.dp b.dp + 1
  | .call _ as => Tm.dps as + 1
  | _ => 1
def Tm.dps : List Tm → Nat
  | [] => 0
  | t :: ts => max t.dp (Tm.dps ts)
end
def one5 : List Str := ["head", "tail", "isint", "isword", "ispair"]
def two8 : List Str := ["add", "sub", "mul", "quot", "rest", "less", "same", "pair"]
def smallV (v : Vl) : Prop := v.ok ∧ v.sz ≤ 16 ∧ v.dp ≤ 8
mutual
/-- a term that may stand where these names are known, and these functions -/
def Tm.ok (fs : List (Str × Nat)) : List Str → Tm → Prop
  | ns, .name x => x ∈ ns ∧ wordB x = true
  | _, .val v => smallV v
  | ns, .doo op as => ((op ∈ one5 ∧ as.length = 1) ∨ (op ∈ two8 ∧ as.length = 2)) ∧ Tm.oks fs ns as
  | ns, .iff t a b => Tm.ok fs ns t ∧ Tm.ok fs ns a ∧ Tm.ok fs ns b
  | ns, .lett x a b => wordB x = true ∧ Tm.ok fs ns a ∧ Tm.ok fs (x :: ns) b
  | _, .halt w => wordB w = true
  | ns, .call f as => ((f, as.length) ∈ fs ∧ wordB f = true ∧ as.length ≤ 8) ∧ Tm.oks fs ns as
def Tm.oks (fs : List (Str × Nat)) : List Str → List Tm → Prop
  | _, [] => True
  | ns, t :: ts => Tm.ok fs ns t ∧ Tm.oks fs ns ts
end
mutual
theorem Tm.ok_mono {fs : List (Str × Nat)} : ∀ {t : Tm} {ns ms : List Str}, (∀ x ∈ ns, x ∈ ms) → Tm.ok fs ns t → Tm.ok fs ms t
  | .name x, ns, ms, h, k => by
    simp only [Tm.ok] at k ⊢
    exact ⟨h x k.1, k.2⟩
  | .val v, ns, ms, h, k => by simp only [Tm.ok] at k ⊢; exact k
  | .doo op as, ns, ms, h, k => by
    simp only [Tm.ok] at k ⊢
    exact ⟨k.1, Tm.oks_mono h k.2⟩
  | .iff t a b, ns, ms, h, k => by
    simp only [Tm.ok] at k ⊢
    exact ⟨Tm.ok_mono h k.1, Tm.ok_mono h k.2.1, Tm.ok_mono h k.2.2⟩
  | .lett x a b, ns, ms, h, k => by
    simp only [Tm.ok] at k ⊢
    refine ⟨k.1, Tm.ok_mono h k.2.1, Tm.ok_mono (fun y hy => ?_) k.2.2⟩
    rcases List.mem_cons.mp hy with rfl | hy
    · exact List.mem_cons_self
    · exact List.mem_cons_of_mem _ (h y hy)
  | .halt w, ns, ms, h, k => by simp only [Tm.ok] at k ⊢; exact k
  | .call f as, ns, ms, h, k => by
    simp only [Tm.ok] at k ⊢
    exact ⟨k.1, Tm.oks_mono h k.2⟩
theorem Tm.oks_mono {fs : List (Str × Nat)} : ∀ {ts : List Tm} {ns ms : List Str}, (∀ x ∈ ns, x ∈ ms) → Tm.oks fs ns ts → Tm.oks fs ms ts
  | [], _, _, _, _ => by simp only [Tm.oks]
  | t :: ts, ns, ms, h, k => by
    simp only [Tm.oks] at k ⊢
    exact ⟨Tm.ok_mono h k.1, Tm.oks_mono h k.2⟩
end
theorem Tm.pure (t : Tm) : t.d.pure = true := by cases t <;> (simp only [Tm.d]; rfl)
@[simp] theorem tm_below {m : Nat} (t : Tm) : below m t.d = true := below_pure t.pure
theorem Tm.ds_pure : ∀ ts : List Tm, (Tm.ds ts).all D.pure = true
  | [] => by simp [Tm.ds]
  | t :: ts => by simp only [Tm.ds, List.all_cons, Tm.pure, Tm.ds_pure ts, Bool.and_self]
theorem Tm.ds_len : ∀ ts : List Tm, (Tm.ds ts).length = ts.length
  | [] => by simp [Tm.ds]
  | t :: ts => by simp [Tm.ds, Tm.ds_len ts]
theorem Tm.ds_map : ∀ ts : List Tm, Tm.ds ts = ts.map Tm.d
  | [] => by simp [Tm.ds]
  | t :: ts => by simp [Tm.ds, Tm.ds_map ts]
end DE
/-! GN4: terms drawn. -/
namespace DE
open PySem (Str PyData sizeLine)
def fsD (fs : List (Str × Nat)) : List D := fs.map fun p => .tup [.str p.1, .int (p.2 : Int)]
def nsD (ns : List Str) : D := .tup (ns.map D.str)
def FOk (fs : List (Str × Nat)) : Prop := ∀ p ∈ fs, wordB p.1 = true ∧ p.2 ≤ 3
def NOk (ns : List Str) : Prop := ∀ x ∈ ns, wordB x = true
theorem fsD_dat {fs : List (Str × Nat)} (h : FOk fs) : ∀ d ∈ fsD fs, Dat 1 d := fun d hd => by
  obtain ⟨p, hp, rfl⟩ := List.mem_map.mp hd
  refine .tup fun e he => ?_
  simp only [List.mem_cons, List.not_mem_nil, or_false] at he
  rcases he with rfl | rfl
  · exact .str (word_ok (h p hp).1)
  · exact .int
theorem nsD_dat {ns : List Str} (h : NOk ns) : Dat 1 (nsD ns) := .tup fun e he => by
  obtain ⟨x, hx, rfl⟩ := List.mem_map.mp he
  exact .str (word_ok (h x hx))
theorem bels_dat {n m : Nat} {ds : List D} (h : ∀ d ∈ ds, Dat n d) : belows m ds = true := belows_of fun d hd => dat_bel (h d hd)
section
variable {k n p : Nat} {S : Sto} {E : EE} {Q : D → Sto → Prop} {fs : List (Str × Nat)} {ns : List Str}
theorem eq_tup0 {ns : List Str} (h : NOk ns) : cmp .eq (nsD ns) (.tup []) S = some ns.isEmpty := by
  rw [eq_dat (nsD_dat h) (m := 1) (.tup (n := 0) fun _ h => by cases h) (by decide) (by decide) (by decide)]
  cases ns <;> simp [nsD, dP, PyData.eqv, PyData.eqvAll]
theorem ne_tup0 {ns : List Str} (h : NOk ns) : cmp .ne (nsD ns) (.tup []) S = some (!ns.isEmpty) := by
  have := eq_tup0 (S := S) h
  show (cmp .eq (nsD ns) (.tup []) S).map (!·) = _
  rw [this]
  rfl
/-! ### environments -/
theorem wipe_get {i : Nat} : ∀ {vs : List Nat} {env : Env}, i ∉ vs → (wipe env vs)[i]? = env[i]?
  | [], _, _ => rfl
  | v :: vs, env, h => by
    show ((wipe env vs).set v none)[i]? = _
    rw [List.getElem?_set_ne (fun e => h (by rw [← e]; exact List.mem_cons_self)), wipe_get fun z => h (List.mem_cons_of_mem _ z)]
theorem wipe_len : ∀ {vs : List Nat} {env : Env}, (wipe env vs).length = env.length
  | [], _ => rfl
  | v :: vs, env => by
    show ((wipe env vs).set v none).length = _
    rw [List.length_set, wipe_len]
/-! ### names put to names -/
def kv1 (y : Str) : D × D := (.str y, .bl true)
def pr1 (y : Str) : D := .tup [.str y, .bl true]
def adds (as : List Str) : List Str → List Str
  | [] => as
  | x :: xs => adds (if x ∈ as then as else as ++ [x]) xs
theorem dkPut_kv {as : List Str} {x : Str} : dkPut (as.map kv1) (.str x) (.bl true) = (if x ∈ as then as else as ++ [x]).map kv1 := by
  have an : ((as.map kv1).any fun p => eqF p.1 (.str x)) = decide (x ∈ as) := by
    rw [Bool.eq_iff_iff, List.any_eq_true, decide_eq_true_iff]
    constructor
    · rintro ⟨p, hp, hq⟩
      obtain ⟨y, hy, rfl⟩ := List.mem_map.mp hp
      have : y = x := of_decide_eq_true hq
      rw [← this]
      exact hy
    · intro h
      exact ⟨kv1 x, List.mem_map.mpr ⟨x, h, rfl⟩, decide_eq_true rfl⟩
  unfold dkPut
  rw [an]
  by_cases h : x ∈ as
  · rw [decide_eq_true h, if_pos h]
    simp only [List.map_map]
    refine List.map_congr_left fun y hy => ?_
    show (match eqF (kv1 y).1 (.str x) with | true => ((kv1 y).1, D.bl true) | false => kv1 y) = kv1 y
    cases eqF (kv1 y).1 (.str x) <;> rfl
  · rw [decide_eq_false h, if_neg h]
    simp [kv1]
theorem putAll_kv : ∀ {xs as : List Str}, putAll (as.map kv1) (xs.map kv1) = (adds as xs).map kv1
  | [], as => by simp [putAll, adds]
  | x :: xs, as => by
    show putAll (dkPut (as.map kv1) (.str x) (.bl true)) (xs.map kv1) = _
    rw [dkPut_kv, putAll_kv]
    rfl
theorem adds_mem {y : Str} : ∀ {xs as : List Str}, y ∈ adds as xs ↔ y ∈ as ∨ y ∈ xs
  | [], as => by simp [adds]
  | x :: xs, as => by
    unfold adds
    rw [adds_mem]
    split
    · rename_i h
      constructor
      · rintro (h1 | h1)
        · exact .inl h1
        · exact .inr (List.mem_cons_of_mem _ h1)
      · rintro (h1 | h1)
        · exact .inl h1
        · rcases List.mem_cons.mp h1 with rfl | h1
          · exact .inl h
          · exact .inr h1
    · simp only [List.mem_append, List.mem_cons, List.not_mem_nil, or_false]
      constructor
      · rintro ((h1 | h1) | h1)
        · exact .inl h1
        · exact .inr (.inl h1)
        · exact .inr (.inr h1)
      · rintro (h1 | h1 | h1)
        · exact .inl (.inl h1)
        · exact .inl (.inr h1)
        · exact .inr h1
theorem adds_len : ∀ {xs as : List Str}, (adds as xs).length ≤ as.length + xs.length
  | [], as => by simp [adds]
  | x :: xs, as => by
    unfold adds
    have := adds_len (xs := xs) (as := if x ∈ as then as else as ++ [x])
    split at this
    · rename_i h
      rw [if_pos h, List.length_cons]
      omega
    · rename_i h
      rw [if_neg h, List.length_cons]
      simp only [List.length_append, List.length_cons, List.length_nil] at this
      omega
theorem pairs_pr : ∀ {xs : List Str}, pairs S (xs.map pr1) = some (xs.map kv1)
  | [] => rfl
  | x :: xs => by
    show (match tupOf (pr1 x) with | some [k, v] => (match keyOk k with | true => (pairs S (xs.map pr1)).map ((k, v) :: ·) | false => none) | _ => none) = _
    rw [pairs_pr]
    rfl
theorem optStr_of : ∀ {xs : List Str}, optAll strOf ((xs.map kv1).map (fun p : D × D => p.1)) = some xs
  | [] => rfl
  | x :: xs => by
    have ih := optStr_of (xs := xs)
    simp only [List.map_cons, optAll]
    rw [ih]
    rfl
theorem str_pure {xs : List Str} : (xs.map D.str).all D.pure = true := by
  rw [List.all_eq_true]
  intro d hd
  obtain ⟨x, _, rfl⟩ := List.mem_map.mp hd
  rfl
theorem lstOf_ref {m : Nat} {ds : List D} (h : S[m]? = some (.lst ds)) : lstOf S (.ref m) = some (m, ds) := by
  unfold lstOf
  simp only [h]
theorem blt_dict_l {m : Nat} {ds : List D} {kvs : List (D × D)} (h : S[m]? = some (.lst ds)) (hp : pairs S ds = some kvs) : blt .dict [.ref m] S = .ok (.ref S.length) (S ++ [.dk (putAll [] kvs)]) := by
  show bDict (.ref m) S = _
  unfold bDict
  simp only [lstOf_ref h, hp]
theorem blt_sorted_d {m : Nat} {kvs : List (D × D)} {xs : List Str} (h : S[m]? = some (.dk kvs)) (hk : optAll strOf (kvs.map (fun p : D × D => p.1)) = some xs) (hl : xs.length < 64) : blt .sorted [.ref m] S = newL ((sortS xs).map .str) S := by
  show bSorted (.ref m) S = _
  unfold bSorted
  have : Nat.blt xs.length 64 = true := Nat.ble_eq_true_of_le hl
  simp only [h, hk, this]
theorem blt_tuple_l {m : Nat} {ds : List D} (h : S[m]? = some (.lst ds)) : blt .tuple [.ref m] S = .ok (mkT ds) S := by
  show bTuple (.ref m) S = _
  unfold bTuple seqOf
  simp only [h]
/-- tuple(sorted(dict(xs))) -/
theorem ext_ok {xs : List Str} (hl : xs.length < 64) (q : ∀ (ms : List Str) L, (∀ y, y ∈ ms ↔ y ∈ xs) → ms.length ≤ xs.length → Q (nsD ms) (S ++ L)) :
    WP (blt .dict [.ref S.length] (S ++ [.lst (xs.map pr1)])) E fun d S1 => WP (blt .sorted [d] S1) E fun d S1 => WP (blt .tuple [d] S1) E Q := by
  have e1 : blt .dict [.ref S.length] (S ++ [.lst (xs.map pr1)]) = .ok (.ref (S.length + 1)) (S ++ [.lst (xs.map pr1), .dk ((adds [] xs).map kv1)]) := by
    rw [blt_dict_l (ds := xs.map pr1) (by simp) pairs_pr, show putAll [] (xs.map kv1) = (adds [] xs).map kv1 from putAll_kv (as := [])]
    simp
  have le := adds_len (xs := xs) (as := [])
  rw [e1, wp_ok]
  have e2 : blt .sorted [.ref (S.length + 1)] (S ++ [.lst (xs.map pr1), .dk ((adds [] xs).map kv1)]) = newL ((sortS (adds [] xs)).map .str) (S ++ [.lst (xs.map pr1), .dk ((adds [] xs).map kv1)]) := by
    exact blt_sorted_d (kvs := (adds [] xs).map kv1) (by simp) optStr_of (by simp at le; omega)
  have pl : (sortS (adds [] xs)).length = (adds [] xs).length := (sortS_perm _).length_eq
  rw [e2, wp_newL]
  refine ⟨by rw [List.length_map, szl]; simp at le; omega, ?_⟩
  generalize hS : S ++ [.lst (xs.map pr1), .dk ((adds [] xs).map kv1)] = S2
  have e3 : blt .tuple [.ref S2.length] (S2 ++ [.lst ((sortS (adds [] xs)).map .str)]) = .ok (nsD (sortS (adds [] xs))) (S2 ++ [.lst ((sortS (adds [] xs)).map .str)]) := by
    rw [blt_tuple_l (ds := (sortS (adds [] xs)).map .str) (by simp), mkT_pure str_pure]
    rfl
  rw [e3, wp_ok, ← hS, List.append_assoc]
  refine q _ _ (fun y => ?_) (by rw [pl]; simpa using le)
  rw [(sortS_perm _).mem_iff, adds_mem]
  simp
theorem prs_ok {cf : CF} {xs : List Str} {env : Env} {Q : List D → Sto → Prop} (h13 : env.length = 13) (hl : xs.length < 1000) (q : Q (xs.map pr1) S) :
    WP (lcGo (lcB cf [10, 12] (.v 12) .nil (.tup (.cons (.loc 12) (.cons (.cst (.bl true)) .nil))) env) (.fix (xs.map .str)) fuel 0 [] S) E Q := by
  refine lc_each (fun i acc S' => S' = S ∧ acc = (xs.take i).map pr1) (by rw [List.length_map]; unfold fuel; omega) ⟨rfl, rfl⟩ (fun i d acc S' hd ⟨hS, ha⟩ => ?_) fun acc S' ⟨hS, ha⟩ => ?_
  · rw [List.getElem?_map] at hd
    obtain ⟨x, hx, rfl⟩ := Option.map_eq_some_iff.mp hd
    subst hS ha
    rw [wp_lcB]
    have e : ((wipe env [10, 12]).set 12 (some (.str x)))[12]? = some (some (.str x)) := by
      rw [List.getElem?_set_self (by rw [wipe_len, h13]; decide)]
    simp [bindT, e]
    refine ⟨rfl, ?_⟩
    simp [List.take_add_one, hx, pr1]
    rfl
  · subst hS ha
    rw [List.length_map, List.take_length]
    exact q
end
end DE
/-! GN5: terms drawn. -/
namespace DE
open PySem (Str PyData sizeLine)
/-- what is told of a term drawn at this depth -/
def ExprSpec (deep : Nat) : Prop := ∀ {k n p : Nat} {S : Sto} {E : EE} {Q : D → Sto → Prop} {fs : List (Str × Nat)} {ns : List Str}, HasCup n S → deep + 8 ≤ k → p ≠ n → S[p]? = some (.lst (fsD fs)) → FOk fs → fs.length < 1000 → NOk ns → ns.length + deep < 60 →
  (∀ (e : Tm) S', e.ok fs ns → e.sz + 2 ≤ 3 ^ (deep + 1) → e.dp ≤ deep + 2 → CupTo n S S' → Q e.d S') → WP (callF FT k c__law_expression [.ref n, .int deep, nsD ns, .ref p] S) E Q
abbrev argX : Ex := .call c__law_expression (.cons (.loc 0) (.cons (.bin .sub (.loc 1) (.cst (.int 1))) (.cons (.loc 2) (.cons (.loc 3) .nil))))
section
variable {k n p : Nat} {S : Sto} {E : EE} {Q : D → Sto → Prop} {fs : List (Str × Nat)} {ns : List Str}
theorem Tm.szs_app : ∀ (ts us : List Tm), Tm.szs (ts ++ us) = Tm.szs ts + Tm.szs us
  | [], us => by simp [Tm.szs]
  | t :: ts, us => by simp only [List.cons_append, Tm.szs, Tm.szs_app ts us]; omega
theorem Tm.dps_app : ∀ (ts us : List Tm), Tm.dps (ts ++ us) = max (Tm.dps ts) (Tm.dps us)
  | [], us => by simp [Tm.dps]
  | t :: ts, us => by simp only [List.cons_append, Tm.dps, Tm.dps_app ts us]; omega
theorem Tm.oks_app : ∀ {ts us : List Tm}, Tm.oks fs ns ts → Tm.oks fs ns us → Tm.oks fs ns (ts ++ us)
  | [], us, _, h => h
  | t :: ts, us, h, h2 => by
    simp only [List.cons_append, Tm.oks] at h ⊢
    exact ⟨h.1, Tm.oks_app h.2 h2⟩
theorem args_ok {deep : Nat} (ih : ExprSpec deep) {env : Env} {m : Nat} {Q : List D → Sto → Prop} (e0 : env[0]? = some (some (.ref n))) (e1 : env[1]? = some (some (.int ((deep : Int) + 1)))) (e2 : env[2]? = some (some (nsD ns))) (e3 : env[3]? = some (some (.ref p))) (e13 : env.length = 13)
    (h : HasCup n S) (hk : deep + 8 ≤ k) (hp : p ≠ n) (hfs : S[p]? = some (.lst (fsD fs))) (hF : FOk fs) (hF2 : fs.length < 1000) (hN : NOk ns) (hl : ns.length + deep < 60) (hm : m ≤ 8)
    (q : ∀ (ts : List Tm) S', ts.length = m → Tm.oks fs ns ts → Tm.szs ts + 2 * m ≤ m * 3 ^ (deep + 1) → Tm.dps ts ≤ deep + 2 → CupTo n S S' → Q (Tm.ds ts) S') :
    WP (lcGo (lcB (callF FT k) [10, 11] (.v 11) .nil argX env) (.fix ((List.range m).map fun (i : Nat) => D.int i)) fuel 0 [] S) E Q := by
  refine lc_each (fun i acc S' => CupTo n S S' ∧ ∃ ts : List Tm, acc = Tm.ds ts ∧ ts.length = i ∧ Tm.oks fs ns ts ∧ Tm.szs ts + 2 * i ≤ i * 3 ^ (deep + 1) ∧ Tm.dps ts ≤ deep + 2) (by rw [List.length_map, List.length_range]; unfold fuel; omega)
    ⟨CupTo.refl h, [], by simp [Tm.ds], rfl, by simp [Tm.oks], by simp [Tm.szs], by simp [Tm.dps]⟩ (fun i d acc S' hd ⟨c, ts, ha, hi, ho, hz, hdp⟩ => ?_) fun acc S' ⟨c, ts, ha, hi, ho, hz, hdp⟩ => ?_
  · rw [wp_lcB]
    have g : ∀ j, j < 10 → ((wipe env [10, 11]).set 11 (some d))[j]? = env[j]? := fun j hj => by
      rw [List.getElem?_set_ne (by omega), wipe_get (by simp; omega)]
    have g0 := (g 0 (by decide)).trans e0
    have g1 := (g 1 (by decide)).trans e1
    have g2 := (g 2 (by decide)).trans e2
    have g3 := (g 3 (by decide)).trans e3
    simp [bindT, g0, g1, g2, g3, bin_sub]
    refine ih (c.has h) hk hp ((c.get hp).trans hfs) hF hF2 hN hl fun e S2 eo ez ed c2 => ?_
    refine ⟨tm_below e, ?_⟩
    rw [c2.take, ha]
    refine ⟨c.trans c2, ts ++ [e], by simp [Tm.ds_map], by simp [hi], Tm.oks_app ho (by simp [Tm.oks, eo]), ?_, ?_⟩
    · rw [Tm.szs_app]
      simp only [Tm.szs]
      rw [show (i + 1) * 3 ^ (deep + 1) = i * 3 ^ (deep + 1) + 3 ^ (deep + 1) from Nat.succ_mul _ _]
      omega
    · rw [Tm.dps_app]
      simp only [Tm.dps]
      omega
  · rw [ha]
    have : ts.length = m := by rw [hi, List.length_map, List.length_range]
    rw [List.length_map, List.length_range] at hz
    exact q ts S' this ho hz hdp c
@[simp] theorem mkT_nil : mkT [] = .tup [] := rfl
theorem mkT2 {a b : D} (h1 : a.pure = true) (h2 : b.pure = true) : mkT [a, b] = .tup [a, b] := mkT_pure (by simp [h1, h2])
theorem mkT3 {a b c : D} (h1 : a.pure = true) (h2 : b.pure = true) (h3 : c.pure = true) : mkT [a, b, c] = .tup [a, b, c] := mkT_pure (by simp [h1, h2, h3])
theorem mkT4 {a b c d : D} (h1 : a.pure = true) (h2 : b.pure = true) (h3 : c.pure = true) (h4 : d.pure = true) : mkT [a, b, c, d] = .tup [a, b, c, d] := mkT_pure (by simp [h1, h2, h3, h4])
theorem pow3 (d : Nat) : 3 ≤ 3 ^ (d + 1) := by
  have : 1 ≤ 3 ^ d := Nat.one_le_pow _ _ (by decide)
  rw [Nat.pow_succ]
  omega
/-- a word of a list of words -/
theorem some_words {xs : List Str} (h : HasCup n S) (hk : 2 ≤ k) (h0 : 0 < xs.length) (h2 : xs.length < 1000) (q : ∀ x S', x ∈ xs → CupTo n S S' → Q (.str x) (S' ++ [.lst (xs.map .str)])) : WP (callF FT k c__law_some [.ref n, .ref S.length] (S ++ [.lst (xs.map .str)])) E Q := by
  refine some_new h hk (by simpa using h0) (by rw [List.length_map]; omega) (belows_pure str_pure) fun d S' hd c => ?_
  obtain ⟨x, hx, rfl⟩ := List.mem_map.mp hd
  exact q x S' hx c
/-- the ends of a term -/
theorem end_ok {e : Tm} {d : D} {deep : Nat} {S1 L : Sto} (hd : d = e.d) (ho : e.ok fs ns) (hz : e.sz + 2 ≤ 3 ^ (deep + 1)) (hdp : e.dp ≤ deep + 2) (c : CupTo n S S1)
    (q : ∀ (e : Tm) S', e.ok fs ns → e.sz + 2 ≤ 3 ^ (deep + 1) → e.dp ≤ deep + 2 → CupTo n S S' → Q e.d S') : WP (fin S.length d (S1 ++ L)) E Q := by
  subst hd
  refine fin_pure (tm_below e) ?_
  rw [c.takeA]
  exact q e S1 ho hz hdp c
theorem end_ok0 {e : Tm} {d : D} {deep : Nat} {S1 : Sto} (hd : d = e.d) (ho : e.ok fs ns) (hz : e.sz + 2 ≤ 3 ^ (deep + 1)) (hdp : e.dp ≤ deep + 2) (c : CupTo n S S1)
    (q : ∀ (e : Tm) S', e.ok fs ns → e.sz + 2 ≤ 3 ^ (deep + 1) → e.dp ≤ deep + 2 → CupTo n S S' → Q e.d S') : WP (fin S.length d S1) E Q := by
  have := end_ok (L := []) (E := E) hd ho hz hdp c q
  rwa [List.append_nil] at this
/-- the three first ways -/
theorem expr_low {r : Int} {deep : Nat} {S1 : Sto} {E' : EE} {N : Prop} (h : HasCup n S) (hk : 7 ≤ k) (h1 : 0 ≤ r) (h2 : r < 3) (hN : NOk ns) (hl : ns.length < 60) (c1 : CupTo n S S1)
    (q : ∀ (e : Tm) S', e.ok fs ns → e.sz + 2 ≤ 3 ^ (deep + 1) → e.dp ≤ deep + 2 → CupTo n S S' → Q e.d S') :
    (WO (cmp .eq (.int r) (.int 0) S1) fun k_1 => TB (.bl k_1) (WP (callF FT k c__law_value [.ref n, .int 1] S1) E' fun d S1 => WP (fin S.length (mkT [.str "value", d]) S1) E Q)
      (WO (cmp .eq (.int r) (.int 1) S1) fun k_2 => TB (.bl k_2)
        (WO (cmp .eq (nsD ns) (.tup []) S1) fun k_3 => TB (.bl k_3) (WP (callF FT k c__law_value [.ref n, .int 1] S1) E' fun d S1 => WP (fin S.length (mkT [.str "value", d]) S1) E Q)
          (WO (cmp .lt (.int r) (.int 3) S1) fun k_4 => TB (.bl k_4)
            (WO (cmp .ne (nsD ns) (.tup []) S1) fun k_5 => TB (.bl k_5) (WP (callF FT k c__law_some [.ref n, nsD ns] S1) E' fun d S1 => WP (fin S.length (mkT [.str "name", d]) S1) E Q)
              (WP (callF FT k c__law_roll [.ref n, .int 5] S1) E' fun d S1 => WP (fin S.length (mkT [.str "value", d]) S1) E Q)) N))
        (WO (cmp .lt (.int r) (.int 3) S1) fun k_4 => TB (.bl k_4)
            (WO (cmp .ne (nsD ns) (.tup []) S1) fun k_5 => TB (.bl k_5) (WP (callF FT k c__law_some [.ref n, nsD ns] S1) E' fun d S1 => WP (fin S.length (mkT [.str "name", d]) S1) E Q)
              (WP (callF FT k c__law_roll [.ref n, .int 5] S1) E' fun d S1 => WP (fin S.length (mkT [.str "value", d]) S1) E Q)) N))) := by
  have hc1 := c1.has h
  have p3 := pow3 deep
  have val : WP (callF FT k c__law_value [.ref n, .int 1] S1) E' fun d S1 => WP (fin S.length (mkT [.str "value", d]) S1) E Q := by
    refine value_ok 1 hc1 (by omega) fun v S2 o z dd c2 => ?_
    rw [mkT2 rfl v.pure]
    exact end_ok0 (e := .val v) (by simp [Tm.d]) (by simp only [Tm.ok]; exact ⟨o, by omega, by omega⟩) (by simp only [Tm.sz]; omega) (by simp only [Tm.dp]; omega) (c1.trans c2) q
  have low : (WO (cmp .lt (.int r) (.int 3) S1) fun k_4 => TB (.bl k_4)
            (WO (cmp .ne (nsD ns) (.tup []) S1) fun k_5 => TB (.bl k_5) (WP (callF FT k c__law_some [.ref n, nsD ns] S1) E' fun d S1 => WP (fin S.length (mkT [.str "name", d]) S1) E Q)
              (WP (callF FT k c__law_roll [.ref n, .int 5] S1) E' fun d S1 => WP (fin S.length (mkT [.str "value", d]) S1) E Q)) N) := by
    rw [lt_int, wo_some, decide_eq_true h2, tb_t, ne_tup0 hN, wo_some]
    refine tb_c (fun hb => ?_) (fun hb => ?_)
    · have h0 : 0 < ns.length := by cases ns with | nil => cases hb | cons _ _ => simp
      refine some_t hc1 (by omega) (by simpa using h0) (by rw [List.length_map]; omega) (belows_pure str_pure) fun d S2 hd c2 => ?_
      obtain ⟨x, hx, rfl⟩ := List.mem_map.mp hd
      rw [mkT2 rfl rfl]
      exact end_ok0 (e := .name x) (by simp [Tm.d]) (by simp only [Tm.ok]; exact ⟨hx, hN x hx⟩) (by simp only [Tm.sz]; omega) (by simp only [Tm.dp]; omega) (c1.trans c2) q
    · refine roll_ok hc1 (by omega) (by decide) (by decide) fun r2 S2 h3 h4 c2 => ?_
      rw [mkT2 rfl rfl]
      exact end_ok0 (e := .val (.int r2)) (by simp [Tm.d, Vl.d]) (by simp only [Tm.ok]; exact ⟨⟨by omega, by omega⟩, by simp [Vl.sz], by simp [Vl.dp]⟩) (by simp only [Tm.sz]; omega) (by simp only [Tm.dp]; omega) (c1.trans c2) q
  rw [eq_int, wo_some]
  refine tb_p (fun _ => val) (fun _ => ?_)
  rw [eq_int, wo_some]
  refine tb_p (fun _ => ?_) (fun _ => low)
  rw [eq_tup0 hN, wo_some]
  exact tb_c (fun _ => val) (fun _ => low)
theorem expr0 : ExprSpec 0 := by
  intro k n p S E Q fs ns h hk hp hfs hF hF2 hN hl q
  obtain ⟨k, rfl⟩ : ∃ j, k = j + 1 := ⟨k - 1, by omega⟩
  refine call_wp (fn := e__law_expression.fn) rfl rfl ?_
  generalize (fun c x S1 => below S.length x = true ∧ E c x (S1.take S.length) : EE) = E'
  show WX (execs _ b__law_expression [some (.ref n), some (.int 0), some (nsD ns), some (.ref p), none, none, none, none, none, none, none, none, none] S) _ _
  unfold b__law_expression
  simp
  refine roll_ok h (by omega) (by decide) (by decide) fun r S1 h1 h2 c1 => ?_
  exact expr_low h (by omega) h1 h2 hN (by omega) c1 q
theorem bin_addT {as bs : List D} (h : as.length + bs.length ≤ sizeLine) : bin .add (.tup as) (.tup bs) S = .ok (mkT (as ++ bs)) S := by
  show (match tupOf (.tup as), tupOf (.tup bs) with
    | some ds, some es => (match Nat.ble (ds.length + es.length) sizeLine with
      | true => R.ok (mkT (ds ++ es)) S
      | false => .no)
    | _, _ => .no) = _
  simp only [tupOf, Nat.ble_eq_true_of_le h]
theorem add_ns {x : Str} (h : ns.length < 1000) : bin .add (nsD ns) (.tup [.str x]) S = .ok (nsD (ns ++ [x])) S := by
  show bin .add (.tup (ns.map .str)) (.tup [.str x]) S = _
  rw [bin_addT (by rw [List.length_map, szl]; simp; omega), mkT_pure (by rw [List.all_append, str_pure]; rfl)]
  unfold nsD
  rw [List.map_append]
  rfl
theorem in_words {x : Str} {xs : List Str} : cmp .isin (.str x) (.tup (xs.map .str)) S = some (decide (x ∈ xs)) := by
  show inD S (.str x) (.tup (xs.map .str)) = _
  unfold inD
  have e1 : (flat (.str x) && (xs.map D.str).all flat) = true := by
    have : (xs.map D.str).all flat = true := by
      rw [List.all_eq_true]
      intro d hd
      obtain ⟨y, _, rfl⟩ := List.mem_map.mp hd
      rfl
    rw [this]
    rfl
  have e2 : ((xs.map D.str).any fun d => eqF d (.str x)) = decide (x ∈ xs) := by
    rw [Bool.eq_iff_iff, List.any_eq_true, decide_eq_true_iff]
    constructor
    · rintro ⟨d, hd, hq⟩
      obtain ⟨y, hy, rfl⟩ := List.mem_map.mp hd
      have : y = x := of_decide_eq_true hq
      rw [← this]
      exact hy
    · intro h
      exact ⟨.str x, List.mem_map.mpr ⟨x, h, rfl⟩, decide_eq_true rfl⟩
  simp only [tupOf, e1, e2]
def ops14 : List Str := ["add", "sub", "mul", "less", "same", "pair", "pair", "head", "tail", "isint", "ispair", "quot", "rest", "isword"]
theorem in_head5 {x : Str} : cmp .isin (.str x) (.tup [.str "head", .str "tail", .str "isint", .str "isword", .str "ispair"]) S = some (decide (x ∈ one5)) := in_words (xs := one5)
theorem ops_two {x : Str} (h : x ∈ ops14) (h2 : x ∉ one5) : x ∈ two8 := by
  revert x
  decide
theorem Tm.dp_sz1 {t : Tm} (h : t.sz ≤ 1) : t.dp ≤ 1 := by
  have pos : ∀ t : Tm, 1 ≤ t.sz := fun t => by cases t <;> (simp only [Tm.sz]; omega)
  cases t with
  | doo op as =>
    simp only [Tm.sz] at h
    cases as with
    | nil => simp [Tm.dp, Tm.dps]
    | cons a as =>
      simp only [Tm.szs] at h
      have := pos a
      omega
  | call f as =>
    simp only [Tm.sz] at h
    cases as with
    | nil => simp [Tm.dp, Tm.dps]
    | cons a as =>
      simp only [Tm.szs] at h
      have := pos a
      omega
  | iff t a b =>
    simp only [Tm.sz] at h
    have := pos t
    omega
  | lett x a b =>
    simp only [Tm.sz] at h
    have := pos a
    omega
  | _ => simp [Tm.dp]
theorem expr_succ {deep : Nat} (ih0 : ExprSpec 0) (ih : ExprSpec deep) : ExprSpec (deep + 1) := by
  intro k n p S E Q fs ns h hk hp hfs hF hF2 hN hl q
  obtain ⟨k, rfl⟩ : ∃ j, k = j + 1 := ⟨k - 1, by omega⟩
  refine call_wp (fn := e__law_expression.fn) rfl rfl ?_
  generalize (fun c x S1 => below S.length x = true ∧ E c x (S1.take S.length) : EE) = E'
  show WX (execs _ b__law_expression [some (.ref n), some (.int ((deep + 1 : Nat) : Int)), some (nsD ns), some (.ref p), none, none, none, none, none, none, none, none, none] S) _ _
  have dpos : (0 : Int) < (deep : Int) + 1 := by omega
  have p3 := pow3 deep
  have p4 : 3 ^ (deep + 1 + 1) = 3 * 3 ^ (deep + 1) := by rw [Nat.pow_succ, Nat.mul_comm]
  unfold b__law_expression
  simp [decide_eq_true dpos, bin_sub]
  refine roll_ok h (by omega) (by decide) (by decide) fun r S1 h1 h2 c1 => ?_
  have hc1 := c1.has h
  have hf1 := (c1.get hp).trans hfs
  by_cases h3 : r < 3
  · exact expr_low h (by omega) h1 h3 hN (by omega) c1 q
  simp only [eq_int, lt_int, wo_some, decide_eq_false h3, decide_eq_false (show ¬ r = 0 by omega), decide_eq_false (show ¬ r = 1 by omega), tb_f]
  by_cases h4 : r < 6
  · simp only [decide_eq_true h4, tb_t]
    refine some_words (xs := ops14) hc1 (by omega) (by decide) (by decide) fun x S2 hx c2 => ?_
    have c12 := c1.trans c2
    rw [mkT_pure (by rfl)]
    rw [in_head5, wo_some]
    have hc2 : HasCup n (S2 ++ [.lst (ops14.map D.str)]) := (c2.has hc1).app
    have hf2 : (S2 ++ [.lst (ops14.map D.str)])[p]? = some (.lst (fsD fs)) := by
      rw [List.getElem?_append_left (by have := (List.getElem?_eq_some_iff.mp hf1).1; rw [c2.len]; exact this)]
      exact (c2.get hp).trans hf1
    have fin2 : ∀ (ts : List Tm) (m : Nat) S3, ((x ∈ one5 ∧ ts.length = 1) ∨ (x ∈ two8 ∧ ts.length = 2)) → ts.length = m → m ≤ 2 → Tm.oks fs ns ts → Tm.szs ts + 2 * m ≤ m * 3 ^ (deep + 1) → Tm.dps ts ≤ deep + 2 → CupTo n (S2 ++ [.lst (ops14.map D.str)]) S3 →
        (Tm.ds ts).length ≤ 16777216 ∧ WP (blt .tuple [.ref S3.length] (S3 ++ [.lst (Tm.ds ts)])) E' fun d S1 => WP (fin S.length (mkT [.str "do", .str x, d]) S1) E Q := fun ts m S3 har hm hm2 ho hz hd c3 => by
      refine ⟨by rw [Tm.ds_len]; omega, ?_⟩
      rw [blt_tuple_l (ds := Tm.ds ts) (by simp), wp_ok, mkT_pure (Tm.ds_pure ts), mkT3 rfl rfl rfl]
      obtain ⟨S4, rfl, c4⟩ := c3.app (by rw [c2.len]; exact hc1.lt)
      rw [List.append_assoc]
      refine end_ok (e := .doo x ts) (by simp [Tm.d]) (by simp only [Tm.ok]; exact ⟨har, ho⟩) ?_ (by simp only [Tm.dp]; omega) (c12.trans c4) q
      simp only [Tm.sz]
      rw [p4]
      have : m = 1 ∨ m = 2 := by omega
      rcases this with rfl | rfl <;> omega
    refine tb_p (fun hx1 => ?_) (fun hx1 => ?_)
    · simp only [intOf, wo_some]
      refine ⟨by decide, ?_⟩
      refine args_ok ih rfl rfl rfl rfl rfl hc2 (by omega) hp hf2 hF hF2 hN (by omega) (m := 1) (by decide) fun ts S3 hl3 ho hz hd c3 => ?_
      exact fin2 ts 1 S3 (.inl ⟨hx1, hl3⟩) hl3 (by decide) ho hz hd c3
    · simp only [intOf, wo_some]
      refine ⟨by decide, ?_⟩
      refine args_ok ih rfl rfl rfl rfl rfl hc2 (by omega) hp hf2 hF hF2 hN (by omega) (m := 2) (by decide) fun ts S3 hl3 ho hz hd c3 => ?_
      exact fin2 ts 2 S3 (.inr ⟨ops_two hx hx1, hl3⟩) hl3 (by decide) ho hz hd c3
  simp only [decide_eq_false h4, tb_f]
  by_cases h5 : r < 8
  · simp only [decide_eq_true h5, tb_t]
    refine some_words (xs := ["less", "same"]) hc1 (by omega) (by decide) (by decide) fun x S2 hx c2 => ?_
    have c12 := c1.trans c2
    generalize hL : [O.lst (List.map D.str ["less", "same"])] = L
    have hl2 : n < S2.length := by rw [c2.len]; exact hc1.lt
    have hc2 : HasCup n (S2 ++ L) := (c2.has hc1).app
    have hf2 : (S2 ++ L)[p]? = some (.lst (fsD fs)) := by
      rw [List.getElem?_append_left (by have := (List.getElem?_eq_some_iff.mp hf1).1; rw [c2.len]; exact this)]
      exact (c2.get hp).trans hf1
    refine ih0 hc2 (by omega) hp hf2 hF hF2 hN (by omega) fun t1 S3 o1 z1 d1 c3 => ?_
    refine ih0 (c3.has hc2) (by omega) hp ((c3.get hp).trans hf2) hF hF2 hN (by omega) fun t2 S4 o2 z2 d2 c4 => ?_
    have c34 := c3.trans c4
    refine ih (c34.has hc2) (by omega) hp ((c34.get hp).trans hf2) hF hF2 hN (by omega) fun t3 S5 o3 z3 d3 c5 => ?_
    have c35 := c34.trans c5
    refine ih (c35.has hc2) (by omega) hp ((c35.get hp).trans hf2) hF hF2 hN (by omega) fun t4 S6 o4 z4 d4 c6 => ?_
    obtain ⟨S7, rfl, c7⟩ := (c35.trans c6).app hl2
    have hx2 : x ∈ two8 := by revert x; decide
    rw [mkT2 t1.pure t2.pure, mkT3 rfl rfl rfl, mkT4 rfl rfl t3.pure t4.pure]
    refine end_ok (e := .iff (.doo x [t1, t2]) t3 t4) (by simp [Tm.d, Tm.ds]) (by simp only [Tm.ok, Tm.oks]; exact ⟨⟨.inr ⟨hx2, rfl⟩, o1, o2, trivial⟩, o3, o4⟩) ?_ ?_ (c12.trans c7) q
    · simp only [Tm.sz, Tm.szs]
      rw [p4]
      simp at z1 z2
      omega
    · simp only [Tm.dp, Tm.dps]
      simp at d1 d2
      have b1 : t1.dp ≤ 1 := Tm.dp_sz1 (by omega)
      have b2 : t2.dp ≤ 1 := Tm.dp_sz1 (by omega)
      omega
  simp only [decide_eq_false h5, tb_f]
  by_cases h6 : r = 8
  · simp only [decide_eq_true h6, tb_t]
    refine some_words (xs := ["x", "y", "z"]) hc1 (by omega) (by decide) (by decide) fun x S2 hx c2 => ?_
    have c12 := c1.trans c2
    generalize hL : [O.lst (List.map D.str ["x", "y", "z"])] = L
    have hl2 : n < S2.length := by rw [c2.len]; exact hc1.lt
    have hc2 : HasCup n (S2 ++ L) := (c2.has hc1).app
    have hf2 : (S2 ++ L)[p]? = some (.lst (fsD fs)) := by
      rw [List.getElem?_append_left (by have := (List.getElem?_eq_some_iff.mp hf1).1; rw [c2.len]; exact this)]
      exact (c2.get hp).trans hf1
    have hw : wordB x = true := by revert x; decide
    refine ih hc2 (by omega) hp hf2 hF hF2 hN (by omega) fun t1 S3 o1 z1 d1 c3 => ?_
    rw [mkT_pure (show [D.str x].all D.pure = true from rfl), add_ns (by omega), wp_ok]
    show WP (lcGo _ (.fix ((ns ++ [x]).map D.str)) fuel 0 [] S3) _ _
    refine prs_ok rfl (by simp; omega) ?_
    refine ⟨by simp; omega, ?_⟩
    refine ext_ok (by simp; omega) fun ms L2 hms hml => ?_
    have c3l := c3.len
    have hNm : NOk ms := fun y hy => by
      rcases List.mem_append.mp ((hms y).mp hy) with h' | h'
      · exact hN y h'
      · rw [List.mem_singleton.mp h']; exact hw
    have hc3 := c3.has hc2
    have hf3 := (c3.get hp).trans hf2
    refine ih (hc3.app (L := L2)) (by omega) hp (by rw [List.getElem?_append_left (List.getElem?_eq_some_iff.mp hf3).1]; exact hf3) hF hF2 hNm (by simp at hml; omega) fun t2 S4 o2 z2 d2 c4 => ?_
    obtain ⟨S5, rfl, c5⟩ := c4.app hc3.lt
    obtain ⟨S6, rfl, c6⟩ := (c3.trans c5).app hl2
    rw [mkT4 rfl rfl t1.pure t2.pure, List.append_assoc]
    have o2' : Tm.ok fs (x :: ns) t2 := Tm.ok_mono (fun y hy => by
      rcases List.mem_append.mp ((hms y).mp hy) with h' | h'
      · exact List.mem_cons_of_mem _ h'
      · rw [List.mem_singleton.mp h']; exact List.mem_cons_self) o2
    refine end_ok (e := .lett x t1 t2) (by simp [Tm.d]) (by simp only [Tm.ok]; exact ⟨hw, o1, o2'⟩) ?_ ?_ (c12.trans c6) q
    · simp only [Tm.sz]
      rw [p4]
      omega
    · simp only [Tm.dp]
      omega
  simp only [decide_eq_false h6, tb_f]
  have lp : p < S1.length := (List.getElem?_eq_some_iff.mp hf1).1
  have hfe : (S1 ++ [O.lst []])[p]? = some (.lst (fsD fs)) := by rw [List.getElem?_append_left lp]; exact hf1
  have hce : HasCup n (S1 ++ [O.lst []]) := hc1.app
  have halt : ∀ {S2 : Sto} {x : Str} {L : Sto}, CupTo n S S2 → x ∈ (["bad", "stop"] : List Str) → WP (fin S.length (mkT [.str "halt", .str x]) (S2 ++ L)) E Q := fun {S2 x L} c hx => by
    have hw : wordB x = true := by revert x; decide
    rw [mkT2 rfl rfl]
    exact end_ok (e := .halt x) (by simp [Tm.d]) (by simp only [Tm.ok]; exact hw) (by simp only [Tm.sz]; omega) (by simp only [Tm.dp]; omega) c q
  rw [eq_nil hfe (by simp) (fsD_dat hF) (by decide), wo_some]
  refine tb_c (fun hb => ?_) (fun hb => ?_)
  · rw [show D.ref (S1.length + 1) = D.ref (S1 ++ [O.lst []]).length by simp, show S1 ++ [O.lst [], O.lst [D.str "bad", D.str "stop"]] = (S1 ++ [O.lst []]) ++ [O.lst [D.str "bad", D.str "stop"]] by simp]
    refine some_words (xs := ["bad", "stop"]) hce (by omega) (by decide) (by decide) fun x S2 hx c2 => ?_
    obtain ⟨S3, rfl, c3⟩ := c2.app hc1.lt
    rw [List.append_assoc]
    exact halt (c1.trans c3) hx
  · refine roll_ok hce (by omega) (by decide) (by decide) fun r3 S2 g1 g2 c2 => ?_
    obtain ⟨S3, rfl, c3⟩ := c2.app hc1.lt
    have c13 := c1.trans c3
    have hc3 := c3.has hc1
    have hf3 := (c3.get hp).trans hf1
    have lp3 : p < S3.length := by rw [c3.len]; exact lp
    simp only [eq_int, wo_some]
    refine tb_p (fun hz => ?_) (fun hz => ?_)
    · refine some_words (xs := ["bad", "stop"]) (c2.has hce) (by omega) (by decide) (by decide) fun x S4 hx c4 => ?_
      obtain ⟨S5, rfl, c5⟩ := c4.app hc3.lt
      rw [List.append_assoc]
      exact halt (c13.trans c5) hx
    · have hf3e : (S3 ++ [O.lst []])[p]? = some (.lst (fsD fs)) := by rw [List.getElem?_append_left lp3]; exact hf3
      have hne : 0 < (fsD fs).length := by
        cases hq : fsD fs with
        | nil => rw [hq] at hb; cases hb
        | cons _ _ => simp
      refine some_l (c2.has hce) hp hf3e hne (by unfold fsD; rw [List.length_map]; omega) (bels_dat (fsD_dat hF)) (by omega) fun d S4 hd c4 => ?_
      obtain ⟨S5, rfl, c5⟩ := c4.app hc3.lt
      obtain ⟨⟨f, a⟩, hfa, rfl⟩ := List.mem_map.mp hd
      obtain ⟨w1, w2⟩ := hF _ hfa
      simp only at w1 w2
      have c15 := c13.trans c5
      have hc5 := c5.has hc3
      have hf5 : (S5 ++ [O.lst []])[p]? = some (.lst (fsD fs)) := by rw [List.getElem?_append_left (by rw [c5.len]; exact lp3)]; exact (c5.get hp).trans hf3
      simp [bindT, tupOf, setMany, intOf]
      refine ⟨by omega, ?_⟩
      refine args_ok ih rfl rfl rfl rfl rfl (hc5.app (L := [O.lst []])) (by omega) hp hf5 hF hF2 hN (by omega) (m := a) (by omega) fun ts S6 hl3 ho hz hd6 c6 => ?_
      refine ⟨by rw [Tm.ds_len]; omega, ?_⟩
      rw [blt_tuple_l (ds := Tm.ds ts) (by simp), wp_ok, mkT_pure (Tm.ds_pure ts), mkT3 rfl rfl rfl]
      obtain ⟨S7, rfl, c7⟩ := c6.app hc5.lt
      rw [List.append_assoc]
      refine end_ok (e := .call f ts) (by simp [Tm.d]) (by simp only [Tm.ok]; exact ⟨⟨by rw [hl3]; exact hfa, w1, by omega⟩, ho⟩) ?_ (by simp only [Tm.dp]; omega) (c15.trans c7) q
      simp only [Tm.sz]
      rw [p4]
      have : a = 0 ∨ a = 1 ∨ a = 2 ∨ a = 3 := by omega
      rcases this with rfl | rfl | rfl | rfl <;> omega
theorem expr_ok : ∀ deep, ExprSpec deep
  | 0 => expr0
  | deep + 1 => expr_succ expr0 (expr_ok deep)
end
end DE
/-! GN6: loops and programs drawn. -/
namespace DE
open PySem (Str PyData sizeLine)
section
variable {k n p : Nat} {S : Sto} {E : EE} {Q : D → Sto → Prop} {fs : List (Str × Nat)} {ns : List Str}
theorem wxs_app {cf : CF} {Q : Fl → Env → Sto → Prop} : ∀ {a b : List Ss} {env : Env} {S : Sto}, WX (execs cf (a ++ b) env S) E Q = WX (execs cf a env S) E (nxt Q fun e S1 => WX (execs cf b e S1) E Q)
  | [], b, env, S => by rw [List.nil_append, wxs_nil, nxt_nx]
  | s :: a, b, env, S => by
    rw [List.cons_append, wxs_cons, wxs_cons]
    congr 1
    funext f e S1
    cases f with
    | nx => exact wxs_app (a := a) (b := b) (env := e) (S := S1)
    | _ => rfl
mutual
theorem Tm.ok_fs {fs gs : List (Str × Nat)} (h : ∀ x ∈ fs, x ∈ gs) : ∀ {t : Tm} {ns : List Str}, Tm.ok fs ns t → Tm.ok gs ns t
  | .name x, ns, k => by simp only [Tm.ok] at k ⊢; exact k
  | .val v, ns, k => by simp only [Tm.ok] at k ⊢; exact k
  | .doo op as, ns, k => by
    simp only [Tm.ok] at k ⊢
    exact ⟨k.1, Tm.oks_fs h k.2⟩
  | .iff t a b, ns, k => by
    simp only [Tm.ok] at k ⊢
    exact ⟨Tm.ok_fs h k.1, Tm.ok_fs h k.2.1, Tm.ok_fs h k.2.2⟩
  | .lett x a b, ns, k => by
    simp only [Tm.ok] at k ⊢
    exact ⟨k.1, Tm.ok_fs h k.2.1, Tm.ok_fs h k.2.2⟩
  | .halt w, ns, k => by simp only [Tm.ok] at k ⊢; exact k
  | .call f as, ns, k => by
    simp only [Tm.ok] at k ⊢
    exact ⟨⟨h _ k.1.1, k.1.2⟩, Tm.oks_fs h k.2⟩
theorem Tm.oks_fs {fs gs : List (Str × Nat)} (h : ∀ x ∈ fs, x ∈ gs) : ∀ {ts : List Tm} {ns : List Str}, Tm.oks fs ns ts → Tm.oks gs ns ts
  | [], _, _ => by simp only [Tm.oks]
  | t :: ts, ns, k => by
    simp only [Tm.oks] at k ⊢
    exact ⟨Tm.ok_fs h k.1, Tm.oks_fs h k.2⟩
end
/-- a term of a list of terms -/
theorem some_terms {ds : List D} {ts : List Tm} (hds : ds = ts.map Tm.d) (h : HasCup n S) (hk : 2 ≤ k) (h0 : 0 < ts.length) (h2 : ts.length < 1000) (q : ∀ t S', t ∈ ts → CupTo n S S' → Q t.d (S' ++ [.lst (ts.map Tm.d)])) : WP (callF FT k c__law_some [.ref n, .ref S.length] (S ++ [.lst ds])) E Q := by
  subst hds
  refine some_new h hk (by simpa using h0) (by rw [List.length_map]; omega) (belows_of fun d hd => ?_) fun d S' hd c => ?_
  · obtain ⟨t, _, rfl⟩ := List.mem_map.mp hd
    exact tm_below t
  · obtain ⟨t, ht, rfl⟩ := List.mem_map.mp hd
    exact q t S' ht c
@[simp] theorem pure_non : D.pure .non = true := rfl
@[simp] theorem pure_bl {b : Bool} : D.pure (.bl b) = true := rfl
@[simp] theorem pure_int {i : Int} : D.pure (.int i) = true := rfl
@[simp] theorem pure_str {x : Str} : D.pure (.str x) = true := rfl
@[simp] theorem pure_tup {ds : List D} : D.pure (.tup ds) = true := rfl
@[simp] theorem pure_tm {t : Tm} : t.d.pure = true := t.pure
@[simp] theorem pure_vl {v : Vl} : v.d.pure = true := v.pure
def loopB : List Ss := b__law_loop.drop 4
theorem loop_tail {f : Str} {r3 : D} {test step part : Tm} {k : Nat} {E' : EE} {S1 : Sto} (h : HasCup n S1) (hk : 10 ≤ k) (hp : p ≠ n) (hfs : S1[p]? = some (.lst (fsD fs))) (hF : FOk fs) (hF2 : fs.length < 1000) (hf : wordB f = true)
    (o1 : Tm.ok ((f, 2) :: fs) ["n", "m"] test) (o2 : Tm.ok ((f, 2) :: fs) ["n", "m"] step) (o3 : Tm.ok ((f, 2) :: fs) ["n", "m"] part) (z1 : test.sz ≤ 3) (z2 : step.sz ≤ 3) (z3 : part.sz ≤ 3) (d1 : test.dp ≤ 2) (d2 : step.dp ≤ 2) (d3 : part.dp ≤ 2)
    {Q : Fl → Env → Sto → Prop} (q : ∀ (b : Tm) e S' L, Tm.ok ((f, 2) :: fs) ["n", "m"] b → b.sz ≤ 60 → b.dp ≤ 12 → CupTo n S1 S' → Q (.rt (.tup [.str f, nsD ["n", "m"], b.d])) e (S' ++ L)) :
    WX (execs (callF FT k) loopB [some (.ref n), some (.str f), some (.ref p), some r3, some (.tup [.str "name", .str "n"]), some (.tup [.str "name", .str "m"]), some test.d, some step.d, some part.d, none, none, none] S1) E' Q := by
  have nm1 : NOk ["m"] := fun x hx => by revert x; decide
  have nm2 : NOk ["m", "r"] := fun x hx => by revert x; decide
  have sub : ∀ x ∈ fs, x ∈ (f, 2) :: fs := fun x hx => List.mem_cons_of_mem _ hx
  have two : D.tup [.str "name", .str "m"] = (Tm.name "m").d := by simp [Tm.d]
  have v1 : D.tup [.str "value", .int 1] = (Tm.val (.int 1)).d := by simp [Tm.d, Vl.d]
  have v2 : D.tup [.str "value", .int 2] = (Tm.val (.int 2)).d := by simp [Tm.d, Vl.d]
  have vn : D.tup [.str "value", .str "nil"] = (Tm.val (.str "nil")).d := by simp [Tm.d, Vl.d]
  unfold loopB b__law_loop
  rw [List.drop_succ_cons, List.drop_succ_cons, List.drop_succ_cons, List.drop_succ_cons, List.drop_zero, wxs_cons]
  simp [-wxs_cons]
  refine expr_ok 1 (ns := ["m"]) h (by omega) hp hfs hF hF2 nm1 (by decide) fun t1 S2 p1 y1 x1 c2 => ?_
  have h2 := c2.has h
  have f2 := (c2.get hp).trans hfs
  simp at y1
  have w1 : Tm.ok ((f, 2) :: fs) ["n", "m"] t1 := Tm.ok_mono (fun x hx => List.mem_cons_of_mem _ hx) (Tm.ok_fs sub p1)
  have ofin : ∀ t ∈ [Tm.name "m", .doo "pair" [part, .name "m"], .doo "add" [.name "m", .val (.int 1)], t1], Tm.ok ((f, 2) :: fs) ["n", "m"] t ∧ t.sz ≤ 7 ∧ t.dp ≤ 3 := fun t ht => by
    simp only [List.mem_cons, List.not_mem_nil, or_false] at ht
    rcases ht with rfl | rfl | rfl | rfl
    · simp only [Tm.ok, Tm.sz, Tm.dp]
      exact ⟨⟨by simp, by decide⟩, by decide, by decide⟩
    · simp only [Tm.ok, Tm.oks, Tm.sz, Tm.szs, Tm.dp, Tm.dps]
      exact ⟨⟨.inr ⟨by decide, rfl⟩, o3, ⟨by simp, by decide⟩, trivial⟩, by omega, by omega⟩
    · simp only [Tm.ok, Tm.oks, Tm.sz, Tm.szs, Tm.dp, Tm.dps]
      exact ⟨⟨.inr ⟨by decide, rfl⟩, ⟨by simp, by decide⟩, ⟨⟨by decide, by decide⟩, by decide, by decide⟩, trivial⟩, by decide, by decide⟩
    · exact ⟨w1, by omega, by omega⟩
  refine some_terms (ts := [Tm.name "m", .doo "pair" [part, .name "m"], .doo "add" [.name "m", .val (.int 1)], t1]) (by simp [mkT, Tm.d, Tm.ds, Vl.d]) h2 (by omega) (by simp) (by simp) fun t2 S3 ht2 c3 => ?_
  obtain ⟨w2, y2, x2⟩ := ofin t2 ht2
  clear ofin ht2
  generalize [O.lst (List.map Tm.d [Tm.name "m", .doo "pair" [part, .name "m"], .doo "add" [.name "m", .val (.int 1)], t1])] = L3
  rw [wxs_cons]
  simp [-wxs_cons]
  generalize he10 : Tm.call f [step, t2] = t10
  have e10 : mkT [.str "call", .str f, mkT [step.d, t2.d]] = t10.d := by subst he10; simp [mkT, Tm.d, Tm.ds]
  have w10 : Tm.ok ((f, 2) :: fs) ["n", "m"] t10 ∧ t10.sz ≤ 11 ∧ t10.dp ≤ 4 := by
    subst he10
    simp only [Tm.ok, Tm.oks, Tm.sz, Tm.szs, Tm.dp, Tm.dps]
    exact ⟨⟨⟨List.mem_cons_self, hf, (by show 2 ≤ 8; decide)⟩, o2, w2, trivial⟩, by omega, by omega⟩
  rw [e10]
  obtain ⟨w10, y10, x10⟩ := w10
  rw [wxs_cons]
  simp [-wxs_cons]
  have hl1 := h.lt
  have hl3 : n < S3.length := by rw [c3.len, c2.len]; exact hl1
  have h3 : HasCup n (S3 ++ L3) := (c3.has h2).app
  have f3 : (S3 ++ L3)[p]? = some (.lst (fsD fs)) := by
    rw [List.getElem?_append_left (by rw [c3.len]; exact (List.getElem?_eq_some_iff.mp f2).1)]
    exact (c3.get hp).trans f2
  refine expr_ok 1 (ns := ["m", "r"]) h3 (by omega) hp f3 hF hF2 nm2 (by decide) fun t4 S4 p4 y4 x4 c4 => ?_
  simp at y4
  have w4 : Tm.ok ((f, 2) :: fs) ("r" :: ["n", "m"]) t4 := Tm.ok_mono (fun x hx => by
    simp only [List.mem_cons, List.not_mem_nil, or_false] at hx ⊢
    rcases hx with rfl | rfl
    · exact .inr (.inr rfl)
    · exact .inl rfl) (Tm.ok_fs sub p4)
  have ofin : ∀ t ∈ [t10, .doo "pair" [part, t10], .doo "add" [.val (.int 2), t10], .lett "r" t10 t4], Tm.ok ((f, 2) :: fs) ["n", "m"] t ∧ t.sz ≤ 20 ∧ t.dp ≤ 6 := fun t ht => by
    simp only [List.mem_cons, List.not_mem_nil, or_false] at ht
    rcases ht with rfl | rfl | rfl | rfl
    · exact ⟨w10, by omega, by omega⟩
    · simp only [Tm.ok, Tm.oks, Tm.sz, Tm.szs, Tm.dp, Tm.dps]
      exact ⟨⟨.inr ⟨by decide, rfl⟩, o3, w10, trivial⟩, by omega, by omega⟩
    · simp only [Tm.ok, Tm.oks, Tm.sz, Tm.szs, Tm.dp, Tm.dps]
      exact ⟨⟨.inr ⟨by decide, rfl⟩, ⟨⟨by decide, by decide⟩, by decide, by decide⟩, w10, trivial⟩, by omega, by omega⟩
    · simp only [Tm.ok, Tm.sz, Tm.dp]
      exact ⟨⟨by decide, w10, w4⟩, by omega, by omega⟩
  have h4 := c4.has h3
  refine some_terms (ts := [t10, .doo "pair" [part, t10], .doo "add" [.val (.int 2), t10], .lett "r" t10 t4]) (by simp [mkT, Tm.d, Tm.ds, Vl.d]) h4 (by omega) (by simp) (by simp) fun t5 S5 ht5 c5 => ?_
  obtain ⟨w5, y5, x5⟩ := ofin t5 ht5
  clear ofin ht5
  generalize [O.lst (List.map Tm.d [t10, .doo "pair" [part, t10], .doo "add" [.val (.int 2), t10], .lett "r" t10 t4])] = L5
  rw [wxs_cons]
  simp [-wxs_cons]
  have hl5 : n < S5.length := by rw [c5.len]; exact h4.lt
  have h5 : HasCup n (S5 ++ L5) := (c5.has h4).app
  have f4 := (c4.get hp).trans f3
  have f5 : (S5 ++ L5)[p]? = some (.lst (fsD fs)) := by
    rw [List.getElem?_append_left (by rw [c5.len]; exact (List.getElem?_eq_some_iff.mp f4).1)]
    exact (c5.get hp).trans f4
  refine expr_ok 1 (ns := ["m"]) h5 (by omega) hp f5 hF hF2 nm1 (by decide) fun t6 S6 p6 y6 x6 c6 => ?_
  simp at y6
  have w6 : Tm.ok ((f, 2) :: fs) ["n", "m"] t6 := Tm.ok_mono (fun x hx => List.mem_cons_of_mem _ hx) (Tm.ok_fs sub p6)
  have ofin : ∀ t ∈ [Tm.name "m", .val (.str "nil"), t6], Tm.ok ((f, 2) :: fs) ["n", "m"] t ∧ t.sz ≤ 7 ∧ t.dp ≤ 3 := fun t ht => by
    simp only [List.mem_cons, List.not_mem_nil, or_false] at ht
    rcases ht with rfl | rfl | rfl
    · simp only [Tm.ok, Tm.sz, Tm.dp]
      exact ⟨⟨by simp, by decide⟩, by decide, by decide⟩
    · simp only [Tm.ok, Tm.sz, Tm.dp]
      exact ⟨⟨(by show wordB _ = true; decide), by decide, by decide⟩, by decide, by decide⟩
    · exact ⟨w6, by omega, by omega⟩
  have h6 := c6.has h5
  refine some_terms (ts := [Tm.name "m", .val (.str "nil"), t6]) (by simp [mkT, Tm.d, Tm.ds, Vl.d]) h6 (by omega) (by simp) (by simp) fun t7 S7 ht7 c7 => ?_
  obtain ⟨w7, y7, x7⟩ := ofin t7 ht7
  clear ofin ht7
  generalize [O.lst (List.map Tm.d [Tm.name "m", .val (.str "nil"), t6])] = L7
  have eb : mkT [.str "if", test.d, t5.d, t7.d] = (Tm.iff test t5 t7).d := by simp [mkT, Tm.d]
  have ef : mkT [.str f, mkT [.str "n", .str "m"], (Tm.iff test t5 t7).d] = .tup [.str f, nsD ["n", "m"], (Tm.iff test t5 t7).d] := by simp [mkT, nsD]
  rw [eb, ef]
  obtain ⟨S8, e8, c8⟩ := (c6.trans c7).app hl5
  subst e8
  obtain ⟨S9, e9, c9⟩ := ((c4.trans c5).trans c8).app hl3
  subst e9
  rw [List.append_assoc, List.append_assoc]
  refine q (.iff test t5 t7) _ S9 _ ?_ ?_ ?_ ((c2.trans c3).trans c9)
  · simp only [Tm.ok]
    exact ⟨o1, w5, w7⟩
  · simp only [Tm.sz]
    omega
  · simp only [Tm.dp]
    omega
theorem loop_ok {f : Str} (h : HasCup n S) (hk : 12 ≤ k) (hp : p ≠ n) (hfs : S[p]? = some (.lst (fsD fs))) (hF : FOk fs) (hF2 : fs.length < 1000) (hf : wordB f = true)
    (q : ∀ (b : Tm) S', Tm.ok ((f, 2) :: fs) ["n", "m"] b → b.sz ≤ 60 → b.dp ≤ 12 → CupTo n S S' → Q (.tup [.str f, nsD ["n", "m"], b.d]) S') : WP (callF FT k c__law_loop [.ref n, .str f, .ref p] S) E Q := by
  obtain ⟨k, rfl⟩ : ∃ j, k = j + 1 := ⟨k - 1, by omega⟩
  refine call_wp (fn := e__law_loop.fn) rfl rfl ?_
  generalize (fun c x S1 => below S.length x = true ∧ E c x (S1.take S.length) : EE) = E'
  show WX (execs _ b__law_loop [some (.ref n), some (.str f), some (.ref p), none, none, none, none, none, none, none, none, none] S) _ _
  have okn : Tm.ok ((f, 2) :: fs) ["n", "m"] (.name "n") := by simp only [Tm.ok]; exact ⟨by simp, by decide⟩
  have okv : ∀ i : Int, -5 < i → i < 5 → Tm.ok ((f, 2) :: fs) ["n", "m"] (.val (.int i)) := fun i h1 h2 => by
    simp only [Tm.ok]
    exact ⟨⟨by omega, by omega⟩, by simp [Vl.sz], by simp [Vl.dp]⟩
  have ends : ∀ (b : Tm) (e : Env) (S1 S' L : Sto), CupTo n S S1 → Tm.ok ((f, 2) :: fs) ["n", "m"] b → b.sz ≤ 60 → b.dp ≤ 12 → CupTo n S1 S' →
      WP (fin S.length (.tup [.str f, nsD ["n", "m"], b.d]) (S' ++ L)) E Q := fun b e S1 S' L c1 ho hz hd c2 => by
    refine fin_pure rfl ?_
    rw [(c1.trans c2).takeA]
    exact q b S' ho hz hd (c1.trans c2)
  rw [show b__law_loop = b__law_loop.take 4 ++ loopB from rfl, wxs_app]
  generalize hB : loopB = B
  unfold b__law_loop
  rw [List.take_succ_cons, List.take_succ_cons, List.take_succ_cons, List.take_succ_cons, List.take_zero, wxs_cons]
  simp [-wxs_cons]
  refine roll_ok h (by omega) (by decide) (by decide) fun r S1 h1 h2 c1 => ?_
  simp only [eq_int, wo_some]
  have hh := c1.has h
  have hf1 := (c1.get hp).trans hfs
  by_cases hr : r = 0
  · simp only [decide_eq_true hr]
    simp [setMany]
    subst hB
    have e1 : mkT [.str "do", .str "ispair", mkT [mkT [.str "name", .str "n"]]] = (Tm.doo "ispair" [.name "n"]).d := by simp [mkT, Tm.d, Tm.ds]
    have e2 : mkT [.str "do", .str "tail", mkT [mkT [.str "name", .str "n"]]] = (Tm.doo "tail" [.name "n"]).d := by simp [mkT, Tm.d, Tm.ds]
    have e3 : mkT [.str "do", .str "head", mkT [mkT [.str "name", .str "n"]]] = (Tm.doo "head" [.name "n"]).d := by simp [mkT, Tm.d, Tm.ds]
    have e4 : mkT [.str "name", .str "n"] = .tup [.str "name", .str "n"] := rfl
    have e5 : mkT [.str "name", .str "m"] = .tup [.str "name", .str "m"] := rfl
    rw [e1, e2, e3, e4, e5]
    have ok1 : ∀ o ∈ one5, Tm.ok ((f, 2) :: fs) ["n", "m"] (.doo o [.name "n"]) := fun o ho => by
      simp only [Tm.ok, Tm.oks]
      exact ⟨.inl ⟨ho, rfl⟩, ⟨by simp, by decide⟩, trivial⟩
    exact loop_tail (fs := fs) hh (by omega) hp hf1 hF hF2 hf (ok1 _ (by decide)) (ok1 _ (by decide)) (ok1 _ (by decide)) (by decide) (by decide) (by decide) (by decide) (by decide) (by decide) fun b e S' L ho hz hd c2 => ends b e S1 S' L c1 ho hz hd c2
  · simp only [decide_eq_false hr]
    simp [setMany]
    subst hB
    have e1 : mkT [.str "do", .str "less", mkT [mkT [.str "value", .int 0], mkT [.str "name", .str "n"]]] = (Tm.doo "less" [.val (.int 0), .name "n"]).d := by simp [mkT, Tm.d, Tm.ds, Vl.d]
    have e2 : mkT [.str "do", .str "sub", mkT [mkT [.str "name", .str "n"], mkT [.str "value", .int 1]]] = (Tm.doo "sub" [.name "n", .val (.int 1)]).d := by simp [mkT, Tm.d, Tm.ds, Vl.d]
    have e5 : mkT [.str "name", .str "m"] = .tup [.str "name", .str "m"] := rfl
    have e4 : mkT [.str "name", .str "n"] = (Tm.name "n").d := by simp [mkT, Tm.d]
    have e6 : D.tup [.str "name", .str "n"] = (Tm.name "n").d := by simp [Tm.d]
    rw [e1, e2, e4, e5]
    have ok2 : ∀ o ∈ two8, ∀ a b : Tm, Tm.ok ((f, 2) :: fs) ["n", "m"] a → Tm.ok ((f, 2) :: fs) ["n", "m"] b → Tm.ok ((f, 2) :: fs) ["n", "m"] (.doo o [a, b]) := fun o ho a b ha hb => by
      simp only [Tm.ok, Tm.oks]
      exact ⟨.inr ⟨ho, rfl⟩, ha, hb, trivial⟩
    have := loop_tail (fs := fs) (r3 := .bl false) (E' := E') (Q := fun fl _ S1 => match fl with
      | .rt d => WP (fin S.length d S1) E Q
      | .nx => Q .non (S1.take S.length)
      | _ => False) hh (by omega : 10 ≤ k) hp hf1 hF hF2 hf (ok2 "less" (by decide) _ _ (okv 0 (by decide) (by decide)) okn) (ok2 "sub" (by decide) _ _ okn (okv 1 (by decide) (by decide))) okn (by decide) (by decide) (by decide) (by decide) (by decide) (by decide) fun b e S' L ho hz hd c2 => ends b e S1 S' L c1 ho hz hd c2
    rw [e6] at this
    exact this
end
end DE
/-! GN7: programs drawn. -/
namespace DE
open PySem (Str PyData sizeLine)
structure Fu where
  f : Str
  ps : List Str
  b : Tm
def Fu.d (u : Fu) : D := .tup [.str u.f, nsD u.ps, u.b.d]
def Fu.sig (u : Fu) : Str × Nat := (u.f, u.ps.length)
def sigD (u : Fu) : D := .tup [.str u.f, .int (u.ps.length : Int)]
def Fu.ok (fs : List (Str × Nat)) (u : Fu) : Prop := wordB u.f = true ∧ NOk u.ps ∧ u.ps.Nodup ∧ u.ps.length ≤ 3 ∧ Tm.ok fs u.ps u.b ∧ u.b.sz ≤ 260 ∧ u.b.dp ≤ 12
theorem fsD_sig {us : List Fu} : fsD (us.map Fu.sig) = us.map sigD := by unfold fsD; rw [List.map_map]; rfl
/-- the store while a program is drawn -/
def PSt (n : Nat) (S S' : Sto) (pi : Nat) (us : List Fu) : Prop := ∃ S1 L j, S' = S1 ++ L ∧ CupTo n S S1 ∧ L[1]? = some (.lst (us.map Fu.d)) ∧ pi = S.length + j ∧ j ≠ 1 ∧ L[j]? = some (.lst (us.map sigD))
section
variable {k n p pi : Nat} {S S' S'' : Sto} {E : EE} {Q : D → Sto → Prop} {us : List Fu}
theorem PSt.cup (h : HasCup n S) (P : PSt n S S' pi us) : HasCup n S' := by
  obtain ⟨S1, L, j, rfl, c, _⟩ := P
  exact (c.has h).app
theorem PSt.ne (h : HasCup n S) (P : PSt n S S' pi us) : pi ≠ n := by
  obtain ⟨S1, L, j, rfl, c, _, rfl, _⟩ := P
  have := h.lt
  omega
theorem PSt.fs (P : PSt n S S' pi us) : S'[pi]? = some (.lst (fsD (us.map Fu.sig))) := by
  obtain ⟨S1, L, j, rfl, c, _, rfl, _, h⟩ := P
  rw [fsD_sig, List.getElem?_append_right (by rw [c.len]; omega), c.len, Nat.add_sub_cancel_left]
  exact h
theorem PSt.made (P : PSt n S S' pi us) : S'[S.length + 1]? = some (.lst (us.map Fu.d)) := by
  obtain ⟨S1, L, j, rfl, c, h, _⟩ := P
  rw [List.getElem?_append_right (by rw [c.len]; omega), c.len, Nat.add_sub_cancel_left]
  exact h
theorem PSt.call (h : HasCup n S) (P : PSt n S S' pi us) (c : CupTo n S' S'') : PSt n S S'' pi us := by
  obtain ⟨S1, L, j, rfl, c1, h1, h2, h3, h4⟩ := P
  obtain ⟨S2, rfl, c2⟩ := c.app (by rw [c1.len]; exact h.lt)
  exact ⟨S2, L, j, rfl, c1.trans c2, h1, h2, h3, h4⟩
theorem PSt.add {u : Fu} (P : PSt n S S' pi us) : PSt n S ((S'.set (S.length + 1) (.lst (us.map Fu.d ++ [u.d]))) ++ [.lst [sigD u], .lst (us.map sigD ++ [sigD u])]) (S'.length + 1) (us ++ [u]) := by
  obtain ⟨S1, L, j, rfl, c1, h1, h2, h3, h4⟩ := P
  have l1 := (List.getElem?_eq_some_iff.mp h1).1
  have cl := c1.len
  refine ⟨S1, L.set 1 (.lst (us.map Fu.d ++ [u.d])) ++ [.lst [sigD u], .lst (us.map sigD ++ [sigD u])], L.length + 1, ?_, c1, ?_, ?_, by omega, ?_⟩
  · rw [← List.append_assoc, List.set_append_right _ _ (by rw [cl]; omega), cl, Nat.add_sub_cancel_left]
  · rw [List.getElem?_append_left (by rw [List.length_set]; exact l1), List.getElem?_set_self l1]
    simp
  · rw [List.length_append, cl]
    omega
  · rw [List.getElem?_append_right (by rw [List.length_set]; omega), List.length_set]
    simp
theorem mth_append {m : Nat} {ds : List D} {d : D} (h : S[m]? = some (.lst ds)) (hb : below m d = true) (hl : ds.length < sizeLine) : mth .append (.ref m) [d] S = .ok .non (S.set m (.lst (ds ++ [d]))) := by
  show mAppend (.ref m) d S = _
  unfold mAppend
  rw [lstOf_ref h]
  have : (below m d && Nat.blt ds.length sizeLine) = true := by rw [hb, show Nat.blt ds.length sizeLine = true from Nat.ble_eq_true_of_le hl]; rfl
  simp only [this]
  rfl
theorem mthOk_l {m : Nat} {ds : List D} {x : Mth} (h : S[m]? = some (.lst ds)) (hx : x ≠ .get1) : mthOk x (.ref m) S = true := by
  have e : (lstOf S (.ref m)).isSome = true := by rw [lstOf_ref h]; rfl
  cases x with
  | get1 => exact absurd rfl hx
  | append => exact e
  | extend => exact e
  | pop => exact e
theorem bin_addL {p q : Nat} {as bs : List D} (h1 : S[p]? = some (.lst as)) (h2 : S[q]? = some (.lst bs)) : bin .add (.ref p) (.ref q) S = newL (as ++ bs) S := by
  show (match lstOf S (.ref p), lstOf S (.ref q) with
    | some (_, ds), some (_, es) => newL (ds ++ es) S
    | _, _ => .no) = _
  rw [lstOf_ref h1, lstOf_ref h2]
theorem slc_take {ds : List D} {i : Int} (h : 0 ≤ i) : slc (.tup ds) .non (.int i) S = .ok (mkT (ds.take i.toNat)) S := by
  show R.ok (mkT (cut ds none (some i))) S = _
  have : cut ds none (some i) = ds.take i.toNat := by
    have e1 : sIx ds.length 0 none = 0 := rfl
    have e2 : sIx ds.length ds.length (some i) = min i.toNat ds.length := if_neg (by omega)
    unfold cut
    rw [e1, e2, List.drop_zero, Nat.sub_zero, ← List.take_take, List.take_length]
  rw [this]
theorem trim_no {m j : Nat} {env : Env} (h : env[1]? = some (some (.ref j))) (hj : m ≤ j) : trim m env S = S := by
  have : envBelow m env = false := by
    cases e : envBelow m env with
    | false => rfl
    | true =>
      have := envBelow_get e h
      have : j < m := Nat.le_of_ble_eq_true this
      omega
  unfold trim
  rw [this]
theorem FOk_sig {us : List Fu} {fs : List (Str × Nat)} (h : ∀ u ∈ us, u.ok fs) : FOk (us.map Fu.sig) := fun p hp => by
  obtain ⟨u, hu, rfl⟩ := List.mem_map.mp hp
  exact ⟨(h u hu).1, (h u hu).2.2.2.1⟩
/-- what is told of the functions drawn so far -/
def UsOk (us : List Fu) : Prop := ∀ u ∈ us, u.ok (us.map Fu.sig)
theorem UsOk.snoc {us : List Fu} {u : Fu} (h : UsOk us) (hu : u.ok ((us ++ [u]).map Fu.sig)) : UsOk (us ++ [u]) := fun v hv => by
  rcases List.mem_append.mp hv with hv | hv
  · obtain ⟨a, b, c, d, e, f⟩ := h v hv
    exact ⟨a, b, c, d, Tm.ok_fs (fun x hx => by rw [List.map_append]; exact List.mem_append_left _ hx) e, f⟩
  · rw [List.mem_singleton.mp hv]
    exact hu
/-- a turn's end: made.append(..), functions = functions + [..] -/
theorem turn_end {cf : CF} {u : Fu} {env : Env} {e1 : Ex} {Q : Fl → Env → Sto → Prop} (P : PSt n S S' pi us) (hus : us.length < 100) (he : env[1]? = some (some (.ref pi))) (q : Q .nx (env.set 1 (some (.ref (S'.length + 1)))) ((S'.set (S.length + 1) (.lst (us.map Fu.d ++ [u.d]))) ++ [.lst [sigD u], .lst (us.map sigD ++ [sigD u])])) :
    WP (mth .append (.ref (S.length + 1)) [u.d] S') E fun _ S1 => WP (bin .add (.ref pi) (.ref S1.length) (S1 ++ [.lst [sigD u]])) E fun d S1 => Q .nx (env.set 1 (some d)) S1 := by
  have hd : below (S.length + 1) u.d = true := rfl
  rw [mth_append P.made hd (by rw [List.length_map, szl]; omega), wp_ok]
  have hpi : (S'.set (S.length + 1) (.lst (us.map Fu.d ++ [u.d])))[pi]? = some (.lst (us.map sigD)) := by
    have h1 := P.fs
    obtain ⟨S1, L, j, _, _, _, h2, h3, _⟩ := P
    rw [List.getElem?_set_ne (by omega), h1, fsD_sig]
  have hlt := (List.getElem?_eq_some_iff.mp hpi).1
  rw [bin_addL (as := us.map sigD) (bs := [sigD u]) (by rw [List.getElem?_append_left hlt]; exact hpi) (by simp), wp_newL]
  refine ⟨by rw [List.length_append, List.length_map, szl]; simp; omega, ?_⟩
  simp only [List.length_append, List.length_set, List.length_cons, List.length_nil, List.append_assoc]
  exact q
theorem word_list {xs : List Str} {i : Nat} : (IV.fix (xs.map D.str), i) = (IV.fix (xs.map D.str), i) := rfl
theorem take_strs {xs : List Str} {m : Nat} : mkT ((xs.map D.str).take m) = .tup ((xs.take m).map D.str) := by
  rw [← List.map_take, mkT_pure str_pure]
def bodyOf : Ss → List Ss
  | .for _ _ _ b => b
  | _ => []
def body1 : List Ss := bodyOf (b__law_program.getD 1 .pass)
def body2 : List Ss := bodyOf (b__law_program.getD 2 .pass)
theorem turn_trim {m j : Nat} {a b c : Option D} {S2 : Sto} (hj : m ≤ j) : trim m [a, some (.ref j), b, c] S2 = S2 := trim_no rfl hj
/-- a turn that draws a loop -/
theorem body1_ok {E' : EE} {x : Str} {t : Option D} {Q : Fl → Env → Sto → Prop} (h : HasCup n S) (hk : 12 ≤ k) (P : PSt n S S' pi us) (U : UsOk us) (hus : us.length < 100) (hw : wordB x = true)
    (q : ∀ (u : Fu) S2 t2, u.f = x → UsOk (us ++ [u]) → S'.length ≤ S2.length → PSt n S (S2 ++ [.lst [sigD u], .lst (us.map sigD ++ [sigD u])]) (S2.length + 1) (us ++ [u]) → Q .nx [some (.ref n), some (.ref (S2.length + 1)), some (.ref (S.length + 1)), some (.str x), t2] (S2 ++ [.lst [sigD u], .lst (us.map sigD ++ [sigD u])])) :
    WX (execs (callF FT k) body1 [some (.ref n), some (.ref pi), some (.ref (S.length + 1)), some (.str x), t] S') E' Q := by
  unfold body1 b__law_program
  simp only [List.getD_cons_succ, List.getD_cons_zero, bodyOf]
  rw [wxs_cons]
  simp [-wxs_cons]
  refine ⟨mthOk_l P.made (by intro z; cases z), ?_⟩
  refine loop_ok (P.cup h) (by omega) (P.ne h) P.fs (FOk_sig U) (by rw [List.length_map]; omega) hw fun b S2 bo bz bd c2 => ?_
  have P2 := P.call h c2
  have nm : NOk ["n", "m"] := fun y hy => by
    have all : ∀ y ∈ (["n", "m"] : List Str), wordB y = true := by decide
    exact all y hy
  obtain ⟨u, hu⟩ : ∃ u : Fu, u = ⟨x, ["n", "m"], b⟩ := ⟨_, rfl⟩
  have ud : u.d = .tup [.str x, nsD ["n", "m"], b.d] := by rw [hu]; rfl
  have us2 : sigD u = .tup [.str x, .int 2] := by rw [hu]; rfl
  have uf : u.f = x := by rw [hu]
  have uok : UsOk (us ++ [u]) := by
    refine UsOk.snoc U ?_
    rw [hu]
    refine ⟨hw, nm, (by show (["n", "m"] : List Str).Nodup; decide), (by show 2 ≤ 3; decide), ?_, (by show b.sz ≤ 260; omega), bd⟩
    refine Tm.ok_fs (fun p hp => ?_) bo
    rw [List.map_append]
    rcases List.mem_cons.mp hp with rfl | hp
    · exact List.mem_append_right _ (by simp [Fu.sig])
    · exact List.mem_append_left _ hp
  clear hu
  rw [← ud]
  have hd : below (S.length + 1) u.d = true := rfl
  rw [mth_append P2.made hd (by rw [List.length_map, szl]; omega), wp_ok, wxs_cons]
  simp [-wxs_cons]
  have hpi : (S2.set (S.length + 1) (.lst (us.map Fu.d ++ [u.d])))[pi]? = some (.lst (us.map sigD)) := by
    have h1 := P2.fs
    have hne : pi ≠ S.length + 1 := by obtain ⟨S1, L, j, _, _, _, h2, h3, _⟩ := P2; omega
    rw [List.getElem?_set_ne (Ne.symm hne), h1, fsD_sig]
  have hlt := (List.getElem?_eq_some_iff.mp hpi).1
  have fin := q u (S2.set (S.length + 1) (.lst (us.map Fu.d ++ [u.d]))) t uf uok (by rw [List.length_set, c2.len]; exact Nat.le_refl _) (by rw [List.length_set]; exact P2.add)
  have l3 : (S2.set (S.length + 1) (.lst (us.map Fu.d ++ [u.d]))).length = S2.length := List.length_set
  generalize S2.set (S.length + 1) (.lst (us.map Fu.d ++ [u.d])) = S3 at hpi hlt fin l3
  rw [mkT2 rfl rfl, ← us2, ← l3, bin_addL (as := us.map sigD) (bs := [sigD u]) (by rw [List.getElem?_append_left hlt]; exact hpi) (by simp), wp_newL]
  refine ⟨by rw [List.length_append, List.length_map, szl]; simp; omega, ?_⟩
  rw [List.append_assoc, List.length_append]
  exact fin
/-- a turn that draws a plain function -/
theorem body2_ok {E' : EE} {x : Str} {t : Option D} {Q : Fl → Env → Sto → Prop} (h : HasCup n S) (hk : 12 ≤ k) (P : PSt n S S' pi us) (U : UsOk us) (hus : us.length < 100) (hw : wordB x = true)
    (q : ∀ (u : Fu) S2 t2, u.f = x → UsOk (us ++ [u]) → S'.length ≤ S2.length → PSt n S (S2 ++ [.lst [sigD u], .lst (us.map sigD ++ [sigD u])]) (S2.length + 1) (us ++ [u]) → Q .nx [some (.ref n), some (.ref (S2.length + 1)), some (.ref (S.length + 1)), some (.str x), t2] (S2 ++ [.lst [sigD u], .lst (us.map sigD ++ [sigD u])])) :
    WX (execs (callF FT k) body2 [some (.ref n), some (.ref pi), some (.ref (S.length + 1)), some (.str x), t] S') E' Q := by
  unfold body2 b__law_program
  simp only [List.getD_cons_succ, List.getD_cons_zero, bodyOf]
  rw [wxs_cons]
  simp [-wxs_cons]
  refine roll_ok (P.cup h) (by omega) (by decide) (by decide) fun r S1 g1 g2 c1 => ?_
  have P1 := P.call h c1
  simp [-wxs_cons, bin_add, intOf]
  rw [mkT_pure (by rfl), slc_take (by omega), wp_ok, show ([D.str "a", D.str "b", D.str "c"] : List D) = (["a", "b", "c"] : List Str).map D.str from rfl, take_strs]
  obtain ⟨ps, hps⟩ : ∃ ps, ps = (["a", "b", "c"] : List Str).take (1 + r).toNat := ⟨_, rfl⟩
  have pn : NOk ps := fun y hy => by
    have all : ∀ y ∈ (["a", "b", "c"] : List Str), wordB y = true := by decide
    rw [hps] at hy
    exact all y (List.mem_of_mem_take hy)
  have pl : ps.length ≤ 3 := by rw [hps, List.length_take]; simp; omega
  have pd : ps.Nodup := by rw [hps]; exact List.Nodup.sublist (List.take_sublist _ _) (by decide)
  rw [← hps]
  show WX (execs _ _ [some (.ref n), some (.ref pi), some (.ref (S.length + 1)), some (.str x), some (nsD ps)] S1) _ _
  clear hps
  rw [wxs_cons]
  simp [-wxs_cons]
  refine ⟨mthOk_l P1.made (by intro z; cases z), ?_⟩
  refine expr_ok 2 (P1.cup h) (by omega) (P1.ne h) P1.fs (FOk_sig U) (by rw [List.length_map]; omega) pn (by omega) fun b S2 bo bz bd c2 => ?_
  have P2 := P1.call h c2
  obtain ⟨u, hu⟩ : ∃ u : Fu, u = ⟨x, ps, b⟩ := ⟨_, rfl⟩
  have ud : u.d = .tup [.str x, nsD ps, b.d] := by rw [hu]; rfl
  have us2 : sigD u = .tup [.str x, .int (ps.length : Int)] := by rw [hu]; rfl
  have uf : u.f = x := by rw [hu]
  have uok : UsOk (us ++ [u]) := by
    refine UsOk.snoc U ?_
    rw [hu]
    refine ⟨hw, pn, pd, pl, ?_, (by show b.sz ≤ 260; simp at bz; omega), (by show b.dp ≤ 12; omega)⟩
    refine Tm.ok_fs (fun p hp => ?_) bo
    rw [List.map_append]
    exact List.mem_append_left _ hp
  clear hu
  rw [mkT3 rfl rfl b.pure, ← ud]
  have hd : below (S.length + 1) u.d = true := rfl
  rw [mth_append P2.made hd (by rw [List.length_map, szl]; omega), wp_ok, wxs_cons]
  simp [-wxs_cons]
  have hpi : (S2.set (S.length + 1) (.lst (us.map Fu.d ++ [u.d])))[pi]? = some (.lst (us.map sigD)) := by
    have h1 := P2.fs
    have hne : pi ≠ S.length + 1 := by obtain ⟨S1, L, j, _, _, _, h2, h3, _⟩ := P2; omega
    rw [List.getElem?_set_ne (Ne.symm hne), h1, fsD_sig]
  have hlt := (List.getElem?_eq_some_iff.mp hpi).1
  have fin := q u (S2.set (S.length + 1) (.lst (us.map Fu.d ++ [u.d]))) (some (nsD ps)) uf uok (by rw [List.length_set, c2.len, c1.len]; exact Nat.le_refl _) (by rw [List.length_set]; exact P2.add)
  have l3 : (S2.set (S.length + 1) (.lst (us.map Fu.d ++ [u.d]))).length = S2.length := List.length_set
  generalize S2.set (S.length + 1) (.lst (us.map Fu.d ++ [u.d])) = S3 at hpi hlt fin l3
  rw [show blt .len [nsD ps] S3 = .ok (.int (ps.length : Int)) S3 by unfold nsD; rw [blt_len_t, List.length_map], wp_ok, mkT2 rfl rfl, ← us2, bin_addL (as := us.map sigD) (bs := [sigD u]) (by rw [List.getElem?_append_left hlt]; exact hpi) (by simp), wp_newL]
  refine ⟨by rw [List.length_append, List.length_map, szl]; simp; omega, ?_⟩
  rw [List.append_assoc, List.length_append]
  exact fin
def I1 (n : Nat) (S : Sto) (xs pre : List Str) (i : Nat) (e : Env) (S' : Sto) : Prop := i ≤ xs.length ∧ ∃ (pi : Nat) (us : List Fu) (t3 t4 : Option D), e = [some (.ref n), some (.ref pi), some (.ref (S.length + 1)), t3, t4] ∧ PSt n S S' pi us ∧ UsOk us ∧ us.map Fu.f = pre ++ xs.take i
/-- the loop over drawn functions -/
theorem draw_loop {cf : CF} {xs pre : List Str} {body : List Ss} {e : Env} {E' : EE} {Q : Fl → Env → Sto → Prop} (hx : ∀ x ∈ xs, wordB x = true) (hl : xs.length ≤ 2) (hp : pre.length ≤ 2) (h0 : I1 n S xs pre 0 e S')
    (hb : ∀ (x : Str) (pi : Nat) (us : List Fu) (t4 : Option D) (S' : Sto) (Q : Fl → Env → Sto → Prop), PSt n S S' pi us → UsOk us → us.length < 100 → wordB x = true →
      (∀ (u : Fu) S2 t2, u.f = x → UsOk (us ++ [u]) → S'.length ≤ S2.length → PSt n S (S2 ++ [.lst [sigD u], .lst (us.map sigD ++ [sigD u])]) (S2.length + 1) (us ++ [u]) → Q .nx [some (.ref n), some (.ref (S2.length + 1)), some (.ref (S.length + 1)), some (.str x), t2] (S2 ++ [.lst [sigD u], .lst (us.map sigD ++ [sigD u])])) →
      WX (execs cf body [some (.ref n), some (.ref pi), some (.ref (S.length + 1)), some (.str x), t4] S') E' Q)
    (q : ∀ pi us t3 t4 S', PSt n S S' pi us → UsOk us → us.map Fu.f = pre ++ xs → Q .nx [some (.ref n), some (.ref pi), some (.ref (S.length + 1)), t3, t4] S') :
    WX (forGo (.v 3) (fun env S => execs cf body env S) [] (.fix (xs.map D.str)) fuel 0 e S') E' Q := by
  refine for_rule (I1 n S xs pre) xs.length (by unfold fuel; omega) h0 fun i e S' ⟨hi, pi, us, t3, t4, he, P, U, hf⟩ => ?_
  subst he
  have ul : us.length ≤ 4 := by have := congrArg List.length hf; rw [List.length_map, List.length_append, List.length_take] at this; omega
  unfold ivGet
  simp only [List.getElem?_map]
  cases hx2 : xs[i]? with
  | some x =>
    have hix := (List.getElem?_eq_some_iff.mp hx2).1
    refine ⟨hix, ?_⟩
    refine hb x pi us t4 S' _ P U (by omega) (hx x (List.mem_of_getElem? hx2)) fun u S2 t2 uf uo ul2 P2 => ?_
    show I1 n S xs pre (i + 1) [some (.ref n), some (.ref (S2.length + 1)), some (.ref (S.length + 1)), some (.str x), t2] (trim S'.length [some (.ref n), some (.ref (S2.length + 1)), some (.ref (S.length + 1)), some (.str x), t2] _)
    rw [trim_no (j := S2.length + 1) rfl (by omega)]
    refine ⟨hix, _, us ++ [u], _, _, rfl, P2, uo, ?_⟩
    rw [List.map_append, hf, List.take_add_one, hx2, List.map_cons, uf, List.append_assoc]
    rfl
  | none =>
    have hix : i = xs.length := by have := List.getElem?_eq_none_iff.mp hx2; omega
    refine q pi us t3 t4 S' P U ?_
    rw [hf, hix, List.take_length]
theorem program_ok (h : HasCup n S) (hk : 14 ≤ k)
    (q : ∀ (main : Fu) (us : List Fu) (a b : Nat) S', main.f = "main" → 1 ≤ main.ps.length → UsOk us → main.ok (us.map Fu.sig) → us.map Fu.f = (["loop", "walk"] : List Str).take a ++ (["aux", "side"] : List Str).take b → CupTo n S S' → Q (.tup ((main :: us.reverse).map Fu.d)) S') :
    WP (callF FT k c__law_program [.ref n] S) E Q := by
  obtain ⟨k, rfl⟩ : ∃ j, k = j + 1 := ⟨k - 1, by omega⟩
  refine call_wp (fn := e__law_program.fn) rfl rfl ?_
  generalize (fun c x S1 => below S.length x = true ∧ E c x (S1.take S.length) : EE) = E'
  show WX (execs _ b__law_program [some (.ref n), none, none, none, none] S) _ _
  have hl := h.lt
  unfold b__law_program
  rw [wxs_cons]
  simp [-wxs_cons, setMany]
  have P0 : PSt n S (S ++ [.lst [], .lst []]) S.length [] := ⟨S, _, 0, rfl, CupTo.refl h, rfl, rfl, by decide, rfl⟩
  rw [wxs_cons]
  simp [-wxs_cons]
  refine roll_ok (P0.cup h) (by omega) (by decide) (by decide) fun r1 S1 g1 g2 c1 => ?_
  have P1 := P0.call h c1
  simp [-wxs_cons, bin_add, intOf]
  rw [mkT_pure (by rfl), slc_take (by omega), wp_ok, show ([D.str "loop", D.str "walk"] : List D) = (["loop", "walk"] : List Str).map D.str from rfl, take_strs]
  generalize hA : (1 + r1).toNat = A
  have w1 : ∀ x ∈ (["loop", "walk"] : List Str).take A, wordB x = true := fun x hx => by
    have all : ∀ x ∈ (["loop", "walk"] : List Str), wordB x = true := by decide
    exact all x (List.mem_of_mem_take hx)
  have w2 : ∀ B, ∀ x ∈ (["aux", "side"] : List Str).take B, wordB x = true := fun B x hx => by
    have all : ∀ x ∈ (["aux", "side"] : List Str), wordB x = true := by decide
    exact all x (List.mem_of_mem_take hx)
  refine draw_loop (pre := []) (body := body1) w1 (by rw [List.length_take]; simp; omega) (by simp) ⟨Nat.zero_le _, S.length, [], none, none, rfl, P1, (by intro u hu; cases hu), rfl⟩
    (fun x pi us t4 S' Q P U hus hw q => ?_) fun pi us t3 t4 S2 P2 U2 hf2 => ?_
  · exact body1_ok h (by omega) P U hus hw q
  rw [nxt_nx, wxs_cons]
  simp [-wxs_cons]
  refine roll_ok (P2.cup h) (by omega) (by decide) (by decide) fun r2 S3 g3 g4 c3 => ?_
  have P3 := P2.call h c3
  simp [-wxs_cons, intOf]
  rw [mkT_pure (by rfl), slc_take (by omega), wp_ok, show ([D.str "aux", D.str "side"] : List D) = (["aux", "side"] : List Str).map D.str from rfl, take_strs]
  generalize hB : r2.toNat = B
  have pl2 : ((["loop", "walk"] : List Str).take A).length ≤ 2 := by rw [List.length_take]; simp; omega
  refine draw_loop (pre := (["loop", "walk"] : List Str).take A) (body := body2) (w2 B) (by rw [List.length_take]; simp; omega) pl2 ⟨Nat.zero_le _, pi, us, t3, t4, rfl, P3, U2, by rw [hf2]; simp⟩
    (fun x pi us t4 S' Q P U hus hw q => body2_ok h (by omega) P U hus hw q) fun pi us t3 t4 S4 P4 U4 hf4 => ?_
  rw [nxt_nx, wxs_cons]
  simp [-wxs_cons]
  refine roll_ok (P4.cup h) (by omega) (by decide) (by decide) fun r3 S5 g5 g6 c5 => ?_
  have P5 := P4.call h c5
  simp [-wxs_cons, bin_add, intOf]
  rw [mkT_pure (by rfl), slc_take (by omega), wp_ok, show ([D.str "a", D.str "b", D.str "c"] : List D) = (["a", "b", "c"] : List Str).map D.str from rfl, take_strs]
  obtain ⟨ps, hps⟩ : ∃ ps, ps = (["a", "b", "c"] : List Str).take (1 + r3).toNat := ⟨_, rfl⟩
  have pn : NOk ps := fun y hy => by
    have all : ∀ y ∈ (["a", "b", "c"] : List Str), wordB y = true := by decide
    rw [hps] at hy
    exact all y (List.mem_of_mem_take hy)
  have pl : ps.length ≤ 3 := by rw [hps, List.length_take]; simp; omega
  have pl1 : 1 ≤ ps.length := by rw [hps, List.length_take]; simp; omega
  have pd : ps.Nodup := by rw [hps]; exact List.Nodup.sublist (List.take_sublist _ _) (by decide)
  rw [← hps]
  clear hps
  have ul : us.length ≤ 4 := by have := congrArg List.length hf4; rw [List.length_map, List.length_append, List.length_take, List.length_take] at this; simp at this; omega
  show WX (execs _ _ [some (.ref n), some (.ref pi), some (.ref (S.length + 1)), t3, some (nsD ps)] S5) _ _
  rw [wxs_cons]
  simp [-wxs_cons]
  refine expr_ok 3 (P5.cup h) (by omega) (P5.ne h) P5.fs (FOk_sig U4) (by rw [List.length_map]; omega) pn (by omega) fun b S6 bo bz bd c6 => ?_
  have P6 := P5.call h c6
  obtain ⟨u, hu⟩ : ∃ u : Fu, u = ⟨"main", ps, b⟩ := ⟨_, rfl⟩
  have ud : u.d = .tup [.str "main", nsD ps, b.d] := by rw [hu]; rfl
  rw [mkT3 rfl rfl b.pure, ← ud, mkT_pure (by rfl)]
  have hrev : rev (.ref (S.length + 1)) S6 = newL (us.map Fu.d).reverse S6 := by
    unfold rev
    rw [lstOf_ref P6.made]
  have rl : ((us.map Fu.d).reverse).length ≤ sizeLine := by rw [List.length_reverse, List.length_map, szl]; omega
  rw [hrev, wp_newL]
  refine ⟨rl, ?_⟩
  have fp : ((us.map Fu.d).reverse).all D.pure = true := by
    rw [List.all_reverse, List.all_eq_true]
    intro d hd
    obtain ⟨v, _, rfl⟩ := List.mem_map.mp hd
    rfl
  rw [blt_tuple_l (ds := (us.map Fu.d).reverse) (by simp), wp_ok, mkT_pure fp, bin_addT (by rw [List.length_reverse, List.length_map, szl]; simp; omega), wp_ok, mkT_pure (by rw [List.all_append, fp]; rfl)]
  obtain ⟨S7, L, j, rfl, c7, _⟩ := P6
  refine fin_pure rfl ?_
  rw [List.append_assoc, c7.takeA, show [u.d] ++ (us.map Fu.d).reverse = (u :: us.reverse).map Fu.d by simp]
  refine q u us A B S7 (by rw [hu]) (by rw [hu]; exact pl1) U4 ?_ hf4 c7
  rw [hu]
  exact ⟨(by show wordB "main" = true; decide), pn, pd, pl, bo, (by show b.sz ≤ 260; simp at bz; omega), (by show b.dp ≤ 12; omega)⟩
end
end DE
/-! GR1: tests of values. -/
namespace DE
open PySem (Str PyData sizeLine)
section
variable {k n p : Nat} {S : Sto} {E : EE} {Q : D → Sto → Prop}
theorem isB {t : Ty} {d : D} {kd : Kd} (h : kindOf S d = some kd) : bIs t d S = .ok (.bl (isKd t kd)) S := by
  unfold bIs isTy
  simp only [h]
theorem blt_isI {d : D} {kd : Kd} (h : kindOf S d = some kd) : blt .isI [d] S = .ok (.bl (isKd .int kd)) S := isB h
theorem blt_isB {d : D} {kd : Kd} (h : kindOf S d = some kd) : blt .isB [d] S = .ok (.bl (isKd .bool kd)) S := isB h
theorem blt_isS {d : D} {kd : Kd} (h : kindOf S d = some kd) : blt .isS [d] S = .ok (.bl (isKd .str kd)) S := isB h
theorem blt_isT {d : D} {kd : Kd} (h : kindOf S d = some kd) : blt .isT [d] S = .ok (.bl (isKd .tuple kd)) S := isB h
theorem blt_isL {d : D} {kd : Kd} (h : kindOf S d = some kd) : blt .isL [d] S = .ok (.bl (isKd .list kd)) S := isB h
/-- a bool at the end of a call -/
theorem fin_bl {b : Bool} (q : Q (.bl b) S) : WP (fin S.length (.bl b) S) E Q := fin_pure rfl (by rw [take_all]; exact q)
theorem fin_p {d : D} (h : d.pure = true) (q : Q d S) : WP (fin S.length d S) E Q := fin_pure (below_pure h) (by rw [take_all]; exact q)
def isInt : D → Bool
  | .int _ => true
  | _ => false
theorem kd_int {d : D} {kd : Kd} (h : kindOf S d = some kd) : (isKd .int kd && !isKd .bool kd) = isInt d := by
  cases d with
  | ref m =>
    unfold kindOf at h
    simp only at h
    split at h <;> cases h <;> rfl
  | glo _ => cases h
  | _ => cases h; rfl
theorem is_integer_ok {d : D} {kd : Kd} (hk : 1 ≤ k) (h : kindOf S d = some kd) (q : Q (.bl (isInt d)) S) : WP (callF FT k c_is_integer [d] S) E Q := by
  obtain ⟨k, rfl⟩ : ∃ j, k = j + 1 := ⟨k - 1, by omega⟩
  refine call_wp (fn := e_is_integer.fn) rfl rfl ?_
  show WX (execs _ b_is_integer [some d] S) _ _
  unfold b_is_integer
  simp [blt_isI h, blt_isB h]
  rw [← kd_int h] at q
  cases h1 : isKd .int kd with
  | false => rw [h1] at q; rw [tb_f]; exact fin_bl q
  | true =>
    rw [h1] at q
    rw [tb_t]
    cases h2 : isKd .bool kd with
    | false => rw [h2] at q; rw [tb_f]; exact fin_bl q
    | true => rw [h2] at q; rw [tb_t]; exact fin_bl q
def wholeB (d : D) (lo hi : Int) : Bool := match d with
  | .int i => decide (lo ≤ i) && decide (i ≤ hi)
  | _ => false
theorem is_whole_ok {d : D} {kd : Kd} {lo hi : Int} (hk : 2 ≤ k) (h : kindOf S d = some kd) (q : Q (.bl (wholeB d lo hi)) S) : WP (callF FT k c_is_whole [d, .int lo, .int hi] S) E Q := by
  obtain ⟨k, rfl⟩ : ∃ j, k = j + 1 := ⟨k - 1, by omega⟩
  refine call_wp (fn := e_is_whole.fn) rfl rfl ?_
  show WX (execs _ b_is_whole [some d, some (.int lo), some (.int hi)] S) _ _
  unfold b_is_whole
  simp
  refine is_integer_ok (by omega) h ?_
  cases d with
  | int i =>
    simp [isInt]
    refine tb_p (fun h1 => ?_) (fun h1 => ?_)
    · refine fin_bl ?_
      have : wholeB (.int i) lo hi = decide (i ≤ hi) := by simp [wholeB, h1]
      rw [← this]
      exact q
    · refine fin_bl ?_
      have : wholeB (.int i) lo hi = false := by simp [wholeB, h1]
      rw [← this]
      exact q
  | _ =>
    show TB (.bl false) _ _
    rw [tb_f]
    exact fin_bl q
def tupIn (d : D) (lo hi : Int) : Bool := match tupOf d with
  | some ds => decide (lo ≤ ds.length) && decide ((ds.length : Int) ≤ hi)
  | none => false
theorem is_tuple_of_ok {d : D} {kd : Kd} {lo hi : Int} (hk : 1 ≤ k) (h : kindOf S d = some kd) (q : Q (.bl (tupIn d lo hi)) S) : WP (callF FT k c_is_tuple_of [d, .int lo, .int hi] S) E Q := by
  obtain ⟨k, rfl⟩ : ∃ j, k = j + 1 := ⟨k - 1, by omega⟩
  refine call_wp (fn := e_is_tuple_of.fn) rfl rfl ?_
  show WX (execs _ b_is_tuple_of [some d, some (.int lo), some (.int hi)] S) _ _
  unfold b_is_tuple_of
  simp [blt_isT h]
  have key : ∀ ds : List D, tupOf d = some ds → blt .len [d] S = .ok (.int ds.length) S → TB (.bl true) (WP (blt .len [d] S) (fun c x S1 => below S.length x = true ∧ E c x (S1.take S.length)) fun y S2 => WO (cmp .le (.int lo) y S2) fun k_1 =>
      TB (.bl k_1) (WO (cmp .le y (.int hi) S2) fun k_2 => WP (fin S.length (.bl k_2) S2) E Q) (WP (fin S.length (.bl false) S2) E Q)) (WP (fin S.length (.bl false) S) E Q) := fun ds hd hl => by
    have e : tupIn d lo hi = (decide (lo ≤ ds.length) && decide ((ds.length : Int) ≤ hi)) := by unfold tupIn; rw [hd]
    rw [e] at q
    rw [tb_t, hl, wp_ok, le_int, wo_some]
    refine tb_p (fun h1 => ?_) (fun h1 => ?_)
    · rw [le_int, wo_some]
      rw [decide_eq_true h1] at q
      exact fin_bl q
    · rw [decide_eq_false h1] at q
      exact fin_bl q
  have no : tupOf d = none → isKd .tuple kd = false → TB (.bl (isKd .tuple kd)) (WP (blt .len [d] S) (fun c x S1 => below S.length x = true ∧ E c x (S1.take S.length)) fun y S2 => WO (cmp .le (.int lo) y S2) fun k_1 =>
      TB (.bl k_1) (WO (cmp .le y (.int hi) S2) fun k_2 => WP (fin S.length (.bl k_2) S2) E Q) (WP (fin S.length (.bl false) S2) E Q)) (WP (fin S.length (.bl false) S) E Q) := fun h1 h2 => by
    have e : tupIn d lo hi = false := by unfold tupIn; rw [h1]
    rw [e] at q
    rw [h2, tb_f]
    exact fin_bl q
  cases d with
  | tup ds => cases h; exact key ds rfl rfl
  | mix ds => cases h; exact key ds rfl rfl
  | ref m =>
    refine no rfl ?_
    unfold kindOf at h
    simp only at h
    split at h <;> cases h <;> rfl
  | glo _ => cases h
  | _ => cases h; exact no rfl rfl
theorem optBl_of {f : D → Bool} : ∀ {ds : List D}, optAll boolOf (ds.map fun d => D.bl (f d)) = some (ds.map f)
  | [] => rfl
  | d :: ds => by
    simp only [List.map_cons, optAll, boolOf]
    rw [optBl_of]
/-- all of a list of bools that is made of a text's signs, a tuple's items -/
theorem all_each {cf : CF} {own : List Nat} {g : Tg} {cs : Exs} {e : Ex} {env : Env} {ds : List D} {f : D → Bool} {E' : EE} (hl : ds.length < 100000) (hb : ∀ d ∈ ds, WP (lcB cf own g cs e env d S) (fun _ _ _ => False) fun o S1 => o = some (.bl (f d)) ∧ S1.take S.length = S)
    (q : Q (.bl (ds.all f)) (S ++ [.lst (ds.map fun d => .bl (f d))])) :
    WP (lcGo (lcB cf own g cs e env) (.fix ds) fuel 0 [] S) E' fun as S2 => as.length ≤ 16777216 ∧ WP (blt .all [.ref S2.length] (S2 ++ [.lst as])) E' Q := by
  refine lc_each (fun i acc S' => S' = S ∧ acc = (ds.take i).map fun d => .bl (f d)) (by unfold fuel; omega) ⟨rfl, rfl⟩ (fun i d acc S' hd ⟨hS, ha⟩ => ?_) fun acc S' ⟨hS, ha⟩ => ?_
  · subst hS ha
    refine WP.mono (hb d (List.mem_of_getElem? hd)) fun o S1 ⟨h1, h2⟩ => ⟨_, h1, rfl, h2, ?_⟩
    rw [List.take_add_one, hd]
    simp
  · subst hS
    rw [List.take_length] at ha
    subst ha
    refine ⟨by rw [List.length_map]; omega, ?_⟩
    have e1 : blt .all [.ref S'.length] (S' ++ [.lst (ds.map fun d => D.bl (f d))]) = .ok (.bl (ds.all f)) (S' ++ [.lst (ds.map fun d => D.bl (f d))]) := by
      show bAll (.ref S'.length) _ = _
      unfold bAll
      rw [lstOf_ref (ds := ds.map fun d => D.bl (f d)) (by simp)]
      simp only [optBl_of]
      rw [List.all_map]
      rfl
    rw [e1, wp_ok]
    exact q
/-! ### names -/
theorem in_text {c : Nat} {y : Str} : cmp .isin (.str ⟨#[c]⟩) (.str y) S = some (y.cps.toList.contains c) := rfl
def abc : Str := "abcdefghijklmnopqrstuvwxyz"
theorem abc_mem (c : Nat) : abc.cps.toList.contains c = (Nat.ble 97 c && Nat.ble c 122) := by
  have e : abc.cps.toList = (List.range 26).map (· + 97) := by decide
  rw [e, Bool.eq_iff_iff]
  constructor
  · intro h
    obtain ⟨j, hj, rfl⟩ := List.mem_map.mp (by simpa using h : c ∈ (List.range 26).map (· + 97))
    have := List.mem_range.mp hj
    rw [Nat.ble_eq_true_of_le (by omega), Nat.ble_eq_true_of_le (by omega)]
    rfl
  · intro h
    obtain ⟨h1, h2⟩ := Bool.and_eq_true_iff.mp h
    have h1 := Nat.le_of_ble_eq_true h1
    have h2 := Nat.le_of_ble_eq_true h2
    have : c ∈ (List.range 26).map (· + 97) := List.mem_map.mpr ⟨c - 97, List.mem_range.mpr (by omega), by omega⟩
    simpa using this
def nameB (d : D) : Bool := match d with
  | .str x => wordB x
  | _ => false
theorem fits_name_ok {d : D} {kd : Kd} (hk : 2 ≤ k) (h : kindOf S d = some kd) (hs : ∀ x, d = .str x → x.cps.size < 10000) (q : Q (.bl (nameB d)) S) : WP (callF FT k c_fits_name [d] S) E Q := by
  obtain ⟨k, rfl⟩ : ∃ j, k = j + 1 := ⟨k - 1, by omega⟩
  refine call_wp (fn := e_fits_name.fn) rfl rfl ?_
  show WX (execs _ b_fits_name [some d] S) _ _
  unfold b_fits_name
  simp
  obtain ⟨k, rfl⟩ : ∃ j, k = j + 1 := ⟨k - 1, by omega⟩
  refine call_wp (fn := e_is_text_of.fn) rfl rfl ?_
  show WX (execs _ b_is_text_of [some d, some (.str abc), some (.int 1), some (.int 12), none, none] S) _ _
  unfold b_is_text_of
  simp [blt_isS h]
  have no : isKd .str kd = false → nameB d = false → ∀ P : Prop, TB (.bl (isKd .str kd)) P (WP (fin S.length (.bl false) S) (fun c x S1 => below S.length x = true ∧ E c x (S1.take S.length)) fun d S1 => WP (fin S.length d S1) E Q) := fun h1 h2 P => by
    rw [h1, tb_f]
    rw [h2] at q
    exact fin_bl (fin_bl q)
  cases d with
  | str x =>
    cases h
    have hx := hs x rfl
    have el : blt .len [.str x] S = .ok (.int (x.cps.size : Int)) S := by
      show bLen (.str x) S = _
      unfold bLen
      have : Nat.ble x.length sizeLine = true := Nat.ble_eq_true_of_le (by rw [szl]; show x.cps.size ≤ _; omega)
      simp only [this]
      rfl
    show TB (.bl true) _ _
    rw [tb_t, el, wp_ok, le_int, wo_some]
    have nb : nameB (.str x) = (Nat.ble 1 x.cps.size && Nat.ble x.cps.size 12 && x.cps.toList.all fun c => Nat.ble 97 c && Nat.ble c 122) := rfl
    have small : ∀ b : Bool, (decide ((1 : Int) ≤ x.cps.size) && decide ((x.cps.size : Int) ≤ 12)) = false → WP (fin S.length (.bl false) S) (fun c x S1 => below S.length x = true ∧ E c x (S1.take S.length)) fun d S1 => WP (fin S.length d S1) E Q := fun b hb => by
      have : nameB (.str x) = false := by
        rw [nb]
        have : (Nat.ble 1 x.cps.size && Nat.ble x.cps.size 12) = false := by
          cases e : (Nat.ble 1 x.cps.size && Nat.ble x.cps.size 12) with
          | false => rfl
          | true =>
            obtain ⟨e1, e2⟩ := Bool.and_eq_true_iff.mp e
            have e1 := Nat.le_of_ble_eq_true e1
            have e2 := Nat.le_of_ble_eq_true e2
            rw [decide_eq_true (by omega), decide_eq_true (by omega)] at hb
            cases hb
        rw [this]
        rfl
      rw [this] at q
      exact fin_bl (fin_bl q)
    refine tb_p (fun h1 => ?_) (fun h1 => ?_)
    · rw [le_int, wo_some]
      refine tb_p (fun h2 => ?_) (fun h2 => ?_)
      · show WP (lcGo _ (.fix (chars x)) fuel 0 [] S) _ _
        have ch : ∀ d ∈ chars x, ∃ c, d = .str ⟨#[c]⟩ := fun d hd => by
          obtain ⟨c, _, rfl⟩ := List.mem_map.mp hd
          exact ⟨c, rfl⟩
        have cl : (chars x).length = x.cps.size := by unfold chars; rw [List.length_map, Array.length_toList]
        let f : D → Bool := fun d => match d with
          | .str y => abc.cps.toList.contains (y.cps.getD 0 0)
          | _ => false
        refine all_each (f := f) (by rw [cl]; omega) (fun d hd => ?_) ?_
        · obtain ⟨c, rfl⟩ := ch d hd
          rw [wp_lcB]
          simp [bindT, wipe, in_text]
          have : f (.str ⟨#[c]⟩) = abc.cps.toList.contains c := rfl
          rw [this]
          simp
        · have e2 : (chars x).all f = x.cps.toList.all fun c => Nat.ble 97 c && Nat.ble c 122 := by
            unfold chars
            rw [List.all_map]
            refine List.all_congr rfl fun c => ?_
            show abc.cps.toList.contains c = _
            exact abc_mem c
          rw [e2]
          have : nameB (.str x) = x.cps.toList.all fun c => Nat.ble 97 c && Nat.ble c 122 := by
            rw [nb, Nat.ble_eq_true_of_le (by omega), Nat.ble_eq_true_of_le (by omega)]
            rfl
          rw [← this]
          refine fin_pure rfl ?_
          rw [take_app]
          exact fin_bl q
      · exact small true (by rw [decide_eq_false h2]; simp)
    · exact small true (by rw [decide_eq_false h1]; simp)
  | ref m =>
    refine no ?_ rfl _
    unfold kindOf at h
    simp only at h
    split at h <;> cases h <;> rfl
  | glo _ => cases h
  | _ => cases h; exact no rfl rfl _
end
end DE
/-! GR2: values measured. -/
namespace DE
open PySem (Str PyData sizeLine)
section
variable {k n p : Nat} {S : Sto} {E : EE} {Q : D → Sto → Prop}
theorem set_at {a x : O} {L : Sto} : (S ++ a :: L).set S.length x = S ++ x :: L := by
  rw [List.set_append_right _ _ (Nat.le_refl _), Nat.sub_self]
  rfl
theorem get_at {a : O} {L : Sto} : (S ++ a :: L)[S.length]? = some a := by
  rw [List.getElem?_append_right (Nat.le_refl _), Nat.sub_self]
  rfl
theorem get_at1 {a b : O} {L : Sto} : (S ++ a :: b :: L)[S.length + 1]? = some b := by
  rw [List.getElem?_append_right (by omega), Nat.add_sub_cancel_left]
  rfl
theorem get_at2 {a b c : O} {L : Sto} : (S ++ a :: b :: c :: L)[S.length + 2]? = some c := by
  rw [List.getElem?_append_right (by omega), Nat.add_sub_cancel_left]
  rfl
theorem take_at {a : O} {L : Sto} : (S ++ a :: L).take (S.length + 1) = S ++ [a] := by
  rw [List.take_append, List.take_of_length_le (by omega), Nat.add_sub_cancel_left]
  rfl
theorem trim_at {a : O} {L : Sto} {env : Env} (h : envBelow (S.length + 1) env = true) : trim (S.length + 1) env (S ++ a :: L) = S ++ [a] := by
  unfold trim
  rw [h]
  exact take_at
theorem mth_pop {m : Nat} {ds : List D} {d : D} (h : S[m]? = some (.lst (ds ++ [d]))) : mth .pop (.ref m) [] S = .ok d (S.set m (.lst ds)) := by
  show mPop (.ref m) S = _
  unfold mPop
  rw [lstOf_ref h]
  have : (ds ++ [d])[(ds ++ [d]).length - 1]? = some d := by simp
  simp only [this, List.dropLast_concat]
  rfl
theorem mth_extend {m j : Nat} {ds es : List D} (h : S[m]? = some (.lst ds)) (h2 : S[j]? = some (.lst es)) (hb : belows m es = true) (hl : ds.length + es.length ≤ sizeLine) : mth .extend (.ref m) [.ref j] S = .ok .non (S.set m (.lst (ds ++ es))) := by
  show mExtend (.ref m) (.ref j) S = _
  unfold mExtend
  rw [lstOf_ref h]
  simp only [lstOf_ref h2]
  have : (belows m es && Nat.ble (ds.length + es.length) sizeLine) = true := by rw [hb, Nat.ble_eq_true_of_le hl]; rfl
  simp only [this]
  rfl
theorem envB_of {m : Nat} : ∀ {env : Env}, (∀ d, some d ∈ env → below m d = true) → envBelow m env = true
  | [], _ => rfl
  | none :: r, h => envB_of (env := r) fun d hd => h d (List.mem_cons_of_mem _ hd)
  | some d :: r, h => Bool.and_eq_true_iff.mpr ⟨h d List.mem_cons_self, envB_of (env := r) fun d hd => h d (List.mem_cons_of_mem _ hd)⟩
def pureO : Option D → Prop
  | some d => d.pure = true
  | none => True
theorem trim6 {x a b : D} {t4 t5 : Option D} {o : O} {L : Sto} (hx : x.pure = true) (ha : a.pure = true) (hb : b.pure = true) (h4 : pureO t4) (h5 : pureO t5) : trim (S.length + 1) [some x, some a, some b, some (.ref S.length), t4, t5] (S ++ o :: L) = S ++ [o] := by
  refine trim_at (envB_of fun d hd => ?_)
  simp only [List.mem_cons, List.not_mem_nil, or_false, Option.some.injEq] at hd
  rcases hd with rfl | rfl | rfl | rfl | rfl | rfl
  · exact below_pure hx
  · exact below_pure ha
  · exact below_pure hb
  · exact Nat.ble_eq_true_of_le (Nat.le_refl _)
  · exact below_pure h4
  · exact below_pure h5
def atomB (d : D) : Bool := wholeB d (1 - 1000000000000000000000000000000000000000000000000000000000000) (1000000000000000000000000000000000000000000000000000000000000 - 1) || nameB d
theorem is_atom_ok {d : D} {kd : Kd} (hk : 3 ≤ k) (h : kindOf S d = some kd) (hs : ∀ x, d = .str x → x.cps.size < 10000) (q : Q (.bl (atomB d)) S) : WP (callF FT k c_is_atom [d] S) E Q := by
  obtain ⟨k, rfl⟩ : ∃ j, k = j + 1 := ⟨k - 1, by omega⟩
  refine call_wp (fn := e_is_atom.fn) rfl rfl ?_
  show WX (execs _ b_is_atom [some d] S) _ _
  unfold b_is_atom
  simp only [wxs_cons, wx_ret, wp_or, wp_call, wps_cons, wps_nil, wp_loc, wp_bin, wp_cst, bin_sub, wp_ok, List.getElem?_cons_zero, Option.join_some, wo_some]
  refine is_whole_ok (by omega) h ?_
  cases hw : wholeB d (1 - 1000000000000000000000000000000000000000000000000000000000000) (1000000000000000000000000000000000000000000000000000000000000 - 1) with
  | true =>
    rw [tb_t]
    have : atomB d = true := by unfold atomB; rw [hw]; rfl
    rw [this] at q
    exact fin_bl (E := E) q
  | false =>
    rw [tb_f]
    have : atomB d = nameB d := by unfold atomB; rw [hw]; rfl
    rw [this] at q
    exact fits_name_ok (by omega) h hs (fin_bl (E := E) q)
theorem Vl.kd (v : Vl) : ∃ kd, kindOf S v.d = some kd := by
  cases v with
  | int i => exact ⟨_, rfl⟩
  | str x => exact ⟨_, rfl⟩
  | pair a b => exact ⟨_, rfl⟩
theorem word_size {x : Str} (h : wordB x = true) : 1 ≤ x.cps.size ∧ x.cps.size ≤ 12 := by
  unfold wordB at h
  obtain ⟨h, _⟩ := Bool.and_eq_true_iff.mp h
  obtain ⟨h1, h2⟩ := Bool.and_eq_true_iff.mp h
  exact ⟨Nat.le_of_ble_eq_true h1, Nat.le_of_ble_eq_true h2⟩
theorem Vl.atom {v : Vl} (h : v.ok) : (∃ a b, v = .pair a b) ∨ (tupIn v.d 2 2 = false ∧ atomB v.d = true ∧ v.sz = 1 ∧ ∀ x, v.d = .str x → x.cps.size < 10000) := by
  cases v with
  | pair a b => exact .inl ⟨a, b, rfl⟩
  | int i =>
    obtain ⟨h1, h2⟩ := h
    refine .inr ⟨rfl, ?_, rfl, fun x hx => by cases hx⟩
    unfold atomB
    have : wholeB (Vl.int i).d (1 - 1000000000000000000000000000000000000000000000000000000000000) (1000000000000000000000000000000000000000000000000000000000000 - 1) = true := by
      show (decide _ && decide _) = true
      rw [decide_eq_true (by omega), decide_eq_true (by omega)]
      rfl
    rw [this]
    rfl
  | str x =>
    refine .inr ⟨rfl, ?_, rfl, fun y hy => ?_⟩
    · unfold atomB
      have : nameB (Vl.str x).d = true := h
      rw [this, Bool.or_true]
    · cases hy
      have := (word_size h).2
      omega
def tdD (t : Vl × Nat) : D := .tup [t.1.d, .int (t.2 : Int)]
def tsz : List (Vl × Nat) → Nat
  | [] => 0
  | t :: ts => t.1.sz + tsz ts
theorem tsz_app : ∀ (a b : List (Vl × Nat)), tsz (a ++ b) = tsz a + tsz b
  | [], b => by simp [tsz]
  | t :: a, b => by simp only [List.cons_append, tsz, tsz_app a b]; omega
theorem tsz_len : ∀ (a : List (Vl × Nat)), a.length ≤ tsz a
  | [] => by simp [tsz]
  | t :: a => by
    have := tsz_len a
    have := t.1.sz_pos
    simp only [List.length_cons, tsz]
    omega
theorem last_of {α : Type} (l : List α) : l = [] ∨ ∃ a b, l = a ++ [b] := by
  rcases List.eq_nil_or_concat l with h | ⟨a, b, h⟩
  · exact .inl h
  · exact .inr ⟨a, b, by simpa using h⟩
theorem blt_max2 {i j : Int} : blt .max2 [.int i, .int j] S = .ok (.int (if j > i then j else i)) S := rfl
def M1 (S : Sto) (v : Vl) (m : Nat) (e : Env) (S' : Sto) : Prop := ∃ (ts : List (Vl × Nat)) (many deepest : Nat) (t4 t5 : Option D), e = [some v.d, some (.int (many : Int)), some (.int (deepest : Int)), some (.ref S.length), t4, t5] ∧ S' = S ++ [.lst (ts.map tdD)] ∧
  (∀ t ∈ ts, t.1.ok ∧ t.2 + t.1.dp ≤ v.dp) ∧ many + tsz ts = v.sz ∧ deepest ≤ v.dp ∧ m = 2 * tsz ts - ts.length ∧ pureO t4 ∧ pureO t5
def whlBody : Ss → List Ss
  | .whl _ _ b => b
  | _ => []
def mBody : List Ss := whlBody (b_measured.getD 1 .pass)
/-- the turn's last look -/
theorem m_end {x : D} {many deepest : Int} {t4 t5 : Option D} {E' : EE} {Q : Fl → Env → Sto → Prop} {ds : List D} {L : Sto} (h1 : many + ds.length ≤ 4000) (h2 : deepest ≤ 500) (q : Q .nx [some x, some (.int many), some (.int deepest), some (.ref S.length), t4, t5] (S ++ .lst ds :: L)) :
    WX (execs (callF FT k) (mBody.drop 2) [some x, some (.int many), some (.int deepest), some (.ref S.length), t4, t5] (S ++ .lst ds :: L)) E' Q := by
  unfold mBody b_measured
  simp only [List.getD_cons_succ, List.getD_cons_zero, whlBody, List.drop_succ_cons, List.drop_zero]
  rw [wxs_cons]
  simp [-wxs_cons]
  rw [blt_len_l get_at, wp_ok, bin_add, wp_ok, gt_int, wo_some, decide_eq_false (by omega), tb_f]
  have : decide (500 < deepest) = false := decide_eq_false (by omega)
  rw [this, tb_f]
  exact q
theorem m_turn {x : D} {many deepest : Nat} {t4 t5 : Option D} {E' : EE} {Q : Fl → Env → Sto → Prop} {ts : List (Vl × Nat)} {v : Vl} {j : Nat} (hk : 3 ≤ k) (ho : v.ok) (h1 : many + tsz ts + v.sz ≤ 4000) (hts : ∀ t ∈ ts, t.1.ok) (h2 : deepest ≤ 500) (h3 : j + v.dp ≤ 500)
    (q1 : ∀ a b, v = .pair a b → ∀ L, Q .nx [some x, some (.int (many : Int)), some (.int ((max deepest (j + 1) : Nat) : Int)), some (.ref S.length), some v.d, some (.int (j : Int))] (S ++ .lst ((ts ++ [(b, j + 1), (a, j + 1)]).map tdD) :: L))
    (q2 : v.sz = 1 → ∀ L, Q .nx [some x, some (.int ((many + 1 : Nat) : Int)), some (.int (deepest : Int)), some (.ref S.length), some v.d, some (.int (j : Int))] (S ++ .lst (ts.map tdD) :: L)) :
    WX (execs (callF FT k) mBody [some x, some (.int (many : Int)), some (.int (deepest : Int)), some (.ref S.length), t4, t5] (S ++ [.lst ((ts ++ [(v, j)]).map tdD), .lst []])) E' Q := by
  have cut : mBody = mBody.take 2 ++ mBody.drop 2 := (List.take_append_drop 2 mBody).symm
  rw [cut, wxs_app]
  generalize hR : mBody.drop 2 = R
  unfold mBody b_measured
  simp only [List.getD_cons_succ, List.getD_cons_zero, whlBody, List.take_succ_cons, List.take_zero]
  rw [wxs_cons]
  simp [-wxs_cons]
  refine ⟨mthOk_l get_at (by intro z; cases z), ?_⟩
  rw [mth_pop (ds := ts.map tdD) (d := tdD (v, j)) (by rw [get_at]), wp_ok, set_at]
  show WX (execs _ _ [some x, some (.int (many : Int)), some (.int (deepest : Int)), some (.ref S.length), some v.d, some (.int (j : Int))] _) _ _
  rw [wxs_cons]
  simp [-wxs_cons]
  obtain ⟨kd, hkd⟩ := v.kd (S := S ++ [.lst (ts.map tdD), .lst []])
  refine is_tuple_of_ok (by omega) hkd ?_
  rcases Vl.atom ho with ⟨a, b, rfl⟩ | ⟨ht, ha, hz, hs⟩
  · obtain ⟨oa, ob⟩ := ho
    have e1 : ∀ S', idx (Vl.pair a b).d (.int 1) S' = some b.d := fun _ => rfl
    have e0 : ∀ S', idx (Vl.pair a b).d (.int 0) S' = some a.d := fun _ => rfl
    have hdp : j + (max a.dp b.dp + 1) ≤ 500 := h3
    have hsz : many + tsz ts + (a.sz + b.sz) ≤ 4000 := h1
    have tl := tsz_len ts
    have pa := a.sz_pos
    have pb := b.sz_pos
    show TB (.bl true) _ _
    rw [tb_t, wxs_cons]
    simp [-wxs_cons, e1, e0, bin_add]
    refine ⟨mthOk_l get_at (by intro z; cases z), ?_⟩
    have ep : ([mkT [b.d, .int ((j : Int) + 1)], mkT [a.d, .int ((j : Int) + 1)]] : List D) = [(b, j + 1), (a, j + 1)].map tdD := by
      rw [mkT2 b.pure rfl, mkT2 a.pure rfl]
      rfl
    rw [ep, mth_extend (ds := ts.map tdD) (es := [(b, j + 1), (a, j + 1)].map tdD) get_at (by rw [get_at2]) (belows_pure rfl) (by rw [List.length_map, List.length_map, szl]; simp; omega), wp_ok, set_at, wxs_cons]
    simp [-wxs_cons, bin_add, blt_max2]
    subst hR
    have em : (if (deepest : Int) < (j : Int) + 1 then ((j : Int) + 1) else (deepest : Int)) = ((max deepest (j + 1) : Nat) : Int) := by
      split <;> omega
    rw [em]
    have el : ts.map tdD ++ [tdD (b, j + 1), tdD (a, j + 1)] = (ts ++ [(b, j + 1), (a, j + 1)]).map tdD := by simp
    rw [el]
    refine m_end (x := x) (many := (many : Int)) (deepest := ((max deepest (j + 1) : Nat) : Int)) ?_ (by omega) (q1 a b rfl _)
    rw [List.length_map, List.length_append]
    simp
    omega
  · rw [ht, tb_f, wxs_cons]
    simp [-wxs_cons]
    refine is_atom_ok (by omega) hkd hs ?_
    rw [ha, tb_t, wxs_cons]
    simp [-wxs_cons, bin_add]
    subst hR
    have tl := tsz_len ts
    refine m_end (x := x) (many := (many : Int) + 1) (deepest := (deepest : Int)) ?_ (by omega) (q2 hz _)
    rw [List.length_map]
    omega
theorem measured_ok {v : Vl} (hk : 4 ≤ k) (ho : v.ok) (hz : v.sz ≤ 4000) (hd : v.dp ≤ 500) (q : ∀ a b : Int, Q (.tup [.int a, .int b]) S) : WP (callF FT k c_measured [v.d] S) E Q := by
  obtain ⟨k, rfl⟩ : ∃ j, k = j + 1 := ⟨k - 1, by omega⟩
  refine call_wp (fn := e_measured.fn) rfl rfl ?_
  generalize (fun c x S1 => below S.length x = true ∧ E c x (S1.take S.length) : EE) = E'
  show WX (execs _ b_measured [some v.d, none, none, none, none, none] S) _ _
  unfold b_measured
  rw [wxs_cons]
  simp [-wxs_cons, setMany]
  rw [mkT2 v.pure rfl, wxs_cons, wx_whl]
  refine whl_rule (M1 S v) (2 * v.sz - 1) (by unfold fuel; omega) ⟨[(v, 0)], 0, 0, none, none, rfl, by simp [tdD], fun t ht => by
    rw [List.mem_singleton.mp ht]
    exact ⟨ho, (by show 0 + v.dp ≤ v.dp; omega)⟩, by simp [tsz], Nat.zero_le _, by simp [tsz], trivial, trivial⟩ fun m e S' hM => ?_
  obtain ⟨ts, many, deepest, t4, t5, rfl, rfl, hts, hsum, hdp, hm, ht4, ht5⟩ := hM
  simp [-wxs_cons]
  have dat : ∀ d ∈ ts.map tdD, Dat 600 d := fun d hd2 => by
    obtain ⟨t, ht, rfl⟩ := List.mem_map.mp hd2
    obtain ⟨h1, h2⟩ := hts t ht
    refine .tup (n := 599) fun x hx => ?_
    simp only [List.mem_cons, List.not_mem_nil, or_false] at hx
    rcases hx with rfl | rfl
    · exact (Vl.dat h1).mono (by omega)
    · exact .int
  rw [ne_nil (ds := ts.map tdD) (by rw [get_at]) (by rw [get_at1]) dat (by decide), wo_some]
  have pv : below (S.length + 1) v.d = true := vl_below v
  rcases last_of ts with rfl | ⟨us, ⟨w, j⟩, rfl⟩
  · show TB (.bl false) _ _
    rw [tb_f, trim6 v.pure rfl rfl ht4 ht5]
    simp
    exact fin_pure rfl (by rw [mkT2 rfl rfl, take_app]; exact q _ _)
  · have : (!(List.map tdD (us ++ [(w, j)])).isEmpty) = true := by simp
    rw [this, tb_t]
    obtain ⟨wo, wd⟩ := hts (w, j) (by simp)
    simp only at wo wd
    have tot : many + tsz us + w.sz = v.sz := by rw [← hsum, tsz_app]; simp [tsz]; omega
    have ul := tsz_len us
    have pw := w.sz_pos
    have tl : tsz (us ++ [(w, j)]) = tsz us + w.sz := by rw [tsz_app]; simp [tsz]
    rw [tl] at hm
    rw [List.length_append] at hm
    simp only [List.length_cons, List.length_nil] at hm
    refine ⟨by omega, ?_⟩
    refine m_turn (by omega) wo (by omega) (fun t ht => (hts t (List.mem_append_left _ ht)).1) (by omega) (by omega) (fun a b hab L => ?_) fun h1 L => ?_
    · subst hab
      have pa := a.sz_pos
      have pb := b.sz_pos
      have zz : (Vl.pair a b).sz = a.sz + b.sz := rfl
      have dd : (Vl.pair a b).dp = max a.dp b.dp + 1 := rfl
      rw [zz] at hm tot
      refine ⟨2 * tsz (us ++ [(b, j + 1), (a, j + 1)]) - (us ++ [(b, j + 1), (a, j + 1)]).length, ?_, us ++ [(b, j + 1), (a, j + 1)], many, max deepest (j + 1), _, _, rfl, trim6 v.pure rfl rfl rfl rfl, ?_, ?_, by omega, rfl, rfl, rfl⟩
      · rw [tsz_app, List.length_append]
        simp [tsz]
        omega
      · intro t ht
        rcases List.mem_append.mp ht with ht | ht
        · exact hts t (List.mem_append_left _ ht)
        · simp only [List.mem_cons, List.not_mem_nil, or_false] at ht
          rcases ht with rfl | rfl
          · exact ⟨wo.2, by show j + 1 + b.dp ≤ _; omega⟩
          · exact ⟨wo.1, by show j + 1 + a.dp ≤ _; omega⟩
      · rw [tsz_app]
        simp [tsz]
        omega
    · refine ⟨2 * tsz us - us.length, by omega, us, many + 1, deepest, _, _, rfl, trim6 v.pure rfl rfl w.pure rfl, fun t ht => hts t (List.mem_append_left _ ht), by omega, hdp, rfl, w.pure, rfl⟩
/-- no value: seen at once -/
theorem measured_bad {n : Nat} {d : D} {kd : Kd} (hk : 4 ≤ k) (hd : Dat n d) (hn : n < 900) (h : ∀ S, kindOf S d = some kd) (h1 : tupIn d 2 2 = false) (h2 : atomB d = false) (hs : ∀ x, d = .str x → x.cps.size < 10000) (q : Q .non S) : WP (callF FT k c_measured [d] S) E Q := by
  obtain ⟨k, rfl⟩ : ∃ j, k = j + 1 := ⟨k - 1, by omega⟩
  refine call_wp (fn := e_measured.fn) rfl rfl ?_
  generalize (fun c x S1 => below S.length x = true ∧ E c x (S1.take S.length) : EE) = E'
  show WX (execs _ b_measured [some d, none, none, none, none, none] S) _ _
  unfold b_measured
  rw [wxs_cons]
  simp [-wxs_cons, setMany]
  rw [mkT2 hd.pure rfl, wxs_cons, wx_whl]
  refine whl_rule (fun m e S' => m = 1 ∧ e = [some d, some (.int 0), some (.int 0), some (.ref S.length), none, none] ∧ S' = S ++ [.lst [.tup [d, .int 0]]]) 1 (by unfold fuel; omega) ⟨rfl, rfl, rfl⟩ fun m e S' ⟨hm, he, hS⟩ => ?_
  subst he hS
  simp [-wxs_cons]
  have dat : ∀ x ∈ ([.tup [d, .int 0]] : List D), Dat (n + 1) x := fun x hx => by
    rw [List.mem_singleton.mp hx]
    refine .tup fun y hy => ?_
    simp only [List.mem_cons, List.not_mem_nil, or_false] at hy
    rcases hy with rfl | rfl
    · exact hd
    · exact .int
  rw [ne_nil (ds := [.tup [d, .int 0]]) (by rw [get_at]) (by rw [get_at1]) dat (by omega), wo_some]
  show TB (.bl true) _ _
  rw [tb_t, wxs_cons]
  simp [-wxs_cons]
  refine ⟨by omega, mthOk_l get_at (by intro z; cases z), ?_⟩
  rw [mth_pop (ds := []) (d := .tup [d, .int 0]) (by rw [get_at]; rfl), wp_ok, set_at]
  show WX (execs _ _ [some d, some (.int 0), some (.int 0), some (.ref S.length), some d, some (.int 0)] _) _ _
  rw [wxs_cons]
  simp [-wxs_cons]
  refine is_tuple_of_ok (by omega) (h _) ?_
  rw [h1, tb_f, wxs_cons]
  simp [-wxs_cons]
  refine is_atom_ok (by omega) (h _) hs ?_
  rw [h2, tb_f, wxs_cons]
  simp
  exact fin_pure rfl (by rw [take_app]; exact q)
theorem isn_non {d : D} : cmp .isn d .non S = some (!(match d with | .non => true | _ => false)) := by
  cases d <;> rfl
theorem fits_value_ok {v : Vl} (hk : 5 ≤ k) (ho : v.ok) (hz : v.sz ≤ 4000) (hd : v.dp ≤ 500) (q : Q (.bl true) S) : WP (callF FT k c_fits_value [v.d] S) E Q := by
  obtain ⟨k, rfl⟩ : ∃ j, k = j + 1 := ⟨k - 1, by omega⟩
  refine call_wp (fn := e_fits_value.fn) rfl rfl ?_
  show WX (execs _ b_fits_value [some v.d] S) _ _
  unfold b_fits_value
  simp
  refine measured_ok (by omega) ho hz hd fun a b => ?_
  rw [isn_non]
  exact fin_bl (E := E) q
theorem fits_value_bad {n : Nat} {d : D} {kd : Kd} (hk : 5 ≤ k) (hd : Dat n d) (hn : n < 900) (h : ∀ S, kindOf S d = some kd) (h1 : tupIn d 2 2 = false) (h2 : atomB d = false) (hs : ∀ x, d = .str x → x.cps.size < 10000) (q : Q (.bl false) S) : WP (callF FT k c_fits_value [d] S) E Q := by
  obtain ⟨k, rfl⟩ : ∃ j, k = j + 1 := ⟨k - 1, by omega⟩
  refine call_wp (fn := e_fits_value.fn) rfl rfl ?_
  show WX (execs _ b_fits_value [some d] S) _ _
  unfold b_fits_value
  simp
  refine measured_bad (by omega) hd hn h h1 h2 hs ?_
  rw [isn_non]
  exact fin_bl (E := E) q
/-- a tuple of values -/
theorem are_values_ok {vs : List Vl} {lo hi : Int} (hk : 6 ≤ k) (hl : vs.length < 1000) (hv : ∀ v ∈ vs, v.ok ∧ v.sz ≤ 4000 ∧ v.dp ≤ 500) (q : Q (.bl (decide (lo ≤ vs.length) && decide ((vs.length : Int) ≤ hi))) S) : WP (callF FT k c_are_values [.tup (vs.map Vl.d), .int lo, .int hi] S) E Q := by
  obtain ⟨k, rfl⟩ : ∃ j, k = j + 1 := ⟨k - 1, by omega⟩
  refine call_wp (fn := e_are_values.fn) rfl rfl ?_
  show WX (execs _ b_are_values [some (.tup (vs.map Vl.d)), some (.int lo), some (.int hi), none, none] S) _ _
  unfold b_are_values
  simp
  refine is_tuple_of_ok (by omega) (kd := .tup) rfl ?_
  have e : tupIn (.tup (vs.map Vl.d)) lo hi = (decide (lo ≤ vs.length) && decide ((vs.length : Int) ≤ hi)) := by
    unfold tupIn
    simp [tupOf]
  rw [e]
  cases hb : (decide (lo ≤ vs.length) && decide ((vs.length : Int) ≤ hi)) with
  | false =>
    rw [hb] at q
    rw [tb_f]
    exact fin_bl (E := E) q
  | true =>
    rw [hb] at q
    rw [tb_t]
    show WP (lcGo _ (.fix (vs.map Vl.d)) fuel 0 [] S) _ _
    refine all_each (f := fun _ => true) (by rw [List.length_map]; omega) (fun d hd => ?_) ?_
    · obtain ⟨v, hv2, rfl⟩ := List.mem_map.mp hd
      obtain ⟨o, z, dd⟩ := hv v hv2
      rw [wp_lcB]
      simp [bindT, wipe]
      refine fits_value_ok (by omega) o z dd ?_
      simp
    · have : (vs.map Vl.d).all (fun _ => true) = true := by simp
      rw [this]
      exact fin_pure rfl (by rw [take_app]; exact q)
end
end DE
/-! GR3: terms judged. -/
namespace DE
open PySem (Str PyData sizeLine)
section
variable {k n p : Nat} {S : Sto} {E : EE} {Q : D → Sto → Prop}
@[simp] theorem ofS_inj {a b : String} : (Str.ofString a = Str.ofString b) = (a = b) := by
  refine propext ⟨fun h => ?_, fun h => by rw [h]⟩
  rw [Str.ofString_eq_toList, Str.ofString_eq_toList] at h
  injection h with h
  have e : a.toList.map Char.toNat = b.toList.map Char.toNat := by simpa using h
  have inj : ∀ {l m : List Char}, l.map Char.toNat = m.map Char.toNat → l = m := fun {l m} => by
    induction l generalizing m with
    | nil => intro h; cases m with | nil => rfl | cons _ _ => cases h
    | cons c l ih =>
      intro h
      cases m with
      | nil => cases h
      | cons d m =>
        rw [List.map_cons, List.map_cons] at h
        injection h with h1 h2
        rw [ih h2, Char.ext (UInt32.toNat_inj.mp h1)]
  exact String.toList_inj.mp (inj e)
theorem eq_str {a b : Str} (ha : PyData.strOk a = true) (hb : PyData.strOk b = true) : cmp .eq (.str a) (.str b) S = some (decide (a = b)) := by
  rw [eq_dat (n := 0) (m := 0) (.str ha) (.str hb) (by decide) (by decide) (by decide)]
  simp [dP, PyData.eqv]
  by_cases h : a = b
  · subst h; simp
  · simp [h]
/-- the words of terms -/
def kws : List Str := ["name", "value", "do", "if", "let", "halt", "call"]
theorem eq_kw {a b : Str} (ha : a ∈ kws) (hb : b ∈ kws) : cmp .eq (.str a) (.str b) S = some (decide (a = b)) := by
  have all : ∀ x ∈ kws, wordB x = true := by decide
  exact eq_str (word_ok (all a ha)) (word_ok (all b hb))
theorem eq_w {a b : String} (ha : wordB (Str.ofString a) = true) (hb : wordB (Str.ofString b) = true) : cmp .eq (.str (Str.ofString a)) (.str (Str.ofString b)) S = some (decide (a = b)) := by
  rw [eq_str (word_ok ha) (word_ok hb)]
  congr 1
  exact decide_eq_decide.mpr (by rw [ofS_inj])
@[simp] theorem w_name : wordB "name" = true := by decide
@[simp] theorem w_value : wordB "value" = true := by decide
@[simp] theorem w_do : wordB "do" = true := by decide
@[simp] theorem w_if : wordB "if" = true := by decide
@[simp] theorem w_let : wordB "let" = true := by decide
@[simp] theorem w_halt : wordB "halt" = true := by decide
@[simp] theorem w_call : wordB "call" = true := by decide
theorem in2 {a b x : Str} : cmp .isin (.str x) (.tup [.str a, .str b]) S = some (decide (x ∈ [a, b])) := in_words (xs := [a, b])
theorem idx_t0 {a : D} {as : List D} : idx (.tup (a :: as)) (.int 0) S = some a := by
  show (ixN (as.length + 1) 0).bind (fun j => (a :: as)[j]?) = _
  rw [ixN_nn (by decide) (by omega)]
  rfl
theorem idx_t1 {a b : D} {as : List D} : idx (.tup (a :: b :: as)) (.int 1) S = some b := by
  show (ixN (as.length + 1 + 1) 1).bind (fun j => (a :: b :: as)[j]?) = _
  rw [ixN_nn (by decide) (by omega)]
  rfl
theorem idx_t2 {a b c : D} {as : List D} : idx (.tup (a :: b :: c :: as)) (.int 2) S = some c := by
  show (ixN (as.length + 1 + 1 + 1) 2).bind (fun j => (a :: b :: c :: as)[j]?) = _
  rw [ixN_nn (by decide) (by omega)]
  rfl
theorem idx_t3 {a b c d : D} {as : List D} : idx (.tup (a :: b :: c :: d :: as)) (.int 3) S = some d := by
  show (ixN (as.length + 1 + 1 + 1 + 1) 3).bind (fun j => (a :: b :: c :: d :: as)[j]?) = _
  rw [ixN_nn (by decide) (by omega)]
  rfl
theorem slc_drop {ds : List D} {i : Int} (h : 0 ≤ i) : slc (.tup ds) (.int i) .non S = .ok (mkT (ds.drop i.toNat)) S := by
  show R.ok (mkT (cut ds (some i) none)) S = _
  have : cut ds (some i) none = ds.drop i.toNat := by
    have e1 : sIx ds.length 0 (some i) = min i.toNat ds.length := if_neg (by omega)
    have e2 : sIx ds.length ds.length none = ds.length := rfl
    unfold cut
    rw [e1, e2]
    have : ds.drop (min i.toNat ds.length) = ds.drop i.toNat := by
      rcases Nat.le_total i.toNat ds.length with h | h
      · rw [Nat.min_eq_left h]
      · rw [Nat.min_eq_right h, List.drop_length, List.drop_of_length_le h]
    rw [this, List.take_of_length_le]
    rw [List.length_drop]
    omega
  rw [this]
theorem blt_list_t {ds : List D} : blt .list [.tup ds] S = newL ds S := rfl
def Tm.parts : Tm → List Tm
  | .doo _ as => as
  | .call _ as => as
  | .iff t a b => [t, a, b]
  | .lett _ a b => [a, b]
  | _ => []
/-- a list that was made, handed out -/
theorem fin_new {L : Sto} {m : Nat} {ds : List D} (hm : L[m]? = some (.lst ds)) (hb : ds.all D.pure = true) (q : Q (.ref S.length) (S ++ [.lst ds])) : WP (fin S.length (.ref (S.length + m)) (S ++ L)) E Q := by
  refine fin_list (by omega) (ds := ds) ?_ (belows_pure hb) ?_
  · rw [List.getElem?_append_right (by omega), Nat.add_sub_cancel_left]
    exact hm
  · rw [take_app]
    exact q
theorem parts_ok {e : Tm} (hk : 1 ≤ k) (hl : e.parts.length ≤ 8) (q : Q (.ref S.length) (S ++ [.lst (e.parts.map Tm.d)])) : WP (callF FT k c_parts_in [e.d] S) E Q := by
  obtain ⟨k, rfl⟩ : ∃ j, k = j + 1 := ⟨k - 1, by omega⟩
  refine call_wp (fn := e_parts_in.fn) rfl rfl ?_
  generalize (fun c x S1 => below S.length x = true ∧ E c x (S1.take S.length) : EE) = E'
  show WX (execs _ b_parts_in [some e.d, none] S) _ _
  have dsp : ∀ ts : List Tm, (ts.map Tm.d).all D.pure = true := fun ts => by rw [← Tm.ds_map]; exact Tm.ds_pure ts
  have done : ∀ ds : List D, ds = e.parts.map Tm.d → ds.length ≤ sizeLine ∧ WP (fin S.length (.ref S.length) (S ++ [.lst ds])) E Q := fun ds hds => by
    subst hds
    refine ⟨by rw [List.length_map, szl]; omega, ?_⟩
    exact fin_new (L := [.lst (e.parts.map Tm.d)]) (m := 0) rfl (dsp _) q
  unfold b_parts_in
  rw [wxs_cons]
  cases e with
  | name x =>
    simp [Tm.d, idx_t0, mkT, in2, eq_w]
    exact (done [] rfl).2
  | val x =>
    simp [Tm.d, idx_t0, mkT, in2, eq_w]
    exact (done [] rfl).2
  | halt x =>
    simp [Tm.d, idx_t0, mkT, in2, eq_w]
    exact (done [] rfl).2
  | doo op as =>
    simp [Tm.d, idx_t0, mkT, in2, idx_t2, blt_list_t, wp_newL]
    exact done (Tm.ds as) (Tm.ds_map as)
  | call f as =>
    simp [Tm.d, idx_t0, mkT, in2, idx_t2, blt_list_t, wp_newL]
    exact done (Tm.ds as) (Tm.ds_map as)
  | iff t a b =>
    simp [Tm.d, idx_t0, mkT, in2, eq_w, intOf, slc_drop, blt_list_t, wp_newL]
    exact (done [t.d, a.d, b.d] rfl).2
  | lett x a b =>
    simp [Tm.d, idx_t0, mkT, in2, eq_w, intOf, slc_drop, blt_list_t, wp_newL]
    exact (done [a.d, b.d] rfl).2
theorem taken_ok {op : Str} (hk : 1 ≤ k) (q : Q (.int (if op ∈ one5 then 1 else 2)) S) : WP (callF FT k c_taken_by [.str op] S) E Q := by
  obtain ⟨k, rfl⟩ : ∃ j, k = j + 1 := ⟨k - 1, by omega⟩
  refine call_wp (fn := e_taken_by.fn) rfl rfl ?_
  show WX (execs _ b_taken_by [some (.str op)] S) _ _
  unfold b_taken_by
  simp [in_head5]
  refine tb_p (fun h => ?_) (fun h => ?_)
  · rw [if_pos h] at q
    exact fin_p (E := E) rfl q
  · rw [if_neg h] at q
    exact fin_p (E := E) rfl q
theorem isop_ok {op : Str} (hk : 1 ≤ k) (q : Q (.bl (decide (op ∈ one5 ++ two8))) S) : WP (callF FT k c_is_operation [.str op] S) E Q := by
  obtain ⟨k, rfl⟩ : ∃ j, k = j + 1 := ⟨k - 1, by omega⟩
  refine call_wp (fn := e_is_operation.fn) rfl rfl ?_
  show WX (execs _ b_is_operation [some (.str op)] S) _ _
  unfold b_is_operation
  simp only [wxs_cons, wx_ret, wp_and, wp_blt, wps_cons, wps_nil, wp_loc, wp_cmp, wp_bin, wp_cst, List.getElem?_cons_zero, Option.join_some, wo_some]
  rw [blt_isS (kd := .str) rfl, wp_ok, show isKd .str .str = true from rfl, tb_t, bin_addT (by rw [szl]; decide), wp_ok, mkT_pure (by rfl)]
  have e : cmp .isin (.str op) (.tup ((one5 ++ two8).map D.str)) S = some (decide (op ∈ one5 ++ two8)) := in_words
  rw [show ([D.str "head", D.str "tail", D.str "isint", D.str "isword", D.str "ispair"] ++ [D.str "add", D.str "sub", D.str "mul", D.str "quot", D.str "rest", D.str "less", D.str "same", D.str "pair"] : List D) = (one5 ++ two8).map D.str from rfl, e, wo_some]
  exact fin_bl (E := E) q
theorem str_kd {x : Str} : kindOf S (.str x) = some .str := rfl
theorem tup_kd {ds : List D} : kindOf S (.tup ds) = some .tup := rfl
theorem word_lt {x : Str} (h : wordB x = true) : ∀ y, D.str x = .str y → y.cps.size < 10000 := fun y hy => by
  cases hy
  have := (word_size h).2
  omega
theorem head_ok {e : Tm} {fs : List (Str × Nat)} {ns : List Str} (hk : 6 ≤ k) (ho : e.ok fs ns) (q : Q (.bl true) S) : WP (callF FT k c_fits_head [e.d] S) E Q := by
  obtain ⟨k, rfl⟩ : ∃ j, k = j + 1 := ⟨k - 1, by omega⟩
  refine call_wp (fn := e_fits_head.fn) rfl rfl ?_
  generalize hE : (fun c x S1 => below S.length x = true ∧ E c x (S1.take S.length) : EE) = E'
  show WX (execs _ b_fits_head [some e.d, none, none, none] S) _ _
  have fn : ∀ (x : Str), wordB x = true → WP (callF FT k c_fits_name [.str x] S) E' fun d S1 => WP (fin S.length d S1) E Q := fun x hx => by
    refine fits_name_ok (by omega) str_kd (word_lt hx) ?_
    have : nameB (.str x) = true := hx
    rw [this]
    exact fin_bl (E := E) q
  unfold b_fits_head
  rw [wxs_cons]
  simp [-wxs_cons]
  refine is_tuple_of_ok (by omega) (kd := .tup) (by cases e <;> (simp only [Tm.d]; rfl)) ?_
  cases e with
  | name x =>
    simp only [Tm.ok] at ho
    simp [Tm.d, tupIn, tupOf, idx_t0, idx_t1, blt_isS str_kd, isKd, setMany, mkT, in2, eq_int]
    exact fn x ho.2
  | halt x =>
    simp only [Tm.ok] at ho
    simp [Tm.d, tupIn, tupOf, idx_t0, idx_t1, blt_isS str_kd, isKd, setMany, mkT, in2, eq_int]
    exact fn x ho
  | val v =>
    simp only [Tm.ok] at ho
    obtain ⟨o, z, dd⟩ := ho
    simp [Tm.d, tupIn, tupOf, idx_t0, idx_t1, blt_isS str_kd, isKd, setMany, mkT, in2, eq_int, eq_w]
    exact fits_value_ok (by omega) o (by omega) (by omega) (fin_bl (E := E) q)
  | doo op as =>
    simp only [Tm.ok] at ho
    simp [Tm.d, tupIn, tupOf, idx_t0, idx_t1, blt_isS str_kd, isKd, setMany, mkT, in2, eq_int, eq_w]
    refine isop_ok (by omega) ?_
    have hop : op ∈ one5 ++ two8 := by
      rcases ho.1 with h | h
      · exact List.mem_append_left _ h.1
      · exact List.mem_append_right _ h.1
    rw [decide_eq_true hop, tb_t, idx_t2, wo_some]
    refine taken_ok (by omega) (taken_ok (by omega) ?_)
    refine is_tuple_of_ok (by omega) (kd := .tup) rfl ?_
    have nd : ∀ x ∈ two8, x ∉ one5 := by decide
    have : tupIn (.tup (Tm.ds as)) (if op ∈ one5 then 1 else 2) (if op ∈ one5 then 1 else 2) = true := by
      unfold tupIn
      simp only [tupOf, Tm.ds_len]
      rcases ho.1 with ⟨h1, h2⟩ | ⟨h1, h2⟩
      · rw [if_pos h1, h2]
        rfl
      · rw [if_neg (nd _ h1), h2]
        rfl
    rw [this]
    exact fin_bl (E := E) q
  | call f as =>
    simp only [Tm.ok] at ho
    simp [Tm.d, tupIn, tupOf, idx_t0, idx_t1, blt_isS str_kd, isKd, setMany, mkT, in2, eq_int, eq_w]
    refine fits_name_ok (by omega) str_kd (word_lt ho.1.2.1) ?_
    have : nameB (.str f) = true := ho.1.2.1
    rw [this, tb_t, idx_t2, wo_some]
    refine is_tuple_of_ok (by omega) (kd := .tup) rfl ?_
    have : tupIn (.tup (Tm.ds as)) 0 8 = true := by
      unfold tupIn
      simp only [tupOf, Tm.ds_len]
      have := ho.1.2.2
      rw [decide_eq_true (by omega), decide_eq_true (by omega)]
      rfl
    rw [this]
    exact fin_bl (E := E) q
  | iff t a b =>
    simp [Tm.d, tupIn, tupOf, idx_t0, idx_t1, blt_isS str_kd, isKd, setMany, mkT, in2, eq_int, eq_w]
    exact fin_bl (E := E) q
  | lett x a b =>
    simp only [Tm.ok] at ho
    simp [Tm.d, tupIn, tupOf, idx_t0, idx_t1, blt_isS str_kd, isKd, setMany, mkT, in2, eq_int, eq_w]
    exact fn x ho.1
end
end DE
/-! GR4: terms walked. -/
namespace DE
open PySem (Str PyData sizeLine)
section
variable {k n p : Nat} {S : Sto} {E : EE} {Q : D → Sto → Prop} {fs : List (Str × Nat)}
/-- a comprehension without tests, over things that stay -/
theorem lc_map {body : D → Sto → R (Option D)} {iv : IV} {ds : List D} {f : D → D} {Q : List D → Sto → Prop} (hiv : ∀ i, ivGet S i iv = some ds[i]?) (hl : ds.length < 100000)
    (hb : ∀ d ∈ ds, WP (body d S) (fun _ _ _ => False) fun o S1 => o = some (f d) ∧ below S.length (f d) = true ∧ S1.take S.length = S) (q : Q (ds.map f) S) : WP (lcGo body iv fuel 0 [] S) E Q := by
  refine lc_rule (fun i acc S' => i ≤ ds.length ∧ S' = S ∧ acc = (ds.take i).map f) ds.length (by unfold fuel; omega) ⟨Nat.zero_le _, rfl, rfl⟩ fun i acc S' ⟨hi, hS, ha⟩ => ?_
  subst hS
  rw [hiv]
  cases hd : ds[i]? with
  | none =>
    have : i = ds.length := by have := List.getElem?_eq_none_iff.mp hd; omega
    subst this
    rw [List.take_length] at ha
    show Q acc _
    rw [ha]
    exact q
  | some d =>
    have hlt := (List.getElem?_eq_some_iff.mp hd).1
    refine ⟨hlt, _, hb d (List.mem_of_getElem? hd), fun e S1 ⟨h1, h2, h3⟩ => ?_, fun S1 ⟨h1, _⟩ => by cases h1⟩
    cases h1
    rw [h2]
    refine ⟨hlt, h3, ?_⟩
    rw [ha, List.take_add_one, hd]
    simp
theorem iv_dyn {m : Nat} {ds : List D} (h : S[m]? = some (.lst ds)) : ∀ i, ivGet S i (.dyn m) = some ds[i]? := fun i => by
  unfold ivGet
  simp only [h]
theorem ivOf_ref {m : Nat} {ds : List D} (h : S[m]? = some (.lst ds)) : ivOf S (.ref m) = some (.dyn m) := by
  unfold ivOf
  simp only [h]
/-! ### terms' parts -/
theorem Tm.sz_parts (t : Tm) : t.sz = Tm.szs t.parts + 1 := by
  cases t <;> simp [Tm.sz, Tm.parts, Tm.szs] <;> omega
theorem Tm.dp_parts (t : Tm) : t.dp = Tm.dps t.parts + 1 := by
  cases t <;> simp [Tm.dp, Tm.parts, Tm.dps]
theorem Tm.oks_mem {ns : List Str} : ∀ {ts : List Tm}, Tm.oks fs ns ts → ∀ t ∈ ts, Tm.ok fs ns t
  | [], _, t, h => by cases h
  | u :: ts, h, t, ht => by
    simp only [Tm.oks] at h
    rcases List.mem_cons.mp ht with rfl | ht
    · exact h.1
    · exact Tm.oks_mem h.2 t ht
def TOk (fs : List (Str × Nat)) (t : Tm) : Prop := ∃ ns, t.ok fs ns
theorem TOk.parts {t : Tm} (h : TOk fs t) : ∀ u ∈ t.parts, TOk fs u := fun u hu => by
  obtain ⟨ns, h⟩ := h
  cases t with
  | doo op as =>
    simp only [Tm.ok] at h
    exact ⟨ns, Tm.oks_mem h.2 u hu⟩
  | call f as =>
    simp only [Tm.ok] at h
    exact ⟨ns, Tm.oks_mem h.2 u hu⟩
  | iff a b c =>
    simp only [Tm.ok] at h
    simp only [Tm.parts, List.mem_cons, List.not_mem_nil, or_false] at hu
    rcases hu with rfl | rfl | rfl
    · exact ⟨ns, h.1⟩
    · exact ⟨ns, h.2.1⟩
    · exact ⟨ns, h.2.2⟩
  | lett x a b =>
    simp only [Tm.ok] at h
    simp only [Tm.parts, List.mem_cons, List.not_mem_nil, or_false] at hu
    rcases hu with rfl | rfl
    · exact ⟨ns, h.2.1⟩
    · exact ⟨_, h.2.2⟩
  | _ => cases hu
theorem TOk.len {t : Tm} (h : TOk fs t) : t.parts.length ≤ 8 := by
  obtain ⟨ns, h⟩ := h
  cases t with
  | doo op as =>
    simp only [Tm.ok] at h
    show as.length ≤ 8
    rcases h.1 with h | h <;> omega
  | call f as =>
    simp only [Tm.ok] at h
    exact h.1.2.2
  | _ => simp [Tm.parts]
theorem Tm.szs_len : ∀ ts : List Tm, ts.length ≤ Tm.szs ts
  | [] => by simp [Tm.szs]
  | t :: ts => by
    have h1 := Tm.szs_len ts
    have h2 := t.sz_parts
    simp only [List.length_cons, Tm.szs]
    omega
theorem Tm.dps_mem {u : Tm} : ∀ {ts : List Tm}, u ∈ ts → u.dp ≤ Tm.dps ts
  | [], h => by cases h
  | t :: ts, h => by
    simp only [Tm.dps]
    rcases List.mem_cons.mp h with rfl | h
    · omega
    · have := Tm.dps_mem h
      omega
theorem Tm.sz_mem {u : Tm} : ∀ {ts : List Tm}, u ∈ ts → u.sz ≤ Tm.szs ts
  | [], h => by cases h
  | t :: ts, h => by
    simp only [Tm.szs]
    rcases List.mem_cons.mp h with rfl | h
    · omega
    · have := Tm.sz_mem h
      omega
/-- the data of a term -/
theorem tm_dat : ∀ {t : Tm} {fs : List (Str × Nat)} {ns : List Str}, t.ok fs ns → Dat (2 * t.dp + 10) t.d := by
  have key : ∀ (m : Nat) {t : Tm} {fs : List (Str × Nat)} {ns : List Str}, t.sz ≤ m → t.ok fs ns → Dat (2 * t.dp + 10) t.d := by
    intro m
    induction m with
    | zero => intro t fs ns h; have := t.sz_parts; omega
    | succ m ih =>
      intro t fs ns hm ho
      have w : ∀ {N : Nat} {x : Str}, wordB x = true → Dat N (.str x) := fun h => .str (word_ok h)
      have lst : ∀ (as : List Tm) (N : Nat), (∀ u ∈ as, Tm.ok fs ns u) → Tm.szs as ≤ m → 2 * Tm.dps as + 10 ≤ N → ∀ d ∈ Tm.ds as, Dat N d := fun as N ha hz hn d hd => by
        rw [Tm.ds_map] at hd
        obtain ⟨u, hu, rfl⟩ := List.mem_map.mp hd
        have hu2 : u.sz ≤ Tm.szs as := Tm.sz_mem hu
        have := Tm.dps_mem hu
        exact (ih (by omega) (ha u hu)).mono (by omega)
      cases t with
      | name x =>
        simp only [Tm.ok] at ho
        simp only [Tm.d, Tm.dp]
        refine .tup fun d hd => ?_
        simp only [List.mem_cons, List.not_mem_nil, or_false] at hd
        rcases hd with rfl | rfl
        · exact w w_name
        · exact w ho.2
      | val v =>
        simp only [Tm.ok] at ho
        simp only [Tm.d, Tm.dp]
        refine .tup fun d hd => ?_
        simp only [List.mem_cons, List.not_mem_nil, or_false] at hd
        rcases hd with rfl | rfl
        · exact w w_value
        · exact (Vl.dat ho.1).mono (by have := ho.2.2; omega)
      | halt x =>
        simp only [Tm.ok] at ho
        simp only [Tm.d, Tm.dp]
        refine .tup fun d hd => ?_
        simp only [List.mem_cons, List.not_mem_nil, or_false] at hd
        rcases hd with rfl | rfl
        · exact w w_halt
        · exact w ho
      | doo op as =>
        simp only [Tm.ok] at ho
        simp only [Tm.sz] at hm
        simp only [Tm.d, Tm.dp]
        have wop : wordB op = true := by
          have all : ∀ x ∈ one5 ++ two8, wordB x = true := by decide
          rcases ho.1 with h | h
          · exact all _ (List.mem_append_left _ h.1)
          · exact all _ (List.mem_append_right _ h.1)
        refine .tup (n := 2 * Tm.dps as + 11) fun d hd => ?_
        simp only [List.mem_cons, List.not_mem_nil, or_false] at hd
        rcases hd with rfl | rfl | rfl
        · exact w w_do
        · exact w wop
        · exact .tup (lst as _ (Tm.oks_mem ho.2) (by omega) (by omega))
      | call f as =>
        simp only [Tm.ok] at ho
        simp only [Tm.sz] at hm
        simp only [Tm.d, Tm.dp]
        refine .tup (n := 2 * Tm.dps as + 11) fun d hd => ?_
        simp only [List.mem_cons, List.not_mem_nil, or_false] at hd
        rcases hd with rfl | rfl | rfl
        · exact w w_call
        · exact w ho.1.2.1
        · exact .tup (lst as _ (Tm.oks_mem ho.2) (by omega) (by omega))
      | iff a b c =>
        simp only [Tm.ok] at ho
        simp only [Tm.sz] at hm
        simp only [Tm.d, Tm.dp]
        refine .tup (n := 2 * max a.dp (max b.dp c.dp) + 11) fun d hd => ?_
        simp only [List.mem_cons, List.not_mem_nil, or_false] at hd
        rcases hd with rfl | rfl | rfl | rfl
        · exact w w_if
        · exact (ih (by omega) ho.1).mono (by omega)
        · exact (ih (by omega) ho.2.1).mono (by omega)
        · exact (ih (by omega) ho.2.2).mono (by omega)
      | lett x a b =>
        simp only [Tm.ok] at ho
        simp only [Tm.sz] at hm
        simp only [Tm.d, Tm.dp]
        refine .tup (n := 2 * max a.dp b.dp + 11) fun d hd => ?_
        simp only [List.mem_cons, List.not_mem_nil, or_false] at hd
        rcases hd with rfl | rfl | rfl | rfl
        · exact w w_let
        · exact w ho.1
        · exact (ih (by omega) ho.2.1).mono (by omega)
        · exact (ih (by omega) ho.2.2).mono (by omega)
  intro t fs ns ho
  exact key t.sz (Nat.le_refl _) ho
theorem TOk.dat {t : Tm} (h : TOk fs t) (hd : t.dp ≤ 100) : Dat 300 t.d := by
  obtain ⟨ns, h⟩ := h
  exact (tm_dat h).mono (by omega)
/-! ### size_in -/
theorem ofs_app {t : Tm} {ts us : List Tm} : Tm.szs (ts ++ us) = Tm.szs ts + Tm.szs us := Tm.szs_app ts us
def Z1 (S : Sto) (e : Tm) (fs : List (Str × Nat)) (m : Nat) (v : Env) (S' : Sto) : Prop := ∃ (ts : List Tm) (many : Nat), v = [some e.d, some (.int (many : Int)), some (.ref S.length)] ∧ S' = S ++ [.lst (ts.map Tm.d)] ∧ (∀ t ∈ ts, TOk fs t ∧ t.dp ≤ 100) ∧ many + Tm.szs ts = e.sz ∧ m = Tm.szs ts
theorem tms_dat {ts : List Tm} (h : ∀ t ∈ ts, TOk fs t ∧ t.dp ≤ 100) : ∀ d ∈ ts.map Tm.d, Dat 300 d := fun d hd => by
  obtain ⟨t, ht, rfl⟩ := List.mem_map.mp hd
  exact (h t ht).1.dat (h t ht).2
theorem trim3 {x a : D} {o : O} {L : Sto} (hx : x.pure = true) (ha : a.pure = true) : trim (S.length + 1) [some x, some a, some (.ref S.length)] (S ++ o :: L) = S ++ [o] := by
  refine trim_at (envB_of fun d hd => ?_)
  simp only [List.mem_cons, List.not_mem_nil, or_false, Option.some.injEq] at hd
  rcases hd with rfl | rfl | rfl
  · exact below_pure hx
  · exact below_pure ha
  · exact Nat.ble_eq_true_of_le (Nat.le_refl _)
theorem parts_ok_all {t : Tm} (h : TOk fs t ∧ t.dp ≤ 100) : ∀ u ∈ t.parts, TOk fs u ∧ u.dp ≤ 100 := fun u hu => by
  have h1 := h.1.parts u hu
  have h2 := t.dp_parts
  have h3 := Tm.dps_mem hu
  exact ⟨h1, by have := h.2; omega⟩
theorem size_in_ok {e : Tm} (hk : 2 ≤ k) (ho : TOk fs e) (hd : e.dp ≤ 100) (hz : e.sz ≤ 100000) (q : Q (.int (e.sz : Int)) S) : WP (callF FT k c_size_in [e.d] S) E Q := by
  obtain ⟨k, rfl⟩ : ∃ j, k = j + 1 := ⟨k - 1, by omega⟩
  refine call_wp (fn := e_size_in.fn) rfl rfl ?_
  generalize (fun c x S1 => below S.length x = true ∧ E c x (S1.take S.length) : EE) = E'
  show WX (execs _ b_size_in [some e.d, none, none] S) _ _
  unfold b_size_in
  rw [wxs_cons]
  simp [-wxs_cons, setMany]
  rw [wxs_cons, wx_whl]
  refine whl_rule (Z1 S e fs) e.sz (by unfold fuel; omega) ⟨[e], 0, rfl, rfl, fun t ht => by
    rw [List.mem_singleton.mp ht]
    exact ⟨ho, hd⟩, by simp [Tm.szs], by simp [Tm.szs]⟩ fun m v S' hM => ?_
  obtain ⟨ts, many, rfl, rfl, hts, hsum, hm⟩ := hM
  simp [-wxs_cons]
  rw [ne_nil (ds := ts.map Tm.d) (by rw [get_at]) (by rw [get_at1]) (tms_dat hts) (by decide), wo_some]
  rcases last_of ts with rfl | ⟨us, w, rfl⟩
  · show TB (.bl false) _ _
    simp only [Tm.szs] at hsum
    rw [tb_f, trim3 e.pure rfl]
    simp
    refine fin_pure rfl ?_
    rw [take_app, show many = e.sz by omega]
    exact q
  · have : (!(List.map Tm.d (us ++ [w])).isEmpty) = true := by simp
    rw [this, tb_t]
    have hw := hts w (by simp)
    rw [Tm.szs_app] at hsum hm
    simp only [Tm.szs] at hsum hm
    have wp := w.sz_parts
    refine ⟨by omega, ?_⟩
    rw [wxs_cons]
    simp [-wxs_cons, bin_add]
    rw [wxs_cons]
    simp [-wxs_cons]
    refine ⟨mthOk_l get_at (by intro z; cases z), mthOk_l get_at (by intro z; cases z), ?_⟩
    rw [mth_pop (ds := us.map Tm.d) (d := w.d) (by rw [get_at]), wp_ok, set_at]
    refine parts_ok (by omega) hw.1.len ?_
    have hus := Tm.szs_len us
    have hpl := hw.1.len
    rw [mth_extend (ds := us.map Tm.d) (es := w.parts.map Tm.d) (by rw [List.append_assoc]; exact get_at) (by simp) (by rw [← Tm.ds_map]; exact belows_pure (Tm.ds_pure _)) (by rw [List.length_map, List.length_map, szl]; omega), wp_ok, List.append_assoc]
    rw [show (S ++ ([O.lst (List.map Tm.d us), O.lst []] ++ [O.lst (List.map Tm.d w.parts)])) = S ++ O.lst (List.map Tm.d us) :: [O.lst [], O.lst (List.map Tm.d w.parts)] from rfl, set_at]
    refine ⟨Tm.szs (us ++ w.parts), ?_, us ++ w.parts, many + 1, rfl, ?_, ?_, ?_, rfl⟩
    · rw [Tm.szs_app]
      omega
    · show trim _ (wipe [some e.d, some (.int ((many : Int) + 1)), some (.ref S.length)] []) _ = _
      rw [show wipe [some e.d, some (.int ((many : Int) + 1)), some (.ref S.length)] [] = [some e.d, some (.int ((many : Int) + 1)), some (.ref S.length)] from rfl, trim3 e.pure rfl, ← List.map_append]
    · intro t ht
      rcases List.mem_append.mp ht with ht | ht
      · exact hts t (List.mem_append_left _ ht)
      · exact parts_ok_all hw t ht
    · rw [Tm.szs_app]
      omega
end
end DE
/-! GR5: terms counted. -/
namespace DE
open PySem (Str PyData sizeLine)
section
variable {k n p : Nat} {S : Sto} {E : EE} {Q : D → Sto → Prop} {fs : List (Str × Nat)}
def teD (t : Tm × Nat) : D := .tup [t.1.d, .int (t.2 : Int)]
def tes : List (Tm × Nat) → Nat
  | [] => 0
  | t :: ts => t.1.sz + tes ts
theorem tes_app : ∀ (a b : List (Tm × Nat)), tes (a ++ b) = tes a + tes b
  | [], b => by simp [tes]
  | t :: a, b => by simp only [List.cons_append, tes, tes_app a b]; omega
theorem tes_len : ∀ (a : List (Tm × Nat)), a.length ≤ tes a
  | [] => by simp [tes]
  | t :: a => by
    have := tes_len a
    have := t.1.sz_parts
    simp only [List.length_cons, tes]
    omega
theorem tes_map {j : Nat} : ∀ (us : List Tm), tes (us.map fun u => (u, j)) = Tm.szs us
  | [] => by simp [tes, Tm.szs]
  | u :: us => by simp [tes, Tm.szs, tes_map us]
def N1 (S : Sto) (e : Tm) (fs : List (Str × Nat)) (m : Nat) (v : Env) (S' : Sto) : Prop := ∃ (ts : List (Tm × Nat)) (many : Nat) (t3 t4 : Option D), v = [some e.d, some (.int (many : Int)), some (.ref S.length), t3, t4, none, none] ∧ S' = S ++ [.lst (ts.map teD)] ∧
  (∀ t ∈ ts, TOk fs t.1 ∧ t.2 + t.1.dp ≤ e.dp + 1) ∧ many + tes ts = e.sz ∧ m = tes ts ∧ pureO t3 ∧ pureO t4
theorem tes_dat {ts : List (Tm × Nat)} (h : ∀ t ∈ ts, TOk fs t.1 ∧ t.1.dp ≤ 100) : ∀ d ∈ ts.map teD, Dat 301 d := fun d hd => by
  obtain ⟨t, ht, rfl⟩ := List.mem_map.mp hd
  refine .tup fun x hx => ?_
  simp only [List.mem_cons, List.not_mem_nil, or_false] at hx
  rcases hx with rfl | rfl
  · exact (h t ht).1.dat (h t ht).2
  · exact .int
theorem trim7 {x a b c : D} {o : O} {L : Sto} (hx : x.pure = true) (ha : a.pure = true) {t3 t4 : Option D} (h3 : pureO t3) (h4 : pureO t4) : trim (S.length + 1) [some x, some a, some (.ref S.length), t3, t4, none, none] (S ++ o :: L) = S ++ [o] := by
  refine trim_at (envB_of fun d hd => ?_)
  simp only [List.mem_cons, List.not_mem_nil, or_false, Option.some.injEq] at hd
  rcases hd with rfl | rfl | rfl | rfl | rfl | h | h
  · exact below_pure hx
  · exact below_pure ha
  · exact Nat.ble_eq_true_of_le (Nat.le_refl _)
  · exact below_pure h3
  · exact below_pure h4
  · cases h
  · cases h
theorem nodes_of_ok {e : Tm} (hk : 7 ≤ k) (ho : TOk fs e) (hd : e.dp ≤ 60) (hz : e.sz ≤ 2000) (q : Q (.int (e.sz : Int)) S) : WP (callF FT k c_nodes_of [e.d] S) E Q := by
  obtain ⟨k, rfl⟩ : ∃ j, k = j + 1 := ⟨k - 1, by omega⟩
  refine call_wp (fn := e_nodes_of.fn) rfl rfl ?_
  generalize (fun c x S1 => below S.length x = true ∧ E c x (S1.take S.length) : EE) = E'
  show WX (execs _ b_nodes_of [some e.d, none, none, none, none, none, none] S) _ _
  unfold b_nodes_of
  rw [wxs_cons]
  simp [-wxs_cons, setMany]
  rw [mkT2 e.pure rfl, wxs_cons, wx_whl]
  refine whl_rule (N1 S e fs) e.sz (by unfold fuel; omega) ⟨[(e, 1)], 0, none, none, rfl, rfl, fun t ht => by
    rw [List.mem_singleton.mp ht]
    exact ⟨ho, by show 1 + e.dp ≤ _; omega⟩, by simp [tes], by simp [tes], trivial, trivial⟩ fun m v S' hM => ?_
  obtain ⟨ts, many, t3, t4, rfl, rfl, hts, hsum, hm, ht3, ht4⟩ := hM
  simp [-wxs_cons]
  rw [ne_nil (ds := ts.map teD) (by rw [get_at]) (by rw [get_at1]) (tes_dat (fs := fs) fun t ht => ⟨(hts t ht).1, by have := (hts t ht).2; omega⟩) (by decide), wo_some]
  rcases last_of ts with rfl | ⟨us, ⟨w, j⟩, rfl⟩
  · show TB (.bl false) _ _
    simp only [tes] at hsum
    rw [tb_f, trim7 (b := .non) (c := .non) e.pure rfl ht3 ht4]
    simp
    refine fin_pure rfl ?_
    rw [take_app, show many = e.sz by omega]
    exact q
  · have : (!(List.map teD (us ++ [(w, j)])).isEmpty) = true := by simp
    rw [this, tb_t]
    obtain ⟨hw, hj⟩ := hts (w, j) (by simp)
    simp only at hw hj
    rw [tes_app] at hsum hm
    simp only [tes] at hsum hm
    have wp := w.sz_parts
    have wd := w.dp_parts
    have hus := tes_len us
    refine ⟨by omega, ?_⟩
    rw [wxs_cons]
    simp [-wxs_cons]
    refine ⟨mthOk_l get_at (by intro z; cases z), ?_⟩
    rw [mth_pop (ds := us.map teD) (d := teD (w, j)) (by rw [get_at]), wp_ok, set_at]
    show WX (execs _ _ [some e.d, some (.int (many : Int)), some (.ref S.length), some w.d, some (.int (j : Int)), none, none] _) _ _
    rw [wxs_cons]
    simp [-wxs_cons, bin_add]
    rw [wxs_cons]
    simp [-wxs_cons]
    have c1 : decide ((60 : Int) < (j : Int)) = false := decide_eq_false (by omega)
    rw [c1, tb_f, blt_len_l (ds := us.map teD) get_at, wp_ok, bin_add, wp_ok, gt_int, wo_some, List.length_map, decide_eq_false (by omega), tb_f]
    refine head_ok (by omega) hw.choose_spec ?_
    simp [-wxs_cons]
    rw [wxs_cons]
    simp [-wxs_cons]
    refine ⟨mthOk_l get_at (by intro z; cases z), ?_⟩
    refine parts_ok (by omega) hw.len ?_
    rw [ivOf_ref (ds := w.parts.map Tm.d) (by simp), wo_some]
    generalize hB : S ++ [O.lst (List.map teD us), O.lst []] = B
    have hBl : B.length = S.length + 2 := by rw [← hB]; simp
    refine lc_map (ds := w.parts.map Tm.d) (f := fun d => .tup [d, .int ((j : Int) + 1)]) (iv_dyn (by simp)) (by rw [List.length_map]; have := hw.len; omega) (fun d hd2 => ?_) ?_
    · obtain ⟨u, hu, rfl⟩ := List.mem_map.mp hd2
      rw [wp_lcB]
      simp [bindT, wipe, bin_add, mkT]
      exact take_at
    · have em : (w.parts.map Tm.d).map (fun d => D.tup [d, .int ((j : Int) + 1)]) = (w.parts.map fun u => (u, j + 1)).map teD := by
        rw [List.map_map, List.map_map]
        rfl
      rw [em]
      have hpl := hw.len
      refine ⟨by rw [List.length_map, List.length_map]; omega, ?_⟩
      subst hB
      have e1 : (S ++ [O.lst (List.map teD us), O.lst []] ++ [O.lst (List.map Tm.d w.parts)] ++ [O.lst (List.map teD (w.parts.map fun u => (u, j + 1)))]) = S ++ O.lst (List.map teD us) :: [O.lst [], O.lst (List.map Tm.d w.parts), O.lst (List.map teD (w.parts.map fun u => (u, j + 1)))] := by simp
      rw [e1]
      have gl : (S ++ O.lst (List.map teD us) :: [O.lst [], O.lst (List.map Tm.d w.parts), O.lst (List.map teD (w.parts.map fun u => (u, j + 1)))])[(S ++ [O.lst (List.map teD us), O.lst []] ++ [O.lst (List.map Tm.d w.parts)]).length]? = some (.lst (List.map teD (w.parts.map fun u => (u, j + 1)))) := by
        rw [← e1]
        simp
      rw [mth_extend (ds := us.map teD) (es := (w.parts.map fun u => (u, j + 1)).map teD) get_at gl (belows_of fun d hd3 => by
        obtain ⟨t, _, rfl⟩ := List.mem_map.mp hd3
        rfl) (by rw [List.length_map, List.length_map, List.length_map, szl]; omega), wp_ok, set_at]
      refine ⟨tes (us ++ w.parts.map fun u => (u, j + 1)), ?_, us ++ w.parts.map fun u => (u, j + 1), many + 1, some w.d, some (.int (j : Int)), rfl, ?_, ?_, ?_, rfl, w.pure, rfl⟩
      · rw [tes_app, tes_map]
        omega
      · show trim _ [some e.d, some (.int ((many : Int) + 1)), some (.ref S.length), some w.d, some (.int (j : Int)), none, none] _ = _
        rw [trim7 (a := .int ((many : Int) + 1)) (b := .non) (c := .non) (t3 := some w.d) (t4 := some (.int (j : Int))) e.pure rfl w.pure rfl, ← List.map_append]
      · intro t ht
        rcases List.mem_append.mp ht with ht | ht
        · exact hts t (List.mem_append_left _ ht)
        · obtain ⟨u, hu, rfl⟩ := List.mem_map.mp ht
          have := Tm.dps_mem hu
          exact ⟨hw.parts u hu, by show j + 1 + u.dp ≤ _; omega⟩
      · rw [tes_app, tes_map]
        omega
theorem fits_expr_ok {e : Tm} (hk : 8 ≤ k) (ho : TOk fs e) (hd : e.dp ≤ 60) (hz : e.sz ≤ 2000) (q : Q (.bl true) S) : WP (callF FT k c_fits_expression [e.d] S) E Q := by
  obtain ⟨k, rfl⟩ : ∃ j, k = j + 1 := ⟨k - 1, by omega⟩
  refine call_wp (fn := e_fits_expression.fn) rfl rfl ?_
  show WX (execs _ b_fits_expression [some e.d] S) _ _
  unfold b_fits_expression
  simp
  refine nodes_of_ok (by omega) ho hd hz ?_
  rw [isn_non]
  exact fin_bl (E := E) q
end
end DE
/-! GR6: names asked for, calls. -/
namespace DE
open PySem (Str PyData sizeLine)
theorem nodup_sub {as ns : List Str} (h : as.Nodup) (hs : ∀ a ∈ as, a ∈ ns) : as.length ≤ ns.length := by
  induction as generalizing ns with
  | nil => exact Nat.zero_le _
  | cons a as ih =>
    obtain ⟨h1, h2⟩ := List.nodup_cons.mp h
    have ha := hs a List.mem_cons_self
    have := ih (ns := ns.erase a) h2 fun b hb => by
      have hb2 := hs b (List.mem_cons_of_mem _ hb)
      exact (List.mem_erase_of_ne fun e => h1 (by rw [← e]; exact hb)).mpr hb2
    rw [List.length_erase_of_mem ha] at this
    have : 0 < ns.length := List.length_pos_of_mem ha
    rw [List.length_cons]
    omega
section
variable {k n p : Nat} {S : Sto} {E : EE} {Q : D → Sto → Prop} {fs : List (Str × Nat)} {ns : List Str}
def askD (t : Tm × List Str) : D := .tup [t.1.d, nsD t.2]
def aks : List (Tm × List Str) → Nat
  | [] => 0
  | t :: ts => t.1.sz + aks ts
theorem aks_app : ∀ (a b : List (Tm × List Str)), aks (a ++ b) = aks a + aks b
  | [], b => by simp [aks]
  | t :: a, b => by simp only [List.cons_append, aks, aks_app a b]; omega
theorem aks_len : ∀ (a : List (Tm × List Str)), a.length ≤ aks a
  | [] => by simp [aks]
  | t :: a => by
    have := aks_len a
    have := t.1.sz_parts
    simp only [List.length_cons, aks]
    omega
theorem aks_map {l : List Str} : ∀ (us : List Tm), aks (us.map fun u => (u, l)) = Tm.szs us
  | [] => by simp [aks, Tm.szs]
  | u :: us => by simp [aks, Tm.szs, aks_map us]
/-- what is told of a term on the stack -/
def AOk (fs : List (Str × Nat)) (ns : List Str) (t : Tm × List Str) : Prop := t.1.ok fs (t.2 ++ ns) ∧ NOk t.2 ∧ t.2.length + t.1.dp ≤ 100
theorem AOk.dat {t : Tm × List Str} (h : AOk fs ns t) : Dat 301 (askD t) := by
  refine .tup fun x hx => ?_
  simp only [List.mem_cons, List.not_mem_nil, or_false] at hx
  rcases hx with rfl | rfl
  · exact TOk.dat ⟨_, h.1⟩ (by have := h.2.2; omega)
  · exact (nsD_dat h.2.1).mono (by decide)
theorem AOk.parts {t : Tm} {l : List Str} (h : AOk fs ns (t, l)) (hl : ∀ x a b, t ≠ .lett x a b) : ∀ u ∈ t.parts, AOk fs ns (u, l) := fun u hu => by
  obtain ⟨h1, h2, h3⟩ := h
  have hd := Tm.dps_mem hu
  have hp := t.dp_parts
  refine ⟨?_, h2, by simp only at h3 ⊢; omega⟩
  simp only at h1 ⊢
  cases t with
  | doo op as =>
    simp only [Tm.ok] at h1
    exact Tm.oks_mem h1.2 u hu
  | call f as =>
    simp only [Tm.ok] at h1
    exact Tm.oks_mem h1.2 u hu
  | iff a b c =>
    simp only [Tm.ok] at h1
    simp only [Tm.parts, List.mem_cons, List.not_mem_nil, or_false] at hu
    rcases hu with rfl | rfl | rfl
    · exact h1.1
    · exact h1.2.1
    · exact h1.2.2
  | lett x a b => exact absurd rfl (hl x a b)
  | _ => cases hu
def A1 (S : Sto) (e : Tm) (fs : List (Str × Nat)) (ns : List Str) (m : Nat) (v : Env) (S' : Sto) : Prop := ∃ (ts : List (Tm × List Str)) (as : List Str) (t3 t4 : Option D), v = [some e.d, some (.ref S.length), some (.ref (S.length + 1)), t3, t4, none, none] ∧ S' = S ++ [.dk (as.map kv1), .lst (ts.map askD)] ∧
  (∀ t ∈ ts, AOk fs ns t) ∧ as.Nodup ∧ (∀ a ∈ as, a ∈ ns) ∧ m = aks ts ∧ aks ts ≤ e.sz ∧ pureO t3 ∧ pureO t4
theorem take_at2 {a b : O} {L : Sto} : (S ++ a :: b :: L).take (S.length + 2) = S ++ [a, b] := by
  rw [List.take_append, List.take_of_length_le (by omega), Nat.add_sub_cancel_left]
  rfl
theorem trimA {x : D} {t3 t4 : Option D} {o u : O} {L : Sto} (hx : x.pure = true) (h3 : pureO t3) (h4 : pureO t4) : trim (S.length + 1 + 1) [some x, some (.ref S.length), some (.ref (S.length + 1)), t3, t4, none, none] (S ++ o :: u :: L) = S ++ [o, u] := by
  have : envBelow (S.length + 1 + 1) [some x, some (.ref S.length), some (.ref (S.length + 1)), t3, t4, none, none] = true := envB_of fun d hd => by
    simp only [List.mem_cons, List.not_mem_nil, or_false, Option.some.injEq] at hd
    rcases hd with rfl | rfl | rfl | rfl | rfl | h | h
    · exact below_pure hx
    · exact Nat.ble_eq_true_of_le (by omega)
    · exact Nat.ble_eq_true_of_le (by omega)
    · exact below_pure h3
    · exact below_pure h4
    · cases h
    · cases h
  unfold trim
  rw [this]
  exact take_at2
theorem set_at1 {a b x : O} {L : Sto} : (S ++ a :: b :: L).set (S.length + 1) x = S ++ a :: x :: L := by
  rw [List.set_append_right _ _ (by omega), Nat.add_sub_cancel_left]
  rfl
theorem get_at1' {a b : O} {L : Sto} : (S ++ a :: b :: L)[S.length + 1]? = some b := get_at1
theorem notin_ns {x : Str} {l : List Str} : cmp .notin (.str x) (nsD l) S = some (!decide (x ∈ l)) := by
  show (cmp .isin (.str x) (.tup (l.map .str)) S).map (!·) = _
  rw [in_words]
  rfl
theorem setI_dk {m : Nat} {as : List Str} {x : Str} (h : S[m]? = some (.dk (as.map kv1))) (hl : as.length < 1000) : setI (.ref m) (.str x) (.bl true) S = .ok () (S.set m (.dk ((if x ∈ as then as else as ++ [x]).map kv1))) := by
  unfold setI
  simp only [h]
  have : (keyOk (.str x) && below m (.bl true) && Nat.blt (as.map kv1).length sizeLine) = true := by
    rw [show Nat.blt (as.map kv1).length sizeLine = true from Nat.ble_eq_true_of_le (by rw [List.length_map, szl]; omega)]
    rfl
  simp only [this, dkPut_kv]
  rfl
theorem nxt_nil {cf : CF} {E' : EE} {Q : Fl → Env → Sto → Prop} : (nxt Q fun e S1 => WX (execs cf [] e S1) E' Q) = Q := by
  funext f e S1
  cases f with
  | nx => rw [nxt_nx, wxs_nil]
  | _ => rfl
def askBody : List Ss := (whlBody (b_asked_in.getD 1 .pass)).drop 1
theorem ask_turn {e : D} {E' : EE} {Q : Fl → Env → Sto → Prop} {as l : List Str} {us : List (Tm × List Str)} {w : Tm} (hk : 1 ≤ k) (had : as.Nodup) (has : ∀ a ∈ as, a ∈ ns) (hal : as.length < 1000) (hw : AOk fs ns (w, l)) (hus : ∀ t ∈ us, AOk fs ns t) (hul : us.length < 100000)
    (q : ∀ (as' : List Str) (vs : List (Tm × List Str)) (L : Sto), as'.Nodup → (∀ a ∈ as', a ∈ ns) → (∀ t ∈ vs, AOk fs ns t) → aks vs + 1 ≤ aks us + w.sz → Q .nx [some e, some (.ref S.length), some (.ref (S.length + 1)), some w.d, some (nsD l), none, none] (S ++ .dk (as'.map kv1) :: .lst (vs.map askD) :: L)) :
    WX (execs (callF FT k) askBody [some e, some (.ref S.length), some (.ref (S.length + 1)), some w.d, some (nsD l), none, none] (S ++ [.dk (as.map kv1), .lst (us.map askD), .lst []])) E' Q := by
  have wp := w.sz_parts
  have wtok : TOk fs w := ⟨_, hw.1⟩
  have hpl := wtok.len
  -- the last way: the parts, each with the same names
  have other : (∀ x a b, w ≠ .lett x a b) → WX (execs (callF FT k) [.exp (.mth .extend (.loc 2) (.cons (.lc [5, 6] (.v 6) (.seq (.call c_parts_in (.cons (.loc 3) .nil))) .nil (.tup (.cons (.loc 6) (.cons (.loc 4) .nil)))) .nil))] [some e, some (.ref S.length), some (.ref (S.length + 1)), some w.d, some (nsD l), none, none] (S ++ [.dk (as.map kv1), .lst (us.map askD), .lst []])) E' Q := fun hnl => by
    rw [wxs_cons]
    simp [-wxs_cons]
    refine ⟨mthOk_l get_at1 (by intro z; cases z), ?_⟩
    refine parts_ok (by omega) hpl ?_
    rw [ivOf_ref (ds := w.parts.map Tm.d) (by simp), wo_some]
    generalize hB : S ++ [O.dk (as.map kv1), O.lst (us.map askD), O.lst []] = B
    refine lc_map (ds := w.parts.map Tm.d) (f := fun d => .tup [d, nsD l]) (iv_dyn (by simp)) (by rw [List.length_map]; omega) (fun d hd2 => ?_) ?_
    · obtain ⟨u, hu, rfl⟩ := List.mem_map.mp hd2
      have np : (nsD l).pure = true := rfl
      rw [wp_lcB]
      simp [bindT, wipe, mkT, np]
      exact take_at
    · have em : (w.parts.map Tm.d).map (fun d => D.tup [d, nsD l]) = (w.parts.map fun u => (u, l)).map askD := by
        rw [List.map_map, List.map_map]
        rfl
      rw [em]
      refine ⟨by rw [List.length_map, List.length_map]; omega, ?_⟩
      subst hB
      have e1 : (S ++ [O.dk (as.map kv1), O.lst (us.map askD), O.lst []] ++ [O.lst (w.parts.map Tm.d)] ++ [O.lst ((w.parts.map fun u => (u, l)).map askD)]) = S ++ O.dk (as.map kv1) :: O.lst (us.map askD) :: [O.lst [], O.lst (w.parts.map Tm.d), O.lst ((w.parts.map fun u => (u, l)).map askD)] := by simp
      rw [e1]
      have gl : (S ++ O.dk (as.map kv1) :: O.lst (us.map askD) :: [O.lst [], O.lst (w.parts.map Tm.d), O.lst ((w.parts.map fun u => (u, l)).map askD)])[(S ++ [O.dk (as.map kv1), O.lst (us.map askD), O.lst []] ++ [O.lst (w.parts.map Tm.d)]).length]? = some (.lst ((w.parts.map fun u => (u, l)).map askD)) := by
        rw [← e1]
        simp
      rw [mth_extend (ds := us.map askD) (es := (w.parts.map fun u => (u, l)).map askD) get_at1 gl (belows_of fun d hd3 => by
        obtain ⟨t, _, rfl⟩ := List.mem_map.mp hd3
        rfl) (by rw [List.length_map, List.length_map, List.length_map, szl]; omega), wp_ok, set_at1, ← List.map_append]
      refine q as (us ++ w.parts.map fun u => (u, l)) _ had has (fun t ht => ?_) (by rw [aks_app, aks_map]; omega)
      rcases List.mem_append.mp ht with ht | ht
      · exact hus t ht
      · obtain ⟨u, hu, rfl⟩ := List.mem_map.mp ht
        exact hw.parts hnl u hu
  unfold askBody b_asked_in
  simp only [List.getD_cons_succ, List.getD_cons_zero, whlBody, List.drop_succ_cons, List.drop_zero]
  rw [wxs_cons]
  simp only [wx_iff, wp_and, wp_cmp, wp_idx, wp_loc, wp_cst, List.getElem?_cons_zero, List.getElem?_cons_succ, Option.join_some, wo_some]
  -- the names' let
  have inner : WX (execs (callF FT k) [.iff (.cmp .eq (.idx (.loc 3) (.cst (.int 0))) (.cst (.str "let"))) [.exp (.mth .extend (.loc 2) (.cons (.lst (.cons (.tup (.cons (.idx (.loc 3) (.cst (.int 2))) (.cons (.loc 4) .nil))) (.cons (.tup (.cons (.idx (.loc 3) (.cst (.int 3))) (.cons (.bin .add (.loc 4) (.tup (.cons (.idx (.loc 3) (.cst (.int 1))) .nil))) .nil))) .nil))) .nil))]
      [.exp (.mth .extend (.loc 2) (.cons (.lc [5, 6] (.v 6) (.seq (.call c_parts_in (.cons (.loc 3) .nil))) .nil (.tup (.cons (.loc 6) (.cons (.loc 4) .nil)))) .nil))]] [some e, some (.ref S.length), some (.ref (S.length + 1)), some w.d, some (nsD l), none, none] (S ++ [.dk (as.map kv1), .lst (us.map askD), .lst []])) E' Q := by
    rw [wxs_cons, nxt_nil]
    simp only [wx_iff, wp_cmp, wp_idx, wp_loc, wp_cst, List.getElem?_cons_zero, List.getElem?_cons_succ, Option.join_some, wo_some]
    cases w with
    | lett x a b =>
      obtain ⟨h1, h2, h3⟩ := hw
      simp only [Tm.ok] at h1
      simp only [Tm.dp] at h3
      simp only at h2
      simp only [Tm.d, idx_t0, wo_some]
      rw [eq_w w_let w_let, wo_some, decide_eq_true rfl, tb_t, wxs_cons, nxt_nil]
      have el : (Tm.lett x a b).d = .tup [.str "let", .str x, a.d, b.d] := by simp [Tm.d]
      rw [← el]
      simp [-wxs_cons, el, idx_t1, idx_t2, idx_t3]
      refine ⟨mthOk_l get_at1 (by intro z; cases z), ?_⟩
      have ep : ([mkT [a.d, nsD l], mkT [b.d, nsD (l ++ [x])]] : List D) = [(a, l), (b, l ++ [x])].map askD := by
        rw [mkT2 a.pure rfl, mkT2 b.pure rfl]
        rfl
      rw [show mkT [D.str x] = .tup [.str x] from rfl, add_ns (by omega), wp_ok]
      rw [ep, show D.ref (S ++ [O.dk (as.map kv1), O.lst (us.map askD), O.lst []]).length = D.ref (S.length + 3) by simp, show (S ++ [O.dk (as.map kv1), O.lst (us.map askD), O.lst []] ++ [O.lst ([(a, l), (b, l ++ [x])].map askD)]) = S ++ O.dk (as.map kv1) :: O.lst (us.map askD) :: [O.lst [], O.lst ([(a, l), (b, l ++ [x])].map askD)] by simp]
      rw [mth_extend (ds := us.map askD) (es := [(a, l), (b, l ++ [x])].map askD) get_at1 (by rw [List.getElem?_append_right (by omega), show S.length + 3 - S.length = 3 by omega]; rfl) (belows_pure rfl) (by rw [List.length_map, List.length_map, szl]; simp; omega), wp_ok, set_at1, ← List.map_append]
      rw [← el]
      refine q as (us ++ [(a, l), (b, l ++ [x])]) _ had has (fun t ht => ?_) (by rw [aks_app]; simp [aks, Tm.sz]; omega)
      rcases List.mem_append.mp ht with ht | ht
      · exact hus t ht
      · simp only [List.mem_cons, List.not_mem_nil, or_false] at ht
        rcases ht with rfl | rfl
        · exact ⟨h1.2.1, h2, by simp only; omega⟩
        · refine ⟨?_, ?_, ?_⟩
          · refine Tm.ok_mono (fun y hy => ?_) h1.2.2
            rcases List.mem_cons.mp hy with rfl | hy
            · exact List.mem_append_left _ (List.mem_append_right _ List.mem_cons_self)
            · rcases List.mem_append.mp hy with hy | hy
              · exact List.mem_append_left _ (List.mem_append_left _ hy)
              · exact List.mem_append_right _ hy
          · intro y hy
            rcases List.mem_append.mp hy with hy | hy
            · exact h2 y hy
            · rw [List.mem_singleton.mp hy]
              exact h1.1
          · simp only [List.length_append, List.length_cons, List.length_nil]
            omega
    | name x =>
      have o := other (fun _ _ _ z => by cases z)
      simp only [Tm.d, idx_t0, wo_some] at o ⊢
      rw [eq_w w_name w_let, wo_some, decide_eq_false (by decide), tb_f]
      exact o
    | val x =>
      have o := other (fun _ _ _ z => by cases z)
      simp only [Tm.d, idx_t0, wo_some] at o ⊢
      rw [eq_w w_value w_let, wo_some, decide_eq_false (by decide), tb_f]
      exact o
    | halt x =>
      have o := other (fun _ _ _ z => by cases z)
      simp only [Tm.d, idx_t0, wo_some] at o ⊢
      rw [eq_w w_halt w_let, wo_some, decide_eq_false (by decide), tb_f]
      exact o
    | doo op xs =>
      have o := other (fun _ _ _ z => by cases z)
      simp only [Tm.d, idx_t0, wo_some] at o ⊢
      rw [eq_w w_do w_let, wo_some, decide_eq_false (by decide), tb_f]
      exact o
    | call f xs =>
      have o := other (fun _ _ _ z => by cases z)
      simp only [Tm.d, idx_t0, wo_some] at o ⊢
      rw [eq_w w_call w_let, wo_some, decide_eq_false (by decide), tb_f]
      exact o
    | iff a b c =>
      have o := other (fun _ _ _ z => by cases z)
      simp only [Tm.d, idx_t0, wo_some] at o ⊢
      rw [eq_w w_if w_let, wo_some, decide_eq_false (by decide), tb_f]
      exact o
  rw [nxt_nil]
  cases w with
  | name x =>
    obtain ⟨h1, h2, h3⟩ := hw
    simp only [Tm.ok] at h1
    have el : (Tm.name x).d = .tup [.str "name", .str x] := by simp [Tm.d]
    rw [el, idx_t0, wo_some, eq_w w_name w_name, wo_some, decide_eq_true rfl, tb_t, idx_t1, wo_some, notin_ns, wo_some]
    rw [← el]
    by_cases hx : x ∈ l
    · rw [decide_eq_true hx]
      show TB (.bl false) _ _
      rw [tb_f]
      exact inner
    · rw [decide_eq_false hx]
      show TB (.bl true) _ _
      rw [tb_t, wxs_cons, nxt_nil]
      simp [-wxs_cons, el, idx_t1]
      rw [setI_dk get_at hal, wp_ok, set_at, ← el]
      have hxn : x ∈ ns := by
        rcases List.mem_append.mp h1.1 with h | h
        · exact absurd h hx
        · exact h
      refine q _ us _ ?_ ?_ hus (by simp only [Tm.sz]; omega)
      · split
        · exact had
        · rename_i hxa
          rw [List.nodup_append]
          exact ⟨had, by simp, fun a ha b hb e => hxa (by rw [List.mem_singleton.mp hb] at e; rw [← e]; exact ha)⟩
      · intro a ha
        split at ha
        · exact has a ha
        · rcases List.mem_append.mp ha with ha | ha
          · exact has a ha
          · rw [List.mem_singleton.mp ha]; exact hxn
  | val x =>
    simp only [Tm.d, idx_t0, wo_some] at inner ⊢
    rw [eq_w w_value w_name, wo_some, decide_eq_false (by decide), tb_f, tb_f]
    exact inner
  | halt x =>
    simp only [Tm.d, idx_t0, wo_some] at inner ⊢
    rw [eq_w w_halt w_name, wo_some, decide_eq_false (by decide), tb_f, tb_f]
    exact inner
  | doo op xs =>
    simp only [Tm.d, idx_t0, wo_some] at inner ⊢
    rw [eq_w w_do w_name, wo_some, decide_eq_false (by decide), tb_f, tb_f]
    exact inner
  | call f xs =>
    simp only [Tm.d, idx_t0, wo_some] at inner ⊢
    rw [eq_w w_call w_name, wo_some, decide_eq_false (by decide), tb_f, tb_f]
    exact inner
  | iff a b c =>
    simp only [Tm.d, idx_t0, wo_some] at inner ⊢
    rw [eq_w w_if w_name, wo_some, decide_eq_false (by decide), tb_f, tb_f]
    exact inner
  | lett x a b =>
    simp only [Tm.d, idx_t0, wo_some] at inner ⊢
    rw [eq_w w_let w_name, wo_some, decide_eq_false (by decide), tb_f, tb_f]
    exact inner
theorem asked_ok {e : Tm} (hk : 2 ≤ k) (ho : e.ok fs ns) (hN : NOk ns) (hl : ns.length ≤ 8) (hd : e.dp ≤ 60) (hz : e.sz ≤ 2000) (q : ∀ ms : List Str, (∀ m ∈ ms, m ∈ ns) → ms.length ≤ 8 → Q (.ref S.length) (S ++ [.lst (ms.map .str)])) : WP (callF FT k c_asked_in [e.d] S) E Q := by
  obtain ⟨k, rfl⟩ : ∃ j, k = j + 1 := ⟨k - 1, by omega⟩
  refine call_wp (fn := e_asked_in.fn) rfl rfl ?_
  generalize (fun c x S1 => below S.length x = true ∧ E c x (S1.take S.length) : EE) = E'
  show WX (execs _ b_asked_in [some e.d, none, none, none, none, none, none] S) _ _
  unfold b_asked_in
  rw [wxs_cons]
  simp [-wxs_cons, setMany]
  rw [mkT2 e.pure rfl, wxs_cons, wx_whl]
  refine whl_rule (A1 S e fs ns) e.sz (by unfold fuel; omega) ⟨[(e, [])], [], none, none, rfl, rfl, fun t ht => by
    rw [List.mem_singleton.mp ht]
    exact ⟨ho, (fun x hx => by cases hx), by simp; omega⟩, List.nodup_nil, (fun a ha => by cases ha), by simp [aks], by simp [aks], trivial, trivial⟩ fun m v S' hM => ?_
  obtain ⟨ts, as, t3, t4, rfl, rfl, hts, had, has, hm, hme, ht3, ht4⟩ := hM
  have hal := nodup_sub had has
  simp [-wxs_cons]
  rw [ne_nil (n := 301) (ds := ts.map askD) (by rw [get_at1]) (by rw [get_at2]) (fun d hd2 => by
    obtain ⟨t, ht, rfl⟩ := List.mem_map.mp hd2
    exact (hts t ht).dat) (by decide), wo_some]
  rcases last_of ts with rfl | ⟨us, ⟨w, l⟩, rfl⟩
  · show TB (.bl false) _ _
    rw [tb_f, trimA e.pure ht3 ht4]
    simp [-List.append_assoc]
    rw [blt_sorted_d (kvs := as.map kv1) (by rw [get_at]) optStr_of (by omega), wp_newL]
    have pl : (sortS as).length = as.length := (sortS_perm _).length_eq
    refine ⟨by rw [List.length_map, szl, pl]; omega, ?_⟩
    rw [show (S ++ [O.dk (as.map kv1), O.lst []] ++ [O.lst ((sortS as).map .str)]) = S ++ [O.dk (as.map kv1), O.lst [], O.lst ((sortS as).map .str)] by simp, show (S ++ [O.dk (as.map kv1), O.lst []]).length = S.length + 2 by simp]
    refine fin_new (L := [O.dk (as.map kv1), O.lst [], O.lst ((sortS as).map .str)]) (m := 2) rfl str_pure ?_
    exact q (sortS as) (fun m hm2 => has m ((sortS_perm as).mem_iff.mp hm2)) (by rw [pl]; omega)
  · have : (!(List.map askD (us ++ [(w, l)])).isEmpty) = true := by simp
    rw [this, tb_t]
    have hw := hts (w, l) (by simp)
    have hus := fun t ht => hts t (List.mem_append_left _ ht)
    rw [aks_app] at hm hme
    simp only [aks] at hm hme
    have wp := w.sz_parts
    have wd := w.dp_parts
    have hul := aks_len us
    refine ⟨by omega, ?_⟩
    rw [wxs_cons]
    simp [-wxs_cons]
    refine ⟨mthOk_l get_at1 (by intro z; cases z), ?_⟩
    rw [mth_pop (ds := us.map askD) (d := askD (w, l)) (by rw [get_at1]), wp_ok, set_at1]
    show WX (execs _ _ [some e.d, some (.ref S.length), some (.ref (S.length + 1)), some w.d, some (nsD l), none, none] _) _ _
    refine ask_turn (ns := ns) (fs := fs) (by omega) had has (by omega) hw hus (by omega) fun as' vs L h1 h2 h3 h4 => ?_
    refine ⟨aks vs, by omega, vs, as', some w.d, some (nsD l), rfl, ?_, h3, h1, h2, rfl, by omega, w.pure, rfl⟩
    exact trimA e.pure w.pure rfl
end
end DE
/-! GR7: calls told; functions, programs judged. -/
namespace DE
open PySem (Str PyData sizeLine)
section
variable {k n p : Nat} {S : Sto} {E : EE} {Q : D → Sto → Prop} {fs : List (Str × Nat)} {ns : List Str}
def isCall (fs : List (Str × Nat)) (t : Tm) : Prop := ∃ f as, t = .call f as ∧ (f, as.length) ∈ fs ∧ wordB f = true ∧ as.length ≤ 8
def C1 (S : Sto) (e : Tm) (fs : List (Str × Nat)) (m : Nat) (v : Env) (S' : Sto) : Prop := ∃ (ts cs : List Tm) (t3 : Option D), v = [some e.d, some (.ref S.length), some (.ref (S.length + 1)), t3] ∧ S' = S ++ [.lst (cs.map Tm.d), .lst (ts.map Tm.d)] ∧
  (∀ t ∈ ts, TOk fs t ∧ t.dp ≤ 100) ∧ (∀ c ∈ cs, isCall fs c) ∧ m = Tm.szs ts ∧ cs.length + Tm.szs ts ≤ e.sz ∧ pureO t3
theorem trimC {x : D} {t3 : Option D} {o u : O} {L : Sto} (hx : x.pure = true) (h3 : pureO t3) : trim (S.length + 1 + 1) [some x, some (.ref S.length), some (.ref (S.length + 1)), t3] (S ++ o :: u :: L) = S ++ [o, u] := by
  have : envBelow (S.length + 1 + 1) [some x, some (.ref S.length), some (.ref (S.length + 1)), t3] = true := envB_of fun d hd => by
    simp only [List.mem_cons, List.not_mem_nil, or_false, Option.some.injEq] at hd
    rcases hd with rfl | rfl | rfl | rfl
    · exact below_pure hx
    · exact Nat.ble_eq_true_of_le (by omega)
    · exact Nat.ble_eq_true_of_le (by omega)
    · exact below_pure h3
  unfold trim
  rw [this]
  exact take_at2
theorem rev_l {m : Nat} {ds : List D} (h : S[m]? = some (.lst ds)) : rev (.ref m) S = newL ds.reverse S := by
  unfold rev
  rw [lstOf_ref h]
def callBody : List Ss := (whlBody (b_calls_in.getD 1 .pass)).drop 1
theorem call_turn {e : D} {E' : EE} {Q : Fl → Env → Sto → Prop} {cs us : List Tm} {w : Tm} (hk : 1 ≤ k) (hcs : ∀ c ∈ cs, isCall fs c) (hcl : cs.length < 100000) (hw : TOk fs w ∧ w.dp ≤ 100) (hus : ∀ t ∈ us, TOk fs t ∧ t.dp ≤ 100) (hul : us.length < 100000)
    (q : ∀ (cs' : List Tm) (L : Sto), (∀ c ∈ cs', isCall fs c) → cs'.length ≤ cs.length + 1 → Q .nx [some e, some (.ref S.length), some (.ref (S.length + 1)), some w.d] (S ++ .lst (cs'.map Tm.d) :: .lst ((us ++ w.parts.reverse).map Tm.d) :: L)) :
    WX (execs (callF FT k) callBody [some e, some (.ref S.length), some (.ref (S.length + 1)), some w.d] (S ++ [.lst (cs.map Tm.d), .lst (us.map Tm.d), .lst []])) E' Q := by
  have hpl := hw.1.len
  have last : ∀ cs' : List Tm, (∀ c ∈ cs', isCall fs c) → cs'.length ≤ cs.length + 1 → WX (execs (callF FT k) [.exp (.mth .extend (.loc 2) (.cons (.rev (.call c_parts_in (.cons (.loc 3) .nil))) .nil))] [some e, some (.ref S.length), some (.ref (S.length + 1)), some w.d] (S ++ [.lst (cs'.map Tm.d), .lst (us.map Tm.d), .lst []])) E' Q := fun cs' h1 h2 => by
    rw [wxs_cons, nxt_nil]
    simp [-wxs_cons]
    refine ⟨mthOk_l get_at1 (by intro z; cases z), ?_⟩
    refine parts_ok (by omega) hpl ?_
    rw [rev_l (ds := w.parts.map Tm.d) (by simp), wp_newL]
    refine ⟨by rw [List.length_reverse, List.length_map, szl]; omega, ?_⟩
    rw [show (S ++ [O.lst (cs'.map Tm.d), O.lst (us.map Tm.d), O.lst []] ++ [O.lst (w.parts.map Tm.d)] ++ [O.lst (w.parts.map Tm.d).reverse]) = S ++ O.lst (cs'.map Tm.d) :: O.lst (us.map Tm.d) :: [O.lst [], O.lst (w.parts.map Tm.d), O.lst (w.parts.map Tm.d).reverse] by simp, show D.ref (S ++ [O.lst (cs'.map Tm.d), O.lst (us.map Tm.d), O.lst []] ++ [O.lst (w.parts.map Tm.d)]).length = D.ref (S.length + 4) by simp]
    rw [mth_extend (ds := us.map Tm.d) (es := (w.parts.map Tm.d).reverse) get_at1 (by rw [List.getElem?_append_right (by omega), show S.length + 4 - S.length = 4 by omega]; rfl) (belows_pure (by rw [List.all_reverse, ← Tm.ds_map]; exact Tm.ds_pure _)) (by rw [List.length_map, List.length_reverse, List.length_map, szl]; omega), wp_ok, set_at1, ← List.map_reverse, ← List.map_append]
    exact q cs' _ h1 h2
  unfold callBody b_calls_in
  simp only [List.getD_cons_succ, List.getD_cons_zero, whlBody, List.drop_succ_cons, List.drop_zero]
  rw [wxs_cons]
  simp only [wx_iff, wp_cmp, wp_idx, wp_loc, wp_cst, List.getElem?_cons_zero, List.getElem?_cons_succ, Option.join_some, wo_some]
  cases w with
  | call f as =>
    obtain ⟨nms, hok⟩ := hw.1
    simp only [Tm.ok] at hok
    have el : (Tm.call f as).d = .tup [.str "call", .str f, .tup (Tm.ds as)] := by simp [Tm.d]
    rw [el, idx_t0, wo_some, eq_w w_call w_call, wo_some, decide_eq_true rfl, tb_t, wxs_cons]
    rw [← el]
    simp [-wxs_cons]
    refine ⟨mthOk_l get_at (by intro z; cases z), ?_⟩
    rw [mth_append (ds := cs.map Tm.d) get_at (tm_below _) (by rw [List.length_map, szl]; omega), wp_ok, set_at]
    have := last (cs ++ [.call f as]) (fun c hc => by
      rcases List.mem_append.mp hc with hc | hc
      · exact hcs c hc
      · rw [List.mem_singleton.mp hc]
        exact ⟨f, as, rfl, hok.1.1, hok.1.2.1, hok.1.2.2⟩) (by simp)
    rw [List.map_append] at this
    exact this
  | name x =>
    have o := last cs hcs (by omega)
    simp only [Tm.d, idx_t0, wo_some] at o ⊢
    rw [eq_w w_name w_call, wo_some, decide_eq_false (by decide), tb_f, wxs_nil, nxt_nx]
    exact o
  | val x =>
    have o := last cs hcs (by omega)
    simp only [Tm.d, idx_t0, wo_some] at o ⊢
    rw [eq_w w_value w_call, wo_some, decide_eq_false (by decide), tb_f, wxs_nil, nxt_nx]
    exact o
  | halt x =>
    have o := last cs hcs (by omega)
    simp only [Tm.d, idx_t0, wo_some] at o ⊢
    rw [eq_w w_halt w_call, wo_some, decide_eq_false (by decide), tb_f, wxs_nil, nxt_nx]
    exact o
  | doo op xs =>
    have o := last cs hcs (by omega)
    simp only [Tm.d, idx_t0, wo_some] at o ⊢
    rw [eq_w w_do w_call, wo_some, decide_eq_false (by decide), tb_f, wxs_nil, nxt_nx]
    exact o
  | iff a b c =>
    have o := last cs hcs (by omega)
    simp only [Tm.d, idx_t0, wo_some] at o ⊢
    rw [eq_w w_if w_call, wo_some, decide_eq_false (by decide), tb_f, wxs_nil, nxt_nx]
    exact o
  | lett x a b =>
    have o := last cs hcs (by omega)
    simp only [Tm.d, idx_t0, wo_some] at o ⊢
    rw [eq_w w_let w_call, wo_some, decide_eq_false (by decide), tb_f, wxs_nil, nxt_nx]
    exact o
theorem Tm.szs_rev : ∀ ts : List Tm, Tm.szs ts.reverse = Tm.szs ts
  | [] => rfl
  | t :: ts => by
    rw [List.reverse_cons, Tm.szs_app, Tm.szs_rev ts]
    simp only [Tm.szs]
    omega
theorem calls_ok {e : Tm} (hk : 2 ≤ k) (ho : TOk fs e) (hd : e.dp ≤ 60) (hz : e.sz ≤ 2000) (q : ∀ cs : List Tm, (∀ c ∈ cs, isCall fs c) → cs.length ≤ 3000 → Q (.ref S.length) (S ++ [.lst (cs.map Tm.d)])) : WP (callF FT k c_calls_in [e.d] S) E Q := by
  obtain ⟨k, rfl⟩ : ∃ j, k = j + 1 := ⟨k - 1, by omega⟩
  refine call_wp (fn := e_calls_in.fn) rfl rfl ?_
  generalize (fun c x S1 => below S.length x = true ∧ E c x (S1.take S.length) : EE) = E'
  show WX (execs _ b_calls_in [some e.d, none, none, none] S) _ _
  unfold b_calls_in
  rw [wxs_cons]
  simp [-wxs_cons, setMany]
  rw [wxs_cons, wx_whl]
  refine whl_rule (C1 S e fs) e.sz (by unfold fuel; omega) ⟨[e], [], none, rfl, rfl, fun t ht => by
    rw [List.mem_singleton.mp ht]
    exact ⟨ho, by omega⟩, (fun c hc => by cases hc), by simp [Tm.szs], by simp [Tm.szs], trivial⟩ fun m v S' hM => ?_
  obtain ⟨ts, cs, t3, rfl, rfl, hts, hcs, hm, hce, ht3⟩ := hM
  simp [-wxs_cons]
  rw [ne_nil (n := 300) (ds := ts.map Tm.d) (by rw [get_at1]) (by rw [get_at2]) (tms_dat hts) (by decide), wo_some]
  rcases last_of ts with rfl | ⟨us, w, rfl⟩
  · show TB (.bl false) _ _
    simp only [Tm.szs] at hce
    rw [tb_f, trimC e.pure ht3]
    simp
    exact fin_new (L := [O.lst (cs.map Tm.d), O.lst []]) (m := 0) rfl (by rw [← Tm.ds_map]; exact Tm.ds_pure _) (q cs hcs (by omega))
  · have : (!(List.map Tm.d (us ++ [w])).isEmpty) = true := by simp
    rw [this, tb_t]
    have hw := hts w (by simp)
    have hus := fun t ht => hts t (List.mem_append_left _ ht)
    rw [Tm.szs_app] at hm hce
    simp only [Tm.szs] at hm hce
    have wp := w.sz_parts
    have hul := Tm.szs_len us
    refine ⟨by omega, ?_⟩
    rw [wxs_cons]
    simp [-wxs_cons]
    refine ⟨mthOk_l get_at1 (by intro z; cases z), ?_⟩
    rw [mth_pop (ds := us.map Tm.d) (d := w.d) (by rw [get_at1]), wp_ok, set_at1]
    refine call_turn (fs := fs) (by omega) hcs (by omega) hw hus (by omega) fun cs' L h1 h2 => ?_
    refine ⟨Tm.szs (us ++ w.parts.reverse), by rw [Tm.szs_app, Tm.szs_rev]; omega, us ++ w.parts.reverse, cs', some w.d, rfl, trimC e.pure w.pure, fun t ht => ?_, h1, rfl, by rw [Tm.szs_app, Tm.szs_rev]; omega, w.pure⟩
    rcases List.mem_append.mp ht with ht | ht
    · exact hus t ht
    · exact parts_ok_all hw t (List.mem_reverse.mp ht)
end
end DE
/-! GR8: functions and programs judged. -/
namespace DE
open PySem (Str PyData sizeLine)
section
variable {k n p : Nat} {S : Sto} {E : EE} {Q : D → Sto → Prop} {fs : List (Str × Nat)} {ns : List Str}
theorem all_iv {body : D → Sto → R (Option D)} {iv : IV} {ds : List D} {g : D → Bool} {E' : EE} (hiv : ∀ i, ivGet S i iv = some ds[i]?) (hl : ds.length < 100000) (hb : ∀ d ∈ ds, WP (body d S) (fun _ _ _ => False) fun o S1 => o = some (.bl (g d)) ∧ S1.take S.length = S)
    (q : Q (.bl (ds.all g)) (S ++ [.lst (ds.map fun d => .bl (g d))])) : WP (lcGo body iv fuel 0 [] S) E' fun as S2 => as.length ≤ 16777216 ∧ WP (blt .all [.ref S2.length] (S2 ++ [.lst as])) E' Q := by
  refine lc_map (f := fun d => .bl (g d)) hiv hl (fun d hd => WP.mono (hb d hd) fun o S1 h => ⟨h.1, rfl, h.2⟩) ?_
  refine ⟨by rw [List.length_map]; omega, ?_⟩
  have e1 : blt .all [.ref S.length] (S ++ [.lst (ds.map fun d => D.bl (g d))]) = .ok (.bl (ds.all g)) (S ++ [.lst (ds.map fun d => D.bl (g d))]) := by
    show bAll (.ref S.length) _ = _
    unfold bAll
    rw [lstOf_ref (ds := ds.map fun d => D.bl (g d)) (by simp)]
    simp only [optBl_of]
    rw [List.all_map]
    rfl
  rw [e1, wp_ok]
  exact q
theorem iv_fix {ds : List D} : ∀ i, ivGet S i (.fix ds) = some ds[i]? := fun i => rfl
/-- a function that may stand in a program with these -/
def FuJ (fs : List (Str × Nat)) (u : Fu) : Prop := wordB u.f = true ∧ NOk u.ps ∧ u.ps.Nodup ∧ u.ps.length ≤ 8 ∧ Tm.ok fs u.ps u.b ∧ u.b.sz ≤ 2000 ∧ u.b.dp ≤ 60
theorem Fu.ok.j {u : Fu} (h : u.ok fs) : FuJ fs u := by
  obtain ⟨a, b, c, d, e, f, g⟩ := h
  exact ⟨a, b, c, by omega, e, by omega, by omega⟩
theorem dedup_nodup {xs : List Str} (h : xs.Nodup) : dedup xs = xs := by
  have key : ∀ (ys acc : List Str), (acc ++ ys).Nodup → ys.foldl (fun acc x => if acc.contains x then acc else acc ++ [x]) acc = acc ++ ys := by
    intro ys
    induction ys with
    | nil => intro acc _; simp
    | cons y ys ih =>
      intro acc h
      rw [List.foldl_cons]
      have : acc.contains y = false := by
        cases e : acc.contains y with
        | false => rfl
        | true =>
          have := List.nodup_append.mp h
          exact absurd rfl (this.2.2 y (by simpa using e) y List.mem_cons_self)
      rw [this]
      simp only [Bool.false_eq_true, if_false]
      rw [ih _ (by simpa using h)]
      simp
  unfold dedup
  rw [key xs [] (by simpa using h)]
  rfl
theorem optStrs : ∀ {xs : List Str}, optAll strOf (xs.map D.str) = some xs
  | [] => rfl
  | x :: xs => by
    simp only [List.map_cons, optAll, strOf]
    rw [optStrs]
theorem lenset_ns {ps : List Str} (h : ps.Nodup) (hl : ps.length < 4000) : blt .lenset [nsD ps] S = .ok (.int (ps.length : Int)) S := by
  show bLenset (.tup (ps.map .str)) S = _
  unfold bLenset
  simp only [tupOf, optStrs, show Nat.blt ps.length 4000 = true from Nat.ble_eq_true_of_le hl, dedup_nodup h]
theorem len_ns {ps : List Str} : blt .len [nsD ps] S = .ok (.int (ps.length : Int)) S := by
  unfold nsD
  rw [blt_len_t, List.length_map]
theorem fits_name_w {x : Str} (hk : 2 ≤ k) (h : wordB x = true) (q : Q (.bl true) S) : WP (callF FT k c_fits_name [.str x] S) E Q := by
  refine fits_name_ok hk str_kd (word_lt h) ?_
  have : nameB (.str x) = true := h
  rw [this]
  exact q
theorem fits_fn_ok {u : Fu} (hk : 10 ≤ k) (h : FuJ fs u) (q : Q (.bl true) S) : WP (callF FT k c_fits_function [u.d] S) E Q := by
  obtain ⟨k, rfl⟩ : ∃ j, k = j + 1 := ⟨k - 1, by omega⟩
  obtain ⟨hf, hp, hnd, hl, ho, hz, hd⟩ := h
  refine call_wp (fn := e_fits_function.fn) rfl rfl ?_
  generalize (fun c x S1 => below S.length x = true ∧ E c x (S1.take S.length) : EE) = E'
  show WX (execs _ b_fits_function [some u.d, none, none] S) _ _
  have i0 : ∀ S, idx u.d (.int 0) S = some (.str u.f) := fun _ => rfl
  have i1 : ∀ S, idx u.d (.int 1) S = some (nsD u.ps) := fun _ => rfl
  have i2 : ∀ S, idx u.d (.int 2) S = some u.b.d := fun _ => rfl
  unfold b_fits_function
  rw [wxs_cons]
  simp [-wxs_cons, i0, i1]
  refine is_tuple_of_ok (by omega) (kd := .tup) rfl ?_
  rw [show tupIn u.d 3 3 = true from rfl, tb_t]
  refine fits_name_w (by omega) hf ?_
  rw [tb_t]
  refine is_tuple_of_ok (by omega) (kd := .tup) rfl ?_
  have t8 : tupIn (nsD u.ps) 0 8 = true := by
    unfold tupIn nsD
    simp only [tupOf, List.length_map]
    rw [decide_eq_true (by omega), decide_eq_true (by omega)]
    rfl
  rw [t8, tb_t, wxs_cons]
  simp [-wxs_cons, i0, i1]
  show WP (lcGo _ (.fix (u.ps.map D.str)) fuel 0 [] S) _ _
  refine all_iv (g := fun _ => true) iv_fix (by rw [List.length_map]; omega) (fun d hd2 => ?_) ?_
  · obtain ⟨x, hx, rfl⟩ := List.mem_map.mp hd2
    rw [wp_lcB]
    simp [bindT, wipe]
    exact fits_name_w (by omega) (hp x hx) (by simp)
  · rw [show (u.ps.map D.str).all (fun _ => true) = true by simp, tb_t, lenset_ns hnd (by omega), wp_ok, len_ns, wp_ok, ne_int, wo_some, decide_eq_true rfl]
    show TB (.bl false) _ _
    rw [tb_f, wxs_cons]
    simp [-wxs_cons, i2]
    refine fits_expr_ok (by omega) ⟨_, ho⟩ hd hz ?_
    refine fin_pure rfl ?_
    rw [take_app]
    exact q
end
end DE
/-! GR9: programs judged. -/
namespace DE
open PySem (Str PyData sizeLine)
section
variable {k n p : Nat} {S : Sto} {E : EE} {Q : D → Sto → Prop} {fs : List (Str × Nat)} {ns : List Str}
def PgJ (us : List Fu) : Prop := 1 ≤ us.length ∧ us.length ≤ 60 ∧ (us.map Fu.f).Nodup ∧ (∀ u ∈ us, FuJ (us.map Fu.sig) u) ∧ (us.map fun u => u.b.sz).sum ≤ 4000
def pgD (us : List Fu) : D := .tup (us.map Fu.d)
theorem fus_pure {us : List Fu} : (us.map Fu.d).all D.pure = true := by
  rw [List.all_eq_true]
  intro d hd
  obtain ⟨v, _, rfl⟩ := List.mem_map.mp hd
  rfl
def sigK (u : Fu) : D × D := (.str u.f, .int (u.ps.length : Int))
theorem pairs_sig : ∀ {us : List Fu}, pairs S (us.map sigD) = some (us.map sigK)
  | [] => rfl
  | u :: us => by
    show (match tupOf (sigD u) with | some [k, v] => (match keyOk k with | true => (pairs S (us.map sigD)).map ((k, v) :: ·) | false => none) | _ => none) = _
    rw [pairs_sig]
    rfl
theorem putAll_sig : ∀ {us vs : List Fu}, ((vs ++ us).map Fu.f).Nodup → putAll (vs.map sigK) (us.map sigK) = (vs ++ us).map sigK
  | [], vs, _ => by rw [List.append_nil]; rfl
  | u :: us, vs, h => by
    show putAll (dkPut (vs.map sigK) (.str u.f) (.int (u.ps.length : Int))) (us.map sigK) = _
    have an : ((vs.map sigK).any fun p => eqF p.1 (.str u.f)) = false := by
      cases e : (vs.map sigK).any fun p => eqF p.1 (.str u.f) with
      | false => rfl
      | true =>
        obtain ⟨p, hp, hq⟩ := List.any_eq_true.mp e
        obtain ⟨v, hv, rfl⟩ := List.mem_map.mp hp
        have hvu : v.f = u.f := of_decide_eq_true hq
        rw [List.map_append] at h
        exact absurd hvu ((List.nodup_append.mp h).2.2 v.f (List.mem_map.mpr ⟨v, hv, rfl⟩) u.f (List.mem_map.mpr ⟨u, List.mem_cons_self, rfl⟩))
    unfold dkPut
    rw [an]
    have := putAll_sig (us := us) (vs := vs ++ [u]) (by simpa using h)
    rw [List.map_append] at this
    rw [show vs ++ u :: us = vs ++ [u] ++ us by simp, ← this]
    rfl
theorem dkGet_sig {f : Str} {m : Nat} : ∀ {us : List Fu}, (us.map Fu.f).Nodup → (f, m) ∈ us.map Fu.sig → dkGet (us.map sigK) (.str f) = some (.int (m : Int))
  | [], _, h => by cases h
  | u :: us, hn, h => by
    rw [List.map_cons] at hn h
    have hn' := List.nodup_cons.mp hn
    show (match decide (u.f = f) with | true => some (D.int (u.ps.length : Int)) | false => dkGet (us.map sigK) (.str f)) = _
    rcases List.mem_cons.mp h with h | h
    · cases h
      rw [decide_eq_true rfl]
    · have : u.f ≠ f := fun e => hn'.1 (by
        obtain ⟨v, hv, e2⟩ := List.mem_map.mp h
        cases e2
        rw [e]
        exact List.mem_map.mpr ⟨v, hv, rfl⟩)
      rw [decide_eq_false this]
      exact dkGet_sig hn'.2 h
theorem sum_szs : ∀ {us : List Fu}, optAll intOf (us.map fun u => D.int (u.b.sz : Int)) = some (us.map fun u => (u.b.sz : Int))
  | [] => rfl
  | u :: us => by
    simp only [List.map_cons, optAll, intOf]
    rw [sum_szs]
theorem sum_cast : ∀ {us : List Fu}, (us.map fun u => (u.b.sz : Int)).sum = (((us.map fun u => u.b.sz).sum : Nat) : Int)
  | [] => rfl
  | u :: us => by
    simp only [List.map_cons, List.sum_cons]
    rw [sum_cast]
    omega
theorem blt_sum {m : Nat} {ds : List D} {is : List Int} (h : S[m]? = some (.lst ds)) (hi : optAll intOf ds = some is) : blt .sum [.ref m] S = .ok (.int is.sum) S := by
  show bSum (.ref m) S = _
  unfold bSum
  simp only [lstOf_ref h, hi]
theorem blt_len_k {m : Nat} {kvs : List (D × D)} (h : S[m]? = some (.dk kvs)) : blt .len [.ref m] S = .ok (.int kvs.length) S := by
  show bLen (.ref m) S = _
  unfold bLen
  simp only [h]
theorem mth_get1 {m : Nat} {kvs : List (D × D)} {x : Str} (h : S[m]? = some (.dk kvs)) : mth .get1 (.ref m) [.str x] S = .ok ((dkGet kvs (.str x)).getD .non) S := by
  show mGet1 (.ref m) (.str x) S = _
  unfold mGet1
  simp only [h]
  rfl
theorem bind_fu {u : Fu} {env : Env} : bindT (.t [1, 2, 3]) u.d env = some (((env.set 1 (some (.str u.f))).set 2 (some (nsD u.ps))).set 3 (some u.b.d)) := rfl
theorem mthOk_get1 {m : Nat} {kvs : List (D × D)} (h : S[m]? = some (.dk kvs)) : mthOk .get1 (.ref m) S = true := by
  unfold mthOk
  simp only [h]
theorem lc_mapF {α : Type} {body : D → Sto → R (Option D)} {iv : IV} {xs : List α} {h f : α → D} {Q : List D → Sto → Prop} (hiv : ∀ i, ivGet S i iv = some (xs.map h)[i]?) (hl : xs.length < 100000)
    (hb : ∀ x ∈ xs, WP (body (h x) S) (fun _ _ _ => False) fun o S1 => o = some (f x) ∧ below S.length (f x) = true ∧ S1.take S.length = S) (q : Q (xs.map f) S) : WP (lcGo body iv fuel 0 [] S) E Q := by
  refine lc_rule (fun i acc S' => i ≤ xs.length ∧ S' = S ∧ acc = (xs.take i).map f) xs.length (by unfold fuel; omega) ⟨Nat.zero_le _, rfl, rfl⟩ fun i acc S' ⟨hi, hS, ha⟩ => ?_
  subst hS
  rw [hiv, List.getElem?_map]
  cases hd : xs[i]? with
  | none =>
    have : i = xs.length := by have := List.getElem?_eq_none_iff.mp hd; omega
    subst this
    rw [List.take_length] at ha
    show Q acc _
    rw [ha]
    exact q
  | some d =>
    have hlt := (List.getElem?_eq_some_iff.mp hd).1
    refine ⟨hlt, _, hb d (List.mem_of_getElem? hd), fun e S1 ⟨h1, h2, h3⟩ => ?_, fun S1 ⟨h1, _⟩ => by cases h1⟩
    cases h1
    rw [h2]
    refine ⟨hlt, h3, ?_⟩
    rw [ha, List.take_add_one, hd]
    simp
theorem tupIn_pg {us : List Fu} (h1 : 1 ≤ us.length) (h2 : us.length ≤ 60) : tupIn (pgD us) 1 60 = true := by
  unfold tupIn pgD
  simp only [tupOf, List.length_map]
  rw [decide_eq_true (by omega), decide_eq_true (by omega)]
  rfl
def prBody : List Ss := match b_fits_program.getD 3 .pass with
  | .for _ _ _ b => b
  | _ => []
theorem pr_turn {us : List Fu} {u : Fu} {m : Nat} {E' : EE} {Q : Fl → Env → Sto → Prop} (hk : 3 ≤ k) (hu : u ∈ us) (hN : (us.map Fu.f).Nodup) (hj : FuJ (us.map Fu.sig) u) (hm : S[m]? = some (.dk (us.map sigK)))
    (q : ∀ L, Q .nx [some (pgD us), some (.str u.f), some (nsD u.ps), some u.b.d, some (.ref m), none, none, none, none] (S ++ L)) :
    WX (execs (callF FT k) prBody [some (pgD us), some (.str u.f), some (nsD u.ps), some u.b.d, some (.ref m), none, none, none, none] S) E' Q := by
  obtain ⟨hf, hp, hnd, hl, ho, hz, hd⟩ := hj
  have hlt := (List.getElem?_eq_some_iff.mp hm).1
  unfold prBody b_fits_program
  simp only [List.getD_cons_succ, List.getD_cons_zero]
  rw [wxs_cons]
  simp [-wxs_cons]
  refine asked_ok (by omega) ho hp hl hd hz fun ms h1 h2 => ?_
  rw [ivOf_ref (ds := ms.map .str) (by simp), wo_some]
  refine all_iv (ds := ms.map D.str) (g := fun _ => true) (iv_dyn (by simp)) (by rw [List.length_map]; omega) (fun d hd2 => ?_) ?_
  · obtain ⟨x, hx, rfl⟩ := List.mem_map.mp hd2
    rw [wp_lcB]
    simp [bindT, wipe]
    rw [show cmp .isin (.str x) (nsD u.ps) (S ++ [.lst (ms.map .str)]) = some (decide (x ∈ u.ps)) from in_words, decide_eq_true (h1 x hx), wo_some]
    exact ⟨rfl, List.take_of_length_le (by simp)⟩
  · rw [show (ms.map D.str).all (fun _ => true) = true by simp, tb_t, wxs_cons]
    simp [-wxs_cons, -List.append_assoc]
    refine calls_ok (by omega) ⟨_, ho⟩ hd hz fun cs h3 h4 => ?_
    rw [ivOf_ref (ds := cs.map Tm.d) (by simp), wo_some]
    refine all_iv (ds := cs.map Tm.d) (g := fun _ => true) (iv_dyn (by simp)) (by rw [List.length_map]; omega) (fun d hd2 => ?_) ?_
    · obtain ⟨t, ht, rfl⟩ := List.mem_map.mp hd2
      obtain ⟨f, as, rfl, hfa, hw, hal⟩ := h3 t ht
      rw [wp_lcB]
      simp [bindT, wipe, Tm.d, -List.append_assoc]
      have gm : ∀ L1 L2 L3, (S ++ L1 ++ L2 ++ L3)[m]? = some (O.dk (us.map sigK)) := fun L1 L2 L3 => by
        rw [List.append_assoc, List.append_assoc, List.getElem?_append_left hlt]
        exact hm
      rw [mthOk_get1 (gm _ _ _), idx_t1, wo_some, mth_get1 (gm _ _ _), wp_ok, dkGet_sig hN hfa, idx_t2, wo_some]
      refine ⟨rfl, ?_⟩
      rw [blt_len_t, wp_ok, Tm.ds_map, List.length_map]
      show WO (cmp .eq (.int _) (.int _) _) _
      rw [eq_int, wo_some, decide_eq_true rfl]
      exact ⟨rfl, List.take_of_length_le (by simp)⟩
    · rw [show (cs.map Tm.d).all (fun _ => true) = true by simp, tb_t]
      simp
      exact q _
theorem fits_program_ok {us : List Fu} (hk : 12 ≤ k) (h : PgJ us) (q : Q (.bl true) S) : WP (callF FT k c_fits_program [pgD us] S) E Q := by
  obtain ⟨k, rfl⟩ : ∃ j, k = j + 1 := ⟨k - 1, by omega⟩
  obtain ⟨h1, h2, hN, hJ, hZ⟩ := h
  refine call_wp (fn := e_fits_program.fn) rfl rfl ?_
  generalize (fun c x S1 => below S.length x = true ∧ E c x (S1.take S.length) : EE) = E'
  show WX (execs _ b_fits_program [some (pgD us), none, none, none, none, none, none, none, none] S) _ _
  have iv1 : ∀ S, ivOf S (pgD us) = some (.fix (us.map Fu.d)) := fun _ => rfl
  have ln : (us.map Fu.d).length < 100000 := by rw [List.length_map]; omega
  unfold b_fits_program
  rw [wxs_cons]
  simp [-wxs_cons, iv1]
  refine is_tuple_of_ok (by omega) (kd := .tup) rfl ?_
  rw [tupIn_pg h1 h2, tb_t]
  refine all_iv (g := fun _ => true) iv_fix ln (fun d hd => ?_) ?_
  · obtain ⟨u, hu, rfl⟩ := List.mem_map.mp hd
    rw [wp_lcB]
    simp [bindT, wipe]
    exact fits_fn_ok (by omega) (hJ u hu) (by simp)
  rw [show (us.map Fu.d).all (fun _ => true) = true by simp, tb_t, wxs_cons]
  simp [-wxs_cons, iv1, -List.append_assoc]
  refine lc_mapF (h := Fu.d) (f := sigD) iv_fix (by omega) (fun u hu => ?_) ?_
  · rw [wp_lcB]
    simp [bind_fu, wipe, -List.append_assoc]
    rw [len_ns, wp_ok]
    exact ⟨mkT2 rfl rfl, rfl, List.take_of_length_le (by simp)⟩
  refine ⟨by rw [List.length_map]; omega, ?_⟩
  rw [blt_dict_l (ds := us.map sigD) (by simp) pairs_sig, wp_ok, show putAll [] (us.map sigK) = us.map sigK from putAll_sig (vs := []) (by simpa using hN)]
  generalize List.map ((fun d => D.bl true) ∘ Fu.d) us = l1
  rw [show S ++ [O.lst l1] ++ [O.lst (us.map sigD)] ++ [O.dk (us.map sigK)] = S ++ [O.lst l1, O.lst (us.map sigD), O.dk (us.map sigK)] by simp, show (S ++ [O.lst l1] ++ [O.lst (us.map sigD)]).length = S.length + 2 by simp]
  have hm := get_at2 (S := S) (a := O.lst l1) (b := O.lst (us.map sigD)) (c := O.dk (us.map sigK)) (L := [])
  rw [show S ++ O.lst l1 :: O.lst (us.map sigD) :: O.dk (us.map sigK) :: [] = S ++ [O.lst l1, O.lst (us.map sigD), O.dk (us.map sigK)] from rfl] at hm
  have htk : ∀ L, (S ++ [O.lst l1, O.lst (us.map sigD), O.dk (us.map sigK)] ++ L).take S.length = S := fun L => by
    rw [List.append_assoc, List.take_left]
  generalize S ++ [O.lst l1, O.lst (us.map sigD), O.dk (us.map sigK)] = S1 at hm htk
  rw [wxs_cons]
  simp [-wxs_cons, iv1]
  rw [blt_len_k hm, wp_ok, show ∀ S, blt .len [pgD us] S = .ok (.int ((us.map Fu.d).length : Int)) S from fun _ => rfl, wp_ok, ne_int, wo_some, List.length_map, List.length_map, decide_eq_true rfl]
  show TB (.bl false) _ _
  rw [tb_f]
  refine lc_mapF (h := Fu.d) (f := fun u => .int (u.b.sz : Int)) iv_fix (by omega) (fun u hu => ?_) ?_
  · rw [wp_lcB]
    simp [bind_fu, wipe]
    obtain ⟨hf, hp, hnd, hl, ho, hz, hd⟩ := hJ u hu
    refine size_in_ok (by omega) ⟨_, ho⟩ (by omega) (by omega) ?_
    exact ⟨rfl, List.take_of_length_le (Nat.le_refl _)⟩
  refine ⟨by rw [List.length_map]; omega, ?_⟩
  rw [blt_sum (ds := us.map fun u => D.int (u.b.sz : Int)) (by simp) sum_szs, wp_ok, sum_cast, gt_int, wo_some, decide_eq_false (by omega), tb_f]
  have hm2 : (S1 ++ [O.lst (us.map fun u => D.int (u.b.sz : Int))])[S.length + 2]? = some (.dk (us.map sigK)) := by
    rw [List.getElem?_append_left (List.getElem?_eq_some_iff.mp hm).1]
    exact hm
  have htk2 : ∀ L, (S1 ++ [O.lst (us.map fun u => D.int (u.b.sz : Int))] ++ L).take S.length = S := fun L => by
    rw [List.append_assoc]
    exact htk _
  generalize S1 ++ [O.lst (us.map fun u => D.int (u.b.sz : Int))] = S2 at hm2 htk2
  have hlt2 := (List.getElem?_eq_some_iff.mp hm2).1
  rw [wxs_cons]
  simp [-wxs_cons, iv1]
  refine for_rule (fun i v S' => i ≤ us.length ∧ S' = S2 ∧ ∃ a b c, v = [some (pgD us), a, b, c, some (.ref (S.length + 2)), none, none, none, none] ∧ pureO a ∧ pureO b ∧ pureO c) us.length (by unfold fuel; omega) ⟨Nat.zero_le _, rfl, none, none, none, rfl, trivial, trivial, trivial⟩ fun i v S' ⟨hi, hS, a, b, c, hv, ha, hb, hc⟩ => ?_
  subst hS
  subst hv
  rw [iv_fix, List.getElem?_map]
  cases hd : us[i]? with
  | none =>
    simp
    refine fin_pure rfl ?_
    have := htk2 []
    rw [List.append_nil] at this
    rw [this]
    exact q
  | some u =>
    have hlt := (List.getElem?_eq_some_iff.mp hd).1
    have hu := List.mem_of_getElem? hd
    refine ⟨hlt, ?_⟩
    rw [bind_fu, wo_some]
    refine pr_turn (by omega) hu hN (hJ u hu) hm2 fun L => ?_
    refine ⟨hlt, ?_, some (.str u.f), some (nsD u.ps), some u.b.d, rfl, rfl, rfl, u.b.pure⟩
    unfold trim
    rw [show envBelow S'.length (wipe [some (pgD us), some (.str u.f), some (nsD u.ps), some u.b.d, some (.ref (S.length + 2)), none, none, none, none] []) = true from envB_of fun d hd => by
      simp only [wipe, List.foldr_nil, List.mem_cons, List.not_mem_nil, or_false, Option.some.injEq] at hd
      rcases hd with rfl | rfl | rfl | rfl | rfl | h | h
      · rfl
      · rfl
      · rfl
      · exact below_pure u.b.pure
      · exact Nat.ble_eq_true_of_le (by omega)
      · cases h
      · rcases h with h | h | h <;> cases h]
    exact List.take_left
end
end DE
/-! GK1: the law's own tests of sort, likeness, value. -/
namespace DE
open PySem (Str PyData sizeLine)
section
variable {k n p : Nat} {S : Sto} {E : EE} {Q : D → Sto → Prop}
def sortN : Kd → Int
  | .non => 0 | .bl => 1 | .int => 2 | .str => 3 | .tup => 4 | .lst => 5 | .dk => 6
theorem is_non {d : D} {kd : Kd} (h : kindOf S d = some kd) : cmp .is d .non S = some (match kd with | .non => true | _ => false) := by
  cases d with
  | ref m =>
    unfold kindOf at h
    simp only at h
    split at h <;> cases h <;> rfl
  | glo _ => cases h
  | _ => cases h; rfl
theorem sort_ok {d : D} {kd : Kd} (hk : 1 ≤ k) (h : kindOf S d = some kd) (q : Q (.int (sortN kd)) S) : WP (callF FT k c__law_sort [d] S) E Q := by
  obtain ⟨k, rfl⟩ : ∃ j, k = j + 1 := ⟨k - 1, by omega⟩
  refine call_wp (fn := e__law_sort.fn) rfl rfl ?_
  show WX (execs _ b__law_sort [some d] S) _ _
  unfold b__law_sort
  rw [wxs_cons]
  simp [-wxs_cons, blt_isI h, blt_isB h, blt_isS h, blt_isT h, blt_isL h, is_non h]
  cases kd with
  | non => rw [tb_t]; simp [is_non h]; exact fin_p rfl q
  | bl => rw [tb_f]; simp only [isKd]; rw [tb_t]; simp [is_non h]; exact fin_p rfl q
  | int => rw [tb_f]; simp only [isKd]; rw [tb_f, wxs_cons]; simp [blt_isI h, isKd]; exact fin_p rfl q
  | str => rw [tb_f]; simp only [isKd]; rw [tb_f, wxs_cons]; simp [blt_isI h, blt_isS h, isKd]; exact fin_p rfl q
  | tup => rw [tb_f]; simp only [isKd]; rw [tb_f, wxs_cons]; simp [blt_isI h, blt_isS h, blt_isT h, isKd]; exact fin_p rfl q
  | lst => rw [tb_f]; simp only [isKd]; rw [tb_f, wxs_cons]; simp [blt_isI h, blt_isS h, blt_isT h, blt_isL h, isKd]; exact fin_p rfl q
  | dk => rw [tb_f]; simp only [isKd]; rw [tb_f, wxs_cons]; simp [blt_isI h, blt_isS h, blt_isT h, blt_isL h, isKd]; exact fin_p rfl q
/-! ### likeness -/
theorem mkZ {a b : D} (ha : a.pure = true) (hb : b.pure = true) : mkT [a, b] = .tup [a, b] := mkT2 ha hb
def kdD : D → Kd
  | .non => .non | .bl _ => .bl | .int _ => .int | .str _ => .str | _ => .tup
theorem kd_dat {m : Nat} {d : D} (h : Dat m d) : kindOf S d = some (kdD d) := by cases h <;> rfl
theorem eqv_self {m : Nat} {d : D} (h : Dat m d) : PyData.eqv (dP m d) (dP m d) = true := by
  induction h with
  | non => simp [dP, PyData.eqv]
  | bl => simp [dP, PyData.eqv]
  | int => simp [dP, PyData.eqv]
  | str h => simp [dP, PyData.eqv]
  | tup h ih =>
    simp only [dP, PyData.eqv]
    rename_i n ds
    clear h
    induction ds with
    | nil => simp [PyData.eqvAll]
    | cons d ds ih2 =>
      simp only [List.map_cons, PyData.eqvAll]
      rw [ih d List.mem_cons_self, ih2 fun d hd => ih d (List.mem_cons_of_mem _ hd)]
      rfl
/-- a comprehension that keeps nothing -/
theorem lc_none {body : D → Sto → R (Option D)} {iv : IV} {N : Nat} {g : Nat → D} {E' : EE} {Q : List D → Sto → Prop} (hiv : ∀ i, ivGet S i iv = some (if i < N then some (g i) else none)) (hl : N < 100000)
    (hb : ∀ i, i < N → WP (body (g i) S) (fun _ _ _ => False) fun o S1 => o = none ∧ S1.take S.length = S) (q : Q [] S) : WP (lcGo body iv fuel 0 [] S) E' Q := by
  refine lc_rule (fun i acc S' => i ≤ N ∧ S' = S ∧ acc = []) N (by unfold fuel; omega) ⟨Nat.zero_le _, rfl, rfl⟩ fun i acc S' ⟨hi, hS, ha⟩ => ?_
  subst hS ha
  rw [hiv]
  by_cases h : i < N
  · rw [if_pos h]
    exact ⟨h, _, hb i h, fun e S1 h1 => (by cases h1.1), fun S1 h2 => ⟨h, h2.2, rfl⟩⟩
  · rw [if_neg h]
    exact q
theorem iv_zip {a b : IV} {ds : List D} (ha : ∀ i, ivGet S i a = some ds[i]?) (hb : ∀ i, ivGet S i b = some ds[i]?) (hp : ∀ d ∈ ds, d.pure = true) : ∀ i, ivGet S i (.zip a b) = some (if i < ds.length then some (.tup [ds.getD i .non, ds.getD i .non]) else none) := fun i => by
  unfold ivGet
  rw [ha, hb]
  by_cases h : i < ds.length
  · rw [if_pos h, List.getElem?_eq_getElem h]
    have : ds.getD i .non = ds[i] := by rw [List.getD_eq_getElem?_getD, List.getElem?_eq_getElem h]; rfl
    rw [this]
    simp only
    rw [mkT2 (hp _ (List.getElem_mem h)) (hp _ (List.getElem_mem h))]
  · rw [if_neg h, List.getElem?_eq_none (by omega)]
theorem like_seq {k : Nat} {a b : D} {kd : Kd} {iv iw : IV} {ds : List D} (hk : 2 ≤ k) (hn : kd = .tup ∨ kd = .lst) (ha : kindOf S a = some kd) (hb : kindOf S b = some kd) (la : blt .len [a] S = .ok (.int ds.length) S) (lb : blt .len [b] S = .ok (.int ds.length) S)
    (hz : zipOf S a b = some (.zip iv iw)) (h1 : ∀ i, ivGet S i iv = some ds[i]?) (h2 : ∀ i, ivGet S i iw = some ds[i]?) (hp : ∀ d ∈ ds, d.pure = true) (hl : ds.length < 100000)
    (hr : ∀ d ∈ ds, ∀ {S : Sto} {E : EE} {Q : D → Sto → Prop}, Q (.bl true) S → WP (callF FT (k - 1) c__law_like [d, d] S) E Q) (q : Q (.bl true) S) : WP (callF FT k c__law_like [a, b] S) E Q := by
  obtain ⟨k, rfl⟩ : ∃ j, k = j + 1 := ⟨k - 1, by omega⟩
  refine call_wp (fn := e__law_like.fn) rfl rfl ?_
  generalize (fun c x S1 => below S.length x = true ∧ E c x (S1.take S.length) : EE) = E'
  show WX (execs _ b__law_like [some a, some b, none, none, none, none] S) _ _
  unfold b__law_like
  rw [wxs_cons]
  simp [-wxs_cons]
  refine sort_ok (by omega) hb ?_
  have hs : sortN kd = 4 ∨ sortN kd = 5 := by rcases hn with rfl | rfl; exact .inl rfl; exact .inr rfl
  rw [wxs_cons]
  simp [-wxs_cons]
  refine sort_ok (by omega) ha ?_
  rw [ne_int, wo_some, decide_eq_true rfl]
  show TB (.bl false) _ _
  rw [tb_f, eq_int, wo_some, decide_eq_false (by omega), tb_f, wxs_cons]
  simp [-wxs_cons]
  rw [mkT2 rfl rfl, show cmp .isin (.int (sortN kd)) (.tup [.int 4, .int 5]) S = some true by
    rcases hn with rfl | rfl <;> rfl, wo_some, tb_t]
  simp [la, lb, eq_int, hz]
  refine lc_none (iv_zip h1 h2 hp) hl (fun i hi => ?_) ?_
  · have hm : ds.getD i .non ∈ ds := by
      rw [List.getD_eq_getElem?_getD, List.getElem?_eq_getElem hi]
      exact List.getElem_mem hi
    rw [wp_lcB]
    simp [bindT, wipe, setMany, tupOf]
    refine hr _ (by simpa using hm) ?_
    rw [tb_t]
    simp [boolOf]
  · rw [eq_nil (n := 0) (ds := []) (by simp) (by simp) (fun _ h => by cases h) (by decide), wo_some]
    refine ⟨Nat.zero_le _, ?_⟩
    exact fin_pure rfl (by simpa using q)
inductive Lka : Nat → D → Prop where
  | atom {n : Nat} {d : D} (h : Dat 0 d) : Lka n d
  | tup {n : Nat} {ds : List D} (hl : ds.length < 100000) (h : ∀ d ∈ ds, Lka n d) : Lka (n + 1) (.tup ds)
theorem Lka.pure {n : Nat} {d : D} (h : Lka n d) : d.pure = true := by
  cases h with
  | atom h => exact h.pure
  | tup => rfl
theorem like_atom {d e : D} (hk : 2 ≤ k) (h : Dat 0 d) (h' : Dat 0 e) (hs : kdD d = kdD e) (q : Q (.bl (PyData.eqv (dP 0 d) (dP 0 e))) S) : WP (callF FT k c__law_like [d, e] S) E Q := by
  obtain ⟨k, rfl⟩ : ∃ j, k = j + 1 := ⟨k - 1, by omega⟩
  refine call_wp (fn := e__law_like.fn) rfl rfl ?_
  generalize (fun c x S1 => below S.length x = true ∧ E c x (S1.take S.length) : EE) = E'
  show WX (execs _ b__law_like [some d, some e, none, none, none, none] S) _ _
  unfold b__law_like
  rw [wxs_cons]
  simp [-wxs_cons]
  refine sort_ok (by omega) (kd_dat h') ?_
  rw [wxs_cons]
  simp [-wxs_cons]
  refine sort_ok (by omega) (kd_dat h) ?_
  rw [hs, ne_int, wo_some, decide_eq_true rfl]
  show TB (.bl false) _ _
  rw [tb_f, eq_int, wo_some, show decide (sortN (kdD e) = 6) = false by cases h' <;> rfl, tb_f, wxs_cons]
  simp [-wxs_cons]
  rw [mkT2 rfl rfl, show cmp .isin (.int (sortN (kdD e))) (.tup [.int 4, .int 5]) S = some false by cases h' <;> rfl, wo_some, tb_f]
  simp
  rw [eq_dat h h' (by decide) (by decide) (by decide), wo_some]
  exact fin_bl q
theorem like_diff {d e : D} {kd ke : Kd} (hk : 2 ≤ k) (h : kindOf S d = some kd) (h' : kindOf S e = some ke) (hs : sortN kd ≠ sortN ke) (q : Q (.bl false) S) : WP (callF FT k c__law_like [d, e] S) E Q := by
  obtain ⟨k, rfl⟩ : ∃ j, k = j + 1 := ⟨k - 1, by omega⟩
  refine call_wp (fn := e__law_like.fn) rfl rfl ?_
  generalize (fun c x S1 => below S.length x = true ∧ E c x (S1.take S.length) : EE) = E'
  show WX (execs _ b__law_like [some d, some e, none, none, none, none] S) _ _
  unfold b__law_like
  rw [wxs_cons]
  simp [-wxs_cons]
  refine sort_ok (by omega) h' ?_
  rw [wxs_cons]
  simp [-wxs_cons]
  refine sort_ok (by omega) h ?_
  rw [ne_int, wo_some, decide_eq_false hs]
  show TB (.bl true) _ _
  rw [tb_t]
  simp
  exact fin_bl q
theorem like_lk {m : Nat} {d : D} (h : Lka m d) : ∀ {k : Nat} {S : Sto} {E : EE} {Q : D → Sto → Prop}, m + 2 ≤ k → Q (.bl true) S → WP (callF FT k c__law_like [d, d] S) E Q := by
  induction h with
  | atom h =>
    intro k S E Q hk q
    refine like_atom (by omega) h h rfl ?_
    rw [eqv_self h]
    exact q
  | @tup n ds hl h ih =>
    intro k S E Q hk q
    exact like_seq (ds := ds) (iv := .fix ds) (iw := .fix ds) (by omega) (.inl rfl) rfl rfl rfl rfl rfl (fun _ => rfl) (fun _ => rfl) (fun d hd => (h d hd).pure) hl (fun d hd S E Q q => ih d hd (by omega) q) q
theorem like_list {m a b : Nat} {ds : List D} (ha : S[a]? = some (.lst ds)) (hb : S[b]? = some (.lst ds)) (hl : ds.length < 100000) (h : ∀ d ∈ ds, Lka m d) (hk : m + 3 ≤ k) (q : Q (.bl true) S) : WP (callF FT k c__law_like [.ref a, .ref b] S) E Q := by
  have kd : ∀ {c}, S[c]? = some (.lst ds) → kindOf S (.ref c) = some .lst := fun h => by
    unfold kindOf
    simp only [h]
  refine like_seq (ds := ds) (iv := .dyn a) (iw := .dyn b) (by omega) (.inr rfl) (kd ha) (kd hb) (blt_len_l ha) (blt_len_l hb) ?_ (iv_dyn ha) (iv_dyn hb) (fun d hd => (h d hd).pure) hl (fun d hd S E Q q => like_lk (h d hd) (by omega) q) q
  unfold zipOf
  rw [ivOf_ref ha, ivOf_ref hb]
  rfl
end
end DE
/-! GK2: the law's own test of a value; known pairs. -/
namespace DE
open PySem (Str PyData sizeLine)
section
variable {k n p : Nat} {S : Sto} {E : EE} {Q : D → Sto → Prop}
theorem pow60 : bin .pow (.int 10) (.int 60) S = .ok (.int (10 ^ 60)) S := rfl
theorem lc_flt {body : D → Sto → R (Option D)} {iv : IV} {ds : List D} {g : D → Bool} {f : D → D} {E' : EE} {Q : List D → Sto → Prop} (hiv : ∀ i, ivGet S i iv = some ds[i]?) (hl : ds.length < 100000)
    (hb : ∀ d ∈ ds, WP (body d S) (fun _ _ _ => False) fun o S1 => o = (if g d = true then some (f d) else none) ∧ below S.length (f d) = true ∧ S1.take S.length = S) (q : Q ((ds.filter g).map f) S) : WP (lcGo body iv fuel 0 [] S) E' Q := by
  refine lc_rule (fun i acc S' => i ≤ ds.length ∧ S' = S ∧ acc = ((ds.take i).filter g).map f) ds.length (by unfold fuel; omega) ⟨Nat.zero_le _, rfl, rfl⟩ fun i acc S' ⟨hi, hS, ha⟩ => ?_
  subst hS
  rw [hiv]
  cases hd : ds[i]? with
  | none =>
    have : i = ds.length := by have := List.getElem?_eq_none_iff.mp hd; omega
    subst this
    rw [List.take_length] at ha
    show Q acc _
    rw [ha]
    exact q
  | some d =>
    have hlt := (List.getElem?_eq_some_iff.mp hd).1
    refine ⟨hlt, _, hb d (List.mem_of_getElem? hd), fun e S1 ⟨h1, h2, h3⟩ => ?_, fun S1 ⟨h1, h2, h3⟩ => ?_⟩
    · cases hg : g d with
      | false => rw [hg] at h1; cases h1
      | true =>
        rw [hg] at h1
        cases h1
        rw [h2]
        refine ⟨hlt, h3, ?_⟩
        rw [ha, List.take_add_one, hd]
        simp [hg]
    · cases hg : g d with
      | true => rw [hg] at h1; cases h1
      | false =>
        refine ⟨hlt, h3, ?_⟩
        rw [ha, List.take_add_one, hd]
        simp [hg]
theorem isval_int {i : Int} (hk : 2 ≤ k) (q : Q (.bl (decide (-(10 ^ 60) < i ∧ i < 10 ^ 60))) S) : WP (callF FT k c__law_is_value [.int i] S) E Q := by
  obtain ⟨k, rfl⟩ : ∃ j, k = j + 1 := ⟨k - 1, by omega⟩
  refine call_wp (fn := e__law_is_value.fn) rfl rfl ?_
  generalize (fun c x S1 => below S.length x = true ∧ E c x (S1.take S.length) : EE) = E'
  show WX (execs _ b__law_is_value [some (.int i), none, none] S) _ _
  unfold b__law_is_value
  rw [wxs_cons]
  simp [-wxs_cons]
  refine sort_ok (by omega) (kd := .int) rfl ?_
  rw [eq_int, wo_some, decide_eq_true (by rfl), tb_t]
  simp
  rw [pow60, wp_ok, lt_int, wo_some]
  refine fin_bl ?_
  have : decide ((if i < 0 then -i else i) < 10 ^ 60) = decide (-(10 ^ 60) < i ∧ i < 10 ^ 60) := by
    rw [decide_eq_decide]
    split <;> omega
  rw [this]
  exact q
theorem isval_sort {d : D} {kd : Kd} (hk : 2 ≤ k) (h : ∀ S, kindOf S d = some kd) (hs : kd = .non ∨ kd = .bl ∨ kd = .lst ∨ kd = .dk) (q : Q (.bl false) S) : WP (callF FT k c__law_is_value [d] S) E Q := by
  obtain ⟨k, rfl⟩ : ∃ j, k = j + 1 := ⟨k - 1, by omega⟩
  refine call_wp (fn := e__law_is_value.fn) rfl rfl ?_
  generalize (fun c x S1 => below S.length x = true ∧ E c x (S1.take S.length) : EE) = E'
  show WX (execs _ b__law_is_value [some d, none, none] S) _ _
  have n2 : sortN kd ≠ 2 := by rcases hs with rfl | rfl | rfl | rfl <;> decide
  have n3 : sortN kd ≠ 3 := by rcases hs with rfl | rfl | rfl | rfl <;> decide
  have n4 : sortN kd ≠ 4 := by rcases hs with rfl | rfl | rfl | rfl <;> decide
  unfold b__law_is_value
  rw [wxs_cons]
  simp [-wxs_cons]
  refine sort_ok (by omega) (h _) ?_
  rw [eq_int, wo_some, decide_eq_false n2, tb_f, wxs_cons]
  simp [-wxs_cons]
  refine sort_ok (by omega) (h _) ?_
  rw [eq_int, wo_some, decide_eq_false n3, tb_f, wxs_cons]
  simp
  refine sort_ok (by omega) (h _) ?_
  rw [eq_int, wo_some, decide_eq_false n4, tb_f]
  exact fin_bl q
theorem isval_str {x : Str} (hk : 2 ≤ k) (hx : x.cps.size < 10000) (hok : PyData.strOk x = true) (q : Q (.bl (wordB x)) S) : WP (callF FT k c__law_is_value [.str x] S) E Q := by
  obtain ⟨k, rfl⟩ : ∃ j, k = j + 1 := ⟨k - 1, by omega⟩
  refine call_wp (fn := e__law_is_value.fn) rfl rfl ?_
  generalize (fun c x S1 => below S.length x = true ∧ E c x (S1.take S.length) : EE) = E'
  show WX (execs _ b__law_is_value [some (.str x), none, none] S) _ _
  unfold b__law_is_value
  rw [wxs_cons]
  simp [-wxs_cons]
  refine sort_ok (by omega) (kd := .str) rfl ?_
  rw [eq_int, wo_some, decide_eq_false (by decide), tb_f, wxs_cons]
  simp [-wxs_cons]
  refine sort_ok (by omega) (kd := .str) rfl ?_
  rw [eq_int, wo_some, decide_eq_true (by rfl), tb_t]
  have ln : blt .len [.str x] S = .ok (.int x.length) S := by
    show bLen (.str x) S = _
    unfold bLen
    have : Nat.ble x.length sizeLine = true := Nat.ble_eq_true_of_le (by rw [szl]; show x.cps.size ≤ _; omega)
    simp only [this]
  simp [ln]
  have nb : wordB x = (Nat.ble 1 x.cps.size && Nat.ble x.cps.size 12 && x.cps.toList.all fun c => Nat.ble 97 c && Nat.ble c 122) := rfl
  have bad : (decide ((1 : Int) ≤ x.cps.size) && decide ((x.cps.size : Int) ≤ 12)) = false → wordB x = false := fun hb => by
    rw [nb]
    cases e : (Nat.ble 1 x.cps.size && Nat.ble x.cps.size 12) with
    | false => rfl
    | true =>
      obtain ⟨e1, e2⟩ := Bool.and_eq_true_iff.mp e
      have e1 := Nat.le_of_ble_eq_true e1
      have e2 := Nat.le_of_ble_eq_true e2
      rw [decide_eq_true (by omega), decide_eq_true (by omega)] at hb
      cases hb
  have xl : (x.length : Int) = x.cps.size := rfl
  rw [xl]
  refine tb_p (fun h1 => ?_) (fun h1 => ?_)
  · refine tb_p (fun h2 => ?_) (fun h2 => ?_)
    · let g : D → Bool := fun d => match d with
        | .str y => !abc.cps.toList.contains (y.cps.getD 0 0)
        | _ => false
      have ch : ∀ d ∈ chars x, ∃ c, c ∈ x.cps.toList ∧ d = .str ⟨#[c]⟩ := fun d hd => by
        obtain ⟨c, hc, rfl⟩ := List.mem_map.mp hd
        exact ⟨c, hc, rfl⟩
      have cl : (chars x).length = x.cps.size := by unfold chars; rw [List.length_map, Array.length_toList]
      show WO (some (IV.fix (chars x))) _
      rw [wo_some]
      refine lc_flt (g := g) (f := fun d => d) (fun _ => rfl) (by rw [cl]; omega) (fun d hd => ?_) ?_
      · obtain ⟨c, _, rfl⟩ := ch d hd
        rw [wp_lcB]
        simp [bindT, wipe]
        rw [show cmp .notin (.str ⟨#[c]⟩) (.str (Str.ofString "abcdefghijklmnopqrstuvwxyz")) S = some (!abc.cps.toList.contains c) from rfl, wo_some]
        have : g (.str ⟨#[c]⟩) = !abc.cps.toList.contains c := rfl
        rw [this]
        cases abc.cps.toList.contains c <;> simp [boolOf]
      · rw [List.map_id']
        have dl : ((chars x).filter g).length ≤ 12 := by
          have := List.length_filter_le g (chars x)
          omega
        refine ⟨by omega, ?_⟩
        rw [eq_nil (n := 0) (ds := (chars x).filter g) (by simp) (by simp) (fun d hd => by
          obtain ⟨c, hc, rfl⟩ := ch d (List.mem_filter.mp hd).1
          refine .str ?_
          unfold PyData.strOk at hok ⊢
          rw [Array.all_eq_true'] at hok
          simpa using hok c (by simpa using hc)) (by decide), wo_some]
        refine fin_pure rfl ?_
        have e2 : ((chars x).filter g).isEmpty = wordB x := by
          rw [nb, Nat.ble_eq_true_of_le (by omega), Nat.ble_eq_true_of_le (by omega), Bool.true_and, Bool.true_and, Bool.eq_iff_iff, List.isEmpty_iff, List.filter_eq_nil_iff, List.all_eq_true]
          constructor
          · intro h c hc
            rw [← abc_mem]
            have := h (.str ⟨#[c]⟩) (List.mem_map.mpr ⟨c, hc, rfl⟩)
            have e3 : g (.str ⟨#[c]⟩) = !abc.cps.toList.contains c := rfl
            rw [e3] at this
            cases e4 : abc.cps.toList.contains c with
            | true => rfl
            | false => rw [e4] at this; exact absurd rfl this
          · intro h d hd
            obtain ⟨c, hc, rfl⟩ := ch d hd
            have e3 : g (.str ⟨#[c]⟩) = !abc.cps.toList.contains c := rfl
            rw [e3, abc_mem, h c hc]
            decide
        rw [e2]
        simpa using q
    · rw [bad (by rw [decide_eq_false h2]; simp)] at q
      exact fin_bl q
  · rw [bad (by rw [decide_eq_false h1]; simp)] at q
    exact fin_bl q
theorem isval_tup {ds : List D} (hk : 2 ≤ k) (h : ds.length ≠ 2) (q : Q (.bl false) S) : WP (callF FT k c__law_is_value [.tup ds] S) E Q := by
  obtain ⟨k, rfl⟩ : ∃ j, k = j + 1 := ⟨k - 1, by omega⟩
  refine call_wp (fn := e__law_is_value.fn) rfl rfl ?_
  generalize (fun c x S1 => below S.length x = true ∧ E c x (S1.take S.length) : EE) = E'
  show WX (execs _ b__law_is_value [some (.tup ds), none, none] S) _ _
  unfold b__law_is_value
  rw [wxs_cons]
  simp [-wxs_cons]
  refine sort_ok (by omega) (kd := .tup) rfl ?_
  rw [eq_int, wo_some, decide_eq_false (by decide), tb_f, wxs_cons]
  simp [-wxs_cons]
  refine sort_ok (by omega) (kd := .tup) rfl ?_
  rw [eq_int, wo_some, decide_eq_false (by decide), tb_f, wxs_cons]
  simp
  refine sort_ok (by omega) (kd := .tup) rfl ?_
  rw [eq_int, wo_some, decide_eq_true (by rfl), tb_t, eq_int, wo_some, decide_eq_false (by omega), tb_f]
  exact fin_bl q
theorem isval_vl : ∀ {v : Vl} {k : Nat} {S : Sto} {E : EE} {Q : D → Sto → Prop}, v.dp + 2 ≤ k → v.ok → Q (.bl true) S → WP (callF FT k c__law_is_value [v.d] S) E Q
  | .int i, k, S, E, Q, hk, ho, q => isval_int (by omega) (by rw [decide_eq_true (show -(10 ^ 60) < i ∧ i < 10 ^ 60 from ho)]; exact q)
  | .str x, k, S, E, Q, hk, ho, q => isval_str (by omega) (word_lt ho x rfl) (word_ok ho) (by rw [show wordB x = true from ho]; exact q)
  | .pair a b, k, S, E, Q, hk, ho, q => by
    obtain ⟨k, rfl⟩ : ∃ j, k = j + 1 := ⟨k - 1, by omega⟩
    obtain ⟨h1, h2⟩ := ho
    simp only [Vl.dp] at hk
    refine call_wp (fn := e__law_is_value.fn) rfl rfl ?_
    generalize (fun c x S1 => below S.length x = true ∧ E c x (S1.take S.length) : EE) = E'
    show WX (execs _ b__law_is_value [some (.tup [a.d, b.d]), none, none] S) _ _
    unfold b__law_is_value
    rw [wxs_cons]
    simp [-wxs_cons]
    refine sort_ok (by omega) (kd := .tup) rfl ?_
    rw [eq_int, wo_some, decide_eq_false (by decide), tb_f, wxs_cons]
    simp [-wxs_cons]
    refine sort_ok (by omega) (kd := .tup) rfl ?_
    rw [eq_int, wo_some, decide_eq_false (by decide), tb_f, wxs_cons]
    simp
    refine sort_ok (by omega) (kd := .tup) rfl ?_
    rw [eq_int, wo_some, decide_eq_true (by rfl), tb_t, eq_int, wo_some, decide_eq_true (by rfl), tb_t, idx_t0, wo_some]
    refine isval_vl (by omega) h1 ?_
    rw [tb_t, idx_t1, wo_some]
    exact isval_vl (by omega) h2 (fin_bl q)
/-! ### pairs that tell -/
/-- both tests of a value answer so -/
def Fv (c : D) (b : Bool) : Prop := (∀ {k : Nat} {S : Sto} {E : EE} {Q : D → Sto → Prop}, 12 ≤ k → Q (.bl b) S → WP (callF FT k c_fits_value [c] S) E Q) ∧ ∀ {k : Nat} {S : Sto} {E : EE} {Q : D → Sto → Prop}, 12 ≤ k → Q (.bl b) S → WP (callF FT k c__law_is_value [c] S) E Q
def Vl.gd (v : Vl) : Prop := v.ok ∧ v.sz ≤ 100 ∧ v.dp ≤ 10
theorem Fv.vl {v : Vl} (h : v.gd) : Fv v.d true := ⟨fun hk q => fits_value_ok (by omega) h.1 (by have := h.2.1; omega) (by have := h.2.2; omega) q, fun hk q => isval_vl (by have := h.2.2; omega) h.1 q⟩
theorem Fv.bad {d : D} {m : Nat} {kd : Kd} (hd : Dat m d) (hm : m < 900) (h : ∀ S, kindOf S d = some kd) (hk : kd = .non ∨ kd = .bl) : Fv d false := ⟨fun hj q => fits_value_bad (by omega) hd hm h (by
    cases hd with
    | tup => rcases hk with rfl | rfl <;> cases h []
    | _ => rfl) (by
    cases hd with
    | int => rcases hk with rfl | rfl <;> cases h []
    | str => rcases hk with rfl | rfl <;> cases h []
    | _ => rfl) (by
    intro x hx
    subst hx
    rcases hk with rfl | rfl <;> cases h []) q, fun hj q => isval_sort (by omega) h (by rcases hk with rfl | rfl; exact .inl rfl; exact .inr (.inl rfl)) q⟩
theorem Fv.str {x : Str} (hx : x.cps.size < 10000) (ho : PyData.strOk x = true) (hw : wordB x = false) : Fv (.str x) false := ⟨fun hj q => fits_value_bad (by omega) (Dat.str (n := 0) ho) (by decide) (fun _ => rfl) rfl (by
    show (false || wordB x) = false
    rw [hw]; rfl) (fun y hy => by cases hy; exact hx) q, fun hj q => isval_str (by omega) hx ho (by rw [hw]; exact q)⟩
theorem Fv.int {i : Int} (hi : ¬ (-(10 ^ 60) < i ∧ i < 10 ^ 60)) : Fv (.int i) false := ⟨fun hj q => fits_value_bad (by omega) (Dat.int (n := 0)) (by decide) (fun _ => rfl) rfl (by
    show ((decide _ && decide _) || false) = false
    rw [Bool.or_false]
    by_cases h1 : (1 - 1000000000000000000000000000000000000000000000000000000000000 : Int) ≤ i
    · rw [decide_eq_false (p := i ≤ _) (by omega), Bool.and_false]
    · rw [decide_eq_false h1, Bool.false_and]) (fun y hy => by cases hy) q, fun hj q => isval_int (by omega) (by rw [decide_eq_false hi]; exact q)⟩
theorem Fv.tup {ds : List D} {m : Nat} (hd : Dat m (.tup ds)) (hm : m < 900) (h : ds.length ≠ 2) : Fv (.tup ds) false := ⟨fun hj q => fits_value_bad (by omega) hd hm (fun _ => rfl) (by
    show (decide _ && decide _) = false
    by_cases h1 : (2 : Int) ≤ ds.length
    · rw [decide_eq_false (p := (ds.length : Int) ≤ 2) (by omega), Bool.and_false]
    · rw [decide_eq_false h1, Bool.false_and]) rfl (fun y hy => by cases hy) q, fun hj q => isval_tup (by omega) h q⟩
end
end DE
/-! GK3: things that are, are not known pairs. -/
namespace DE
open PySem (Str PyData sizeLine)
section
variable {k n p : Nat} {S : Sto} {E : EE} {Q : D → Sto → Prop}
inductive Elt (S : Sto) : D → Bool → Prop where
  | non {d : D} {kd : Kd} (h : kindOf S d = some kd) (hk : kd ≠ .tup) : Elt S d false
  | tup {ds : List D} (h : ds.length ≠ 2) : Elt S (.tup ds) false
  | fst {a c : D} {kd : Kd} (h : kindOf S a = some kd) (hk : kd ≠ .int) : Elt S (.tup [a, c]) false
  | big {i : Int} {c : D} (h : i ≠ 0 ∧ i ≠ 1) : Elt S (.tup [.int i, c]) false
  | zero {j : Int} : Elt S (.tup [.int 0, .int j]) (decide (j = 0))
  | zerob {x : Bool} : Elt S (.tup [.int 0, .bl x]) false
  | one {c : D} {b : Bool} (h : Fv c b) : Elt S (.tup [.int 1, c]) b
theorem tupIn_no {d : D} {kd : Kd} {lo hi : Int} (h : kindOf S d = some kd) (hk : kd ≠ .tup) : tupIn d lo hi = false := by
  cases d with
  | tup => cases h; exact absurd rfl hk
  | mix => cases h; exact absurd rfl hk
  | _ => rfl
theorem isInt_no {d : D} {kd : Kd} (h : kindOf S d = some kd) (hk : kd ≠ .int) : isInt d = false := by
  cases d with
  | int => cases h; exact absurd rfl hk
  | _ => rfl
theorem sortN_inj {kd : Kd} : (sortN kd = 4 → kd = .tup) ∧ (sortN kd = 2 → kd = .int) := by cases kd <;> simp [sortN]
theorem pair_ok {d : D} {b : Bool} (hk : 14 ≤ k) (h : Elt S d b) (q : Q (.bl b) S) : WP (callF FT k c_is_known_pair [d] S) E Q := by
  obtain ⟨k, rfl⟩ : ∃ j, k = j + 1 := ⟨k - 1, by omega⟩
  refine call_wp (fn := e_is_known_pair.fn) rfl rfl ?_
  generalize (fun c x S1 => below S.length x = true ∧ E c x (S1.take S.length) : EE) = E'
  show WX (execs _ b_is_known_pair [some d] S) _ _
  have no : ∀ {kd}, kindOf S d = some kd → tupIn d 2 2 = false → b = false → WX (execs (callF FT k) b_is_known_pair [some d] S) E' fun fl x S1 => match fl with
      | .rt d => WP (fin S.length d S1) E Q
      | .nx => Q .non (S1.take S.length)
      | x => False := fun h1 h2 h3 => by
    unfold b_is_known_pair
    rw [wxs_cons]
    simp [-wxs_cons]
    refine is_tuple_of_ok (by omega) h1 ?_
    rw [h2, tb_f]
    subst h3
    simp
    exact fin_bl q
  cases h with
  | non h hk => exact no h (tupIn_no h hk) rfl
  | @tup ds h =>
    refine no (kd := .tup) rfl ?_ rfl
    show (decide _ && decide _) = false
    by_cases h1 : (2 : Int) ≤ ds.length
    · rw [decide_eq_false (p := (ds.length : Int) ≤ 2) (by omega), Bool.and_false]
    · rw [decide_eq_false h1, Bool.false_and]
  | fst h hk =>
    unfold b_is_known_pair
    rw [wxs_cons]
    simp [-wxs_cons]
    refine is_tuple_of_ok (by omega) (kd := .tup) rfl ?_
    rw [show ∀ a c, tupIn (.tup [a, c]) 2 2 = true from fun _ _ => rfl, tb_t, idx_t0, wo_some]
    refine is_integer_ok (by omega) h ?_
    rw [isInt_no h hk, tb_f]
    simp
    exact fin_bl q
  | big h =>
    unfold b_is_known_pair
    rw [wxs_cons]
    simp [-wxs_cons]
    refine is_tuple_of_ok (by omega) (kd := .tup) rfl ?_
    rw [show ∀ a c, tupIn (.tup [a, c]) 2 2 = true from fun _ _ => rfl, tb_t, idx_t0, wo_some]
    refine is_integer_ok (by omega) (kd := .int) rfl ?_
    rw [show ∀ i, isInt (.int i) = true from fun _ => rfl, tb_t, wxs_cons]
    simp [-wxs_cons]
    rw [idx_t0, wo_some, eq_int, wo_some, decide_eq_false h.1, tb_f, wxs_cons]
    simp
    rw [idx_t0, wo_some, eq_int, wo_some, decide_eq_false h.2, tb_f]
    exact fin_bl q
  | zero =>
    unfold b_is_known_pair
    rw [wxs_cons]
    simp [-wxs_cons]
    refine is_tuple_of_ok (by omega) (kd := .tup) rfl ?_
    rw [show ∀ a c, tupIn (.tup [a, c]) 2 2 = true from fun _ _ => rfl, tb_t, idx_t0, wo_some]
    refine is_integer_ok (by omega) (kd := .int) rfl ?_
    rw [show ∀ i, isInt (.int i) = true from fun _ => rfl, tb_t, wxs_cons]
    simp [-wxs_cons]
    rw [idx_t0, wo_some, eq_int, wo_some, decide_eq_true rfl, tb_t]
    simp
    rw [idx_t1, wo_some]
    refine is_integer_ok (by omega) (kd := .int) rfl ?_
    rw [show ∀ i, isInt (.int i) = true from fun _ => rfl, tb_t, idx_t1, wo_some, eq_int, wo_some]
    exact fin_bl q
  | zerob =>
    unfold b_is_known_pair
    rw [wxs_cons]
    simp [-wxs_cons]
    refine is_tuple_of_ok (by omega) (kd := .tup) rfl ?_
    rw [show ∀ a c, tupIn (.tup [a, c]) 2 2 = true from fun _ _ => rfl, tb_t, idx_t0, wo_some]
    refine is_integer_ok (by omega) (kd := .int) rfl ?_
    rw [show ∀ i, isInt (.int i) = true from fun _ => rfl, tb_t, wxs_cons]
    simp [-wxs_cons]
    rw [idx_t0, wo_some, eq_int, wo_some, decide_eq_true rfl, tb_t]
    simp
    rw [idx_t1, wo_some]
    refine is_integer_ok (by omega) (kd := .bl) rfl ?_
    rw [show ∀ i, isInt (.bl i) = false from fun _ => rfl, tb_f]
    exact fin_bl q
  | one h =>
    unfold b_is_known_pair
    rw [wxs_cons]
    simp [-wxs_cons]
    refine is_tuple_of_ok (by omega) (kd := .tup) rfl ?_
    rw [show ∀ a c, tupIn (.tup [a, c]) 2 2 = true from fun _ _ => rfl, tb_t, idx_t0, wo_some]
    refine is_integer_ok (by omega) (kd := .int) rfl ?_
    rw [show ∀ i, isInt (.int i) = true from fun _ => rfl, tb_t, wxs_cons]
    simp [-wxs_cons]
    rw [idx_t0, wo_some, eq_int, wo_some, decide_eq_false (by decide), tb_f, wxs_cons]
    simp
    rw [idx_t0, wo_some, eq_int, wo_some, decide_eq_true rfl, tb_t, idx_t1, wo_some]
    exact h.1 (by omega) (fin_bl q)
def lkBody : List Ss := match b__law_are_known.getD 1 .pass with
  | .for _ _ _ b => b
  | _ => []
theorem lk_ok {d : D} {b : Bool} {m v : Option D} {Q : Fl → Env → Sto → Prop} (hk : 14 ≤ k) (h : Elt S d b) (q1 : b = true → Q .nx [m, v, some d] S) (q2 : b = false → Q (.rt (.bl false)) [m, v, some d] S) : WX (execs (callF FT k) lkBody [m, v, some d] S) E Q := by
  unfold lkBody b__law_are_known
  simp only [List.getD_cons_succ, List.getD_cons_zero]
  rw [wxs_cons]
  cases h with
  | non h hk =>
    simp [-wxs_cons]
    refine sort_ok (by omega) h ?_
    rw [ne_int, wo_some, decide_eq_false fun e => hk (sortN_inj.1 e)]
    show TB (.bl true) _ _
    rw [tb_t]
    simp
    exact q2 rfl
  | @tup ds h =>
    simp [-wxs_cons]
    refine sort_ok (by omega) (kd := .tup) rfl ?_
    rw [ne_int, wo_some, decide_eq_true (by rfl)]
    show TB (.bl false) _ _
    rw [tb_f, ne_int, wo_some, decide_eq_false (by omega)]
    show TB (.bl true) _ _
    rw [tb_t]
    simp
    exact q2 rfl
  | @fst a c kd h hk =>
    simp [-wxs_cons]
    refine sort_ok (by omega) (kd := .tup) rfl ?_
    rw [ne_int, wo_some, decide_eq_true (by rfl)]
    show TB (.bl false) _ _
    rw [tb_f, ne_int, wo_some, decide_eq_true (by rfl)]
    show TB (.bl false) _ _
    rw [tb_f, idx_t0, wo_some]
    refine sort_ok (by omega) h ?_
    rw [ne_int, wo_some, decide_eq_false fun e => hk (sortN_inj.2 e)]
    show TB (.bl true) _ _
    rw [tb_t]
    simp
    exact q2 rfl
  | @big i c h =>
    simp [-wxs_cons]
    refine sort_ok (by omega) (kd := .tup) rfl ?_
    rw [ne_int, wo_some, decide_eq_true (by rfl)]
    show TB (.bl false) _ _
    rw [tb_f, ne_int, wo_some, decide_eq_true (by rfl)]
    show TB (.bl false) _ _
    rw [tb_f, idx_t0, wo_some]
    refine sort_ok (by omega) (kd := .int) rfl ?_
    rw [ne_int, wo_some, decide_eq_true (by rfl)]
    show TB (.bl false) _ _
    rw [tb_f, idx_t0, wo_some, mkT2 rfl rfl, show cmp .notin (.int i) (.tup [.int 0, .int 1]) S = some (!(decide ((0 : Int) = i) || (decide ((1 : Int) = i) || false))) from rfl, decide_eq_false (fun e => h.1 e.symm), decide_eq_false (fun e => h.2 e.symm), wo_some]
    show TB (.bl true) _ _
    rw [tb_t]
    simp
    exact q2 rfl
  | @zero j =>
    simp [-wxs_cons]
    refine sort_ok (by omega) (kd := .tup) rfl ?_
    rw [ne_int, wo_some, decide_eq_true (by rfl)]
    show TB (.bl false) _ _
    rw [tb_f, ne_int, wo_some, decide_eq_true (by rfl)]
    show TB (.bl false) _ _
    rw [tb_f, idx_t0, wo_some]
    refine sort_ok (by omega) (kd := .int) rfl ?_
    rw [ne_int, wo_some, decide_eq_true (by rfl)]
    show TB (.bl false) _ _
    rw [tb_f, idx_t0, wo_some, mkT2 rfl rfl, show cmp .notin (.int 0) (.tup [.int 0, .int 1]) S = some false from rfl, wo_some, tb_f, wxs_cons]
    simp [-wxs_cons]
    rw [idx_t0, wo_some, eq_int, wo_some, decide_eq_true rfl, tb_t, idx_t1, wo_some]
    refine like_atom (by omega) .int .int rfl ?_
    rw [show PyData.eqv (dP 0 (.int j)) (dP 0 (.int 0)) = decide (j = 0) by simp [dP, PyData.eqv]; rfl]
    refine tb_p (fun h1 => ?_) (fun h1 => ?_)
    · rw [idx_t0, wo_some, eq_int, wo_some, decide_eq_false (by decide), tb_f]
      exact q1 (decide_eq_true h1)
    · simp
      exact q2 (decide_eq_false h1)
  | @zerob x =>
    simp [-wxs_cons]
    refine sort_ok (by omega) (kd := .tup) rfl ?_
    rw [ne_int, wo_some, decide_eq_true (by rfl)]
    show TB (.bl false) _ _
    rw [tb_f, ne_int, wo_some, decide_eq_true (by rfl)]
    show TB (.bl false) _ _
    rw [tb_f, idx_t0, wo_some]
    refine sort_ok (by omega) (kd := .int) rfl ?_
    rw [ne_int, wo_some, decide_eq_true (by rfl)]
    show TB (.bl false) _ _
    rw [tb_f, idx_t0, wo_some, mkT2 rfl rfl, show cmp .notin (.int 0) (.tup [.int 0, .int 1]) S = some false from rfl, wo_some, tb_f, wxs_cons]
    simp [-wxs_cons]
    rw [idx_t0, wo_some, eq_int, wo_some, decide_eq_true rfl, tb_t, idx_t1, wo_some]
    refine like_diff (by omega) (kd := .bl) (ke := .int) rfl rfl (by decide) ?_
    rw [tb_f]
    simp
    exact q2 rfl
  | @one c b h =>
    simp [-wxs_cons]
    refine sort_ok (by omega) (kd := .tup) rfl ?_
    rw [ne_int, wo_some, decide_eq_true (by rfl)]
    show TB (.bl false) _ _
    rw [tb_f, ne_int, wo_some, decide_eq_true (by rfl)]
    show TB (.bl false) _ _
    rw [tb_f, idx_t0, wo_some]
    refine sort_ok (by omega) (kd := .int) rfl ?_
    rw [ne_int, wo_some, decide_eq_true (by rfl)]
    show TB (.bl false) _ _
    rw [tb_f, idx_t0, wo_some, mkT2 rfl rfl, show cmp .notin (.int 1) (.tup [.int 0, .int 1]) S = some false from rfl, wo_some, tb_f, wxs_cons]
    simp [-wxs_cons]
    rw [idx_t0, wo_some, eq_int, wo_some, decide_eq_false (by decide), tb_f, wo_some, eq_int, wo_some, decide_eq_true rfl, tb_t, idx_t1, wo_some]
    refine h.2 (by omega) ?_
    cases b with
    | true =>
      rw [tb_t]
      exact q1 rfl
    | false =>
      rw [tb_f]
      simp
      exact q2 rfl
end
end DE
/-! GK4: are_known against the law's own. -/
namespace DE
open PySem (Str PyData sizeLine)
section
variable {k n p : Nat} {S : Sto} {E : EE} {Q : D → Sto → Prop}
inductive Kv (S : Sto) (m : Nat) : D → Bool → Prop where
  | seq {V : D} {ds : List D} {g : D → Bool} (hv : tupOf V = some ds) (hl : ds.length < 1000) (h : ∀ d ∈ ds, Elt S d (g d)) : Kv S m V (decide (ds.length = m) && ds.all g)
  | no {V : D} {kd : Kd} (h : kindOf S V = some kd) (hk : kd ≠ .tup) : Kv S m V false
theorem tup_facts {V : D} {ds : List D} (h : tupOf V = some ds) : kindOf S V = some .tup ∧ ivOf S V = some (.fix ds) ∧ blt .len [V] S = .ok (.int ds.length) S := by
  cases V <;> first | cases h | skip
  · exact ⟨rfl, rfl, rfl⟩
  · exact ⟨rfl, rfl, rfl⟩
theorem need_program_ok {us : List Fu} (hk : 13 ≤ k) (h : PgJ us) (q : Q .non S) : WP (callF FT k c_need_program [pgD us] S) E Q := by
  obtain ⟨k, rfl⟩ : ∃ j, k = j + 1 := ⟨k - 1, by omega⟩
  refine call_wp (fn := e_need_program.fn) rfl rfl ?_
  generalize (fun c x S1 => below S.length x = true ∧ E c x (S1.take S.length) : EE) = E'
  show WX (execs _ b_need_program [some (pgD us)] S) _ _
  unfold b_need_program
  rw [wxs_cons]
  simp [-wxs_cons]
  refine fits_program_ok (by omega) h ?_
  rw [tb_t]
  simp
  exact q
theorem pg_many {us : List Fu} {u : Fu} : idx (pgD (u :: us)) (.int 0) S = some u.d := idx_t0
theorem fu_ps {u : Fu} : idx u.d (.int 1) S = some (nsD u.ps) := idx_t1
theorem tupIn_mm {V : D} {ds : List D} {m : Nat} (h : tupOf V = some ds) : tupIn V m m = decide (ds.length = m) := by
  unfold tupIn
  rw [h]
  show (decide _ && decide _) = _
  by_cases e : ds.length = m
  · rw [decide_eq_true (by omega), decide_eq_true (by omega), decide_eq_true e]; rfl
  · by_cases e2 : (m : Int) ≤ ds.length
    · rw [decide_eq_false (p := (ds.length : Int) ≤ m) (by omega), decide_eq_false e, Bool.and_false]
    · rw [decide_eq_false e2, decide_eq_false e, Bool.false_and]
theorem fits_known_ok {us : List Fu} {u : Fu} {V : D} {b : Bool} (hk : 16 ≤ k) (h : Kv S u.ps.length V b) (q : Q (.bl b) S) : WP (callF FT k c_fits_known [pgD (u :: us), V] S) E Q := by
  obtain ⟨k, rfl⟩ : ∃ j, k = j + 1 := ⟨k - 1, by omega⟩
  refine call_wp (fn := e_fits_known.fn) rfl rfl ?_
  generalize (fun c x S1 => below S.length x = true ∧ E c x (S1.take S.length) : EE) = E'
  show WX (execs _ b_fits_known [some (pgD (u :: us)), some V, none, none, none] S) _ _
  unfold b_fits_known
  rw [wxs_cons]
  simp [-wxs_cons, pg_many, fu_ps]
  rw [len_ns, wp_ok, wxs_cons]
  simp
  cases h with
  | @seq ds g hv hl h =>
    obtain ⟨f1, f2, f3⟩ := tup_facts (S := S) hv
    refine is_tuple_of_ok (by omega) f1 ?_
    rw [tupIn_mm hv]
    cases hb : decide (ds.length = u.ps.length) with
    | false =>
      rw [hb] at q
      rw [tb_f]
      exact fin_bl q
    | true =>
      rw [hb, Bool.true_and] at q
      rw [tb_t, f2, wo_some]
      refine all_iv (g := g) iv_fix (by omega) (fun d hd => ?_) ?_
      · rw [wp_lcB]
        simp [bindT, wipe]
        exact pair_ok (by omega) (h d hd) ⟨rfl, by simp⟩
      · exact fin_pure rfl (by rw [take_app]; exact q)
  | no h hk =>
    refine is_tuple_of_ok (by omega) h ?_
    rw [tupIn_no h hk, tb_f]
    exact fin_bl q
theorem are_known_ok {us : List Fu} {u : Fu} {V : D} {b : Bool} (hk : 18 ≤ k) (hp : PgJ (u :: us)) (h : Kv S u.ps.length V b) (q : Q (.bl b) S) : WP (callF FT k c_are_known [pgD (u :: us), V] S) E Q := by
  obtain ⟨k, rfl⟩ : ∃ j, k = j + 1 := ⟨k - 1, by omega⟩
  refine call_wp (fn := e_are_known.fn) rfl rfl ?_
  generalize (fun c x S1 => below S.length x = true ∧ E c x (S1.take S.length) : EE) = E'
  show WX (execs _ b_are_known [some (pgD (u :: us)), some V] S) _ _
  unfold b_are_known
  rw [wxs_cons]
  simp [-wxs_cons]
  refine need_program_ok (by omega) hp ?_
  simp
  refine fits_known_ok (by omega) h ?_
  exact fin_bl q
theorem law_known_ok {m : Nat} {V : D} {b : Bool} (hk : 16 ≤ k) (h : Kv S m V b) (q : Q (.bl b) S) : WP (callF FT k c__law_are_known [.int (m : Int), V] S) E Q := by
  obtain ⟨k, rfl⟩ : ∃ j, k = j + 1 := ⟨k - 1, by omega⟩
  refine call_wp (fn := e__law_are_known.fn) rfl rfl ?_
  generalize (fun c x S1 => below S.length x = true ∧ E c x (S1.take S.length) : EE) = E'
  show WX (execs _ b__law_are_known [some (.int (m : Int)), some V, none] S) _ _
  unfold b__law_are_known
  rw [wxs_cons]
  simp [-wxs_cons]
  cases h with
  | @seq ds g hv hl h =>
    obtain ⟨f1, f2, f3⟩ := tup_facts (S := S) hv
    refine sort_ok (by omega) f1 ?_
    rw [ne_int, wo_some, decide_eq_true (by rfl)]
    show TB (.bl false) _ _
    rw [tb_f, f3, wp_ok, ne_int, wo_some]
    cases hb : decide (ds.length = m) with
    | false =>
      have : ds.length ≠ m := of_decide_eq_false hb
      rw [hb] at q
      rw [decide_eq_false (by omega)]
      show TB (.bl true) _ _
      rw [tb_t]
      simp
      exact fin_bl q
    | true =>
      have : ds.length = m := of_decide_eq_true hb
      rw [hb, Bool.true_and] at q
      rw [decide_eq_true (by omega)]
      show TB (.bl false) _ _
      rw [tb_f, wxs_cons]
      simp [-wxs_cons, f2]
      refine for_rule (fun i v S' => i ≤ ds.length ∧ S' = S ∧ (∃ t, v = [some (.int (m : Int)), some V, t]) ∧ (ds.take i).all g = true) ds.length (by unfold fuel; omega) ⟨Nat.zero_le _, rfl, ⟨_, rfl⟩, rfl⟩ fun i v S' ⟨hi, hS, ⟨t, hv2⟩, hg⟩ => ?_
      subst hS hv2
      rw [iv_fix]
      cases hd : ds[i]? with
      | none =>
        have : i = ds.length := by have := List.getElem?_eq_none_iff.mp hd; omega
        subst this
        rw [List.take_length] at hg
        rw [hg] at q
        simp
        exact fin_bl q
      | some d =>
        have hlt := (List.getElem?_eq_some_iff.mp hd).1
        have hm := List.mem_of_getElem? hd
        refine ⟨hlt, ?_⟩
        show WX (execs (callF FT k) lkBody [some (.int (m : Int)), some V, some d] S') _ _
        refine lk_ok (by omega) (h d hm) (fun e => ?_) (fun e => ?_)
        · refine ⟨hlt, ?_, ⟨_, rfl⟩, ?_⟩
          · unfold trim
            split
            · exact List.take_length
            · rfl
          · rw [List.take_add_one, hd, List.all_append, hg]
            simp [e]
        · have : ds.all g = false := by
            rw [List.all_eq_false]
            exact ⟨d, hm, by simp [e]⟩
          rw [this] at q
          simp
          exact fin_bl q
  | no h hk =>
    refine sort_ok (by omega) h ?_
    rw [ne_int, wo_some, decide_eq_false fun e => hk (sortN_inj.1 e)]
    show TB (.bl true) _ _
    rw [tb_t]
    simp
    exact fin_bl q
end
end DE
/-! GK5: values bent. -/
namespace DE
open PySem (Str PyData sizeLine)
section
variable {k n p lo : Nat} {S T : Sto} {E : EE} {Q : D → Sto → Prop}
def kpD : Option Vl → D
  | some v => .tup [.int 1, v.d]
  | none => .tup [.int 0, .int 0]
def KpOk (p : Option Vl) : Prop := ∀ v, p = some v → v.gd
theorem kp_pure {p : Option Vl} : (kpD p).pure = true := by cases p <;> rfl
theorem kps_pure {ps : List (Option Vl)} : (ps.map kpD).all D.pure = true := by
  rw [List.all_eq_true]
  intro d hd
  obtain ⟨p, _, rfl⟩ := List.mem_map.mp hd
  exact kp_pure
theorem kp_elt {p : Option Vl} (h : KpOk p) : Elt S (kpD p) true := by
  cases p with
  | none => exact .zero (j := 0)
  | some v => exact .one (Fv.vl (h v rfl))
def oddL (m : Nat) : List D := [.non, .tup [.int 0, .int 1], .tup [.int 1], .tup [.int 2, .int 0], .tup [.bl true, .int 1], .tup [.bl false, .int 0], .tup [.int 0, .bl false], .tup [.int 1, .bl true], .tup [.int 1, .str ""], .tup [.int 1, .str "A"], .tup [.int 1, .tup [.int 1, .int 2, .int 3]],
  .ref m, .int 0, .tup [.int 0, .int 0, .int 0], .tup [.int 1, .int (10 ^ 60)], .tup [.int 1, .non], .tup [.int 0, .int 0]]
def Od (T : Sto) (lo : Nat) (d : D) : Prop := (d.pure = true ∧ ∃ b, ∀ S, Elt S d b) ∨ ∃ m, lo ≤ m ∧ d = .ref m ∧ T[m]? = some (.lst [.int 0, .int 0])
theorem kp_od {p : Option Vl} (h : KpOk p) : Od T lo (kpD p) := .inl ⟨kp_pure, true, fun _ => kp_elt h⟩
theorem odd_od {m : Nat} (hl : lo ≤ m) (hm : T[m]? = some (.lst [.int 0, .int 0])) {d : D} (hd : d ∈ oddL m) : Od T lo d := by
  unfold oddL at hd
  simp only [List.mem_cons, List.not_mem_nil, or_false] at hd
  rcases hd with rfl | rfl | rfl | rfl | rfl | rfl | rfl | rfl | rfl | rfl | rfl | rfl | rfl | rfl | rfl | rfl | rfl
  · exact .inl ⟨rfl, _, fun S => .non (kd := .non) rfl (by intro h; cases h)⟩
  · exact .inl ⟨rfl, _, fun S => .zero (j := 1)⟩
  · exact .inl ⟨rfl, _, fun S => .tup (by decide)⟩
  · exact .inl ⟨rfl, _, fun S => .big ⟨by decide, by decide⟩⟩
  · exact .inl ⟨rfl, _, fun S => .fst (kd := .bl) rfl (by intro h; cases h)⟩
  · exact .inl ⟨rfl, _, fun S => .fst (kd := .bl) rfl (by intro h; cases h)⟩
  · exact .inl ⟨rfl, _, fun S => .zerob⟩
  · exact .inl ⟨rfl, _, fun S => .one (Fv.bad (Dat.bl (n := 0)) (by decide) (fun _ => rfl) (.inr rfl))⟩
  · exact .inl ⟨rfl, _, fun S => .one (Fv.str (by decide) (by unfold PyData.strOk; rw [← Array.all_toList]; decide) (by decide))⟩
  · exact .inl ⟨rfl, _, fun S => .one (Fv.str (by decide) (by unfold PyData.strOk; rw [← Array.all_toList]; decide) (by decide))⟩
  · exact .inl ⟨rfl, _, fun S => .one (Fv.tup (m := 1) (.tup fun d hd => by
      simp only [List.mem_cons, List.not_mem_nil, or_false] at hd
      rcases hd with rfl | rfl | rfl <;> exact .int) (by decide) (by decide))⟩
  · exact .inr ⟨m, hl, rfl, hm⟩
  · exact .inl ⟨rfl, _, fun S => .non (kd := .int) rfl (by intro h; cases h)⟩
  · exact .inl ⟨rfl, _, fun S => .tup (by decide)⟩
  · exact .inl ⟨rfl, _, fun S => .one (Fv.int (by omega))⟩
  · exact .inl ⟨rfl, _, fun S => .one (Fv.bad (Dat.non (n := 0)) (by decide) (fun _ => rfl) (.inl rfl))⟩
  · exact .inl ⟨rfl, _, fun S => .zero (j := 0)⟩
theorem Od.elt {d : D} (h : Od T lo d) : ∃ b, Elt T d b := by
  rcases h with ⟨_, b, h⟩ | ⟨m, _, rfl, hm⟩
  · exact ⟨b, h T⟩
  · refine ⟨false, .non (kd := .lst) ?_ (by intro h; cases h)⟩
    unfold kindOf
    simp only [hm]
/-- a value that stands near known inputs -/
def Bv (T : Sto) (lo : Nat) (V : D) : Prop := (∃ ds, tupOf V = some ds ∧ V = mkT ds ∧ ds.length < 1000 ∧ ∀ d ∈ ds, Od T lo d) ∨ (∃ m ds, lo ≤ m ∧ V = .ref m ∧ T[m]? = some (.lst ds)) ∨ (V.pure = true ∧ ∃ kd, kd ≠ .tup ∧ ∀ S, kindOf S V = some kd)
theorem elts_of {ds : List D} (h : ∀ d ∈ ds, ∃ b, Elt S d b) : ∃ g : D → Bool, ∀ d ∈ ds, Elt S d (g d) := by
  classical
  refine ⟨fun d => if h : ∃ b, Elt S d b then h.choose else false, fun d hd => ?_⟩
  have h1 := h d hd
  simp only [h1, dif_pos]
  exact h1.choose_spec
theorem Bv.kv {V : D} {m : Nat} (h : Bv T lo V) : ∃ b, Kv T m V b := by
  rcases h with ⟨ds, h1, _, h2, h3⟩ | ⟨q, ds, _, rfl, hm⟩ | ⟨_, kd, hk, h⟩
  · obtain ⟨g, hg⟩ := elts_of fun d hd => (h3 d hd).elt
    exact ⟨_, .seq h1 h2 hg⟩
  · refine ⟨false, .no (kd := .lst) ?_ (by intro h; cases h)⟩
    unfold kindOf
    simp only [hm]
  · exact ⟨false, .no (h T) hk⟩
theorem tupOf_mkT {ds : List D} : tupOf (mkT ds) = some ds := by
  unfold mkT
  split <;> rfl
theorem bin_addA {a b : D} {as bs : List D} (ha : tupOf a = some as) (hb : tupOf b = some bs) (h : as.length + bs.length ≤ sizeLine) : bin .add a b S = .ok (mkT (as ++ bs)) S := by
  have key : (match tupOf a, tupOf b with
    | some ds, some es => (match Nat.ble (ds.length + es.length) sizeLine with
      | true => R.ok (mkT (ds ++ es)) S
      | false => R.no)
    | _, _ => R.no) = R.ok (mkT (as ++ bs)) S := by
    rw [ha, hb]
    simp only [show Nat.ble (as.length + bs.length) sizeLine = true from Nat.ble_eq_true_of_le h]
  cases a <;> first | cases ha | skip
  all_goals (cases b <;> first | exact key | cases hb)
theorem Od.at {d : D} {T' : Sto} (h : Od T lo d) (hs : ∀ m, d = .ref m → lo ≤ m → ∀ o, T[m]? = some o → T'[m]? = some o) : Od T' lo d := by
  rcases h with h | ⟨m, h1, rfl, h2⟩
  · exact .inl h
  · exact .inr ⟨m, h1, rfl, hs m rfl h1 _ h2⟩
/-- what stays where it lies -/
theorem Bv.stay {V : D} {T' : Sto} (h : Bv T lo V) (hs : ∀ m, lo ≤ m → ∀ o, T[m]? = some o → T'[m]? = some o) : Bv T' lo V := by
  rcases h with ⟨ds, h1, h4, h2, h3⟩ | ⟨q, ds, h1, rfl, hm⟩ | h
  · exact .inl ⟨ds, h1, h4, h2, fun d hd => (h3 d hd).at fun m _ hl o ho => hs m hl o ho⟩
  · exact .inr (.inl ⟨q, ds, h1, rfl, hs q h1 _ hm⟩)
  · exact .inr (.inr h)
theorem bel_mem {N : Nat} : ∀ {ds : List D} {d : D}, belows N ds = true → d ∈ ds → below N d = true
  | e :: ds, d, h, hd => by
    obtain ⟨h1, h2⟩ := Bool.and_eq_true_iff.mp (show (below N e && belows N ds) = true from h)
    rcases List.mem_cons.mp hd with rfl | hd
    · exact h1
    · exact bel_mem h2 hd
theorem Bv.cut {V : D} {N : Nat} (h : Bv T lo V) (hb : below N V = true) : Bv (T.take N) lo V := by
  have tk : ∀ m o, m < N → T[m]? = some o → (T.take N)[m]? = some o := fun m o hm ho => by
    rw [List.getElem?_take_of_lt hm]
    exact ho
  rcases h with ⟨ds, h1, h4, h2, h3⟩ | ⟨q, ds, h1, rfl, hm⟩ | h
  · refine .inl ⟨ds, h1, h4, h2, fun d hd => ?_⟩
    refine (h3 d hd).at fun m e _ o ho => tk m o ?_ ho
    subst e
    have : belows N ds = true := by
      rw [h4] at hb
      unfold mkT at hb
      cases hp : ds.all D.pure with
      | true =>
        have := List.all_eq_true.mp hp _ hd
        cases this
      | false => rw [hp] at hb; exact hb
    exact Nat.le_of_ble_eq_true (bel_mem this hd)
  · exact .inr (.inl ⟨q, ds, h1, rfl, tk q _ (Nat.le_of_ble_eq_true hb) hm⟩)
  · exact .inr (.inr h)
end
end DE
/-! GK6: known inputs bent. -/
namespace DE
open PySem (Str PyData sizeLine)
section
variable {k n p lo : Nat} {S T : Sto} {E : EE} {Q : D → Sto → Prop}
theorem kp_dat {p : Option Vl} (h : KpOk p) : Dat 20 (kpD p) := by
  cases p with
  | none =>
    refine .tup fun d hd => ?_
    simp only [List.mem_cons, List.not_mem_nil, or_false] at hd
    rcases hd with rfl | rfl <;> exact .int
  | some v =>
    obtain ⟨h1, h2, h3⟩ := h v rfl
    refine .tup fun d hd => ?_
    simp only [List.mem_cons, List.not_mem_nil, or_false] at hd
    rcases hd with rfl | rfl
    · exact .int
    · exact (Vl.dat h1).mono (by omega)
/-- the store behind a draw: the cup gone on, more behind -/
def Ct (n : Nat) (S T : Sto) : Prop := ∃ S1 L, T = S1 ++ L ∧ CupTo n S S1
theorem Ct.of (c : CupTo n S T) : Ct n S T := ⟨T, [], by simp, c⟩
theorem slc_to {ds : List D} {i : Int} (h : 0 ≤ i) (hp : ds.all D.pure = true) : slc (.tup ds) .non (.int i) S = .ok (.tup (ds.take i.toNat)) S := by
  rw [slc_take h, mkT_pure]
  rw [List.all_eq_true] at hp ⊢
  exact fun d hd => hp d (List.mem_of_mem_take hd)
theorem slc_from {ds : List D} {i : Int} (h : 0 ≤ i) (hp : ds.all D.pure = true) : slc (.tup ds) (.int i) .non S = .ok (.tup (ds.drop i.toNat)) S := by
  rw [slc_drop h, mkT_pure]
  rw [List.all_eq_true] at hp ⊢
  exact fun d hd => hp d (List.mem_of_mem_drop hd)
theorem fin_bv {V : D} {S1 L : Sto} {E : EE} (c : CupTo n S S1) (hV : Bv (S1 ++ L) S.length V) (q : ∀ V T, Ct n S T → Bv T S.length V → Q V T) : WP (fin S.length V (S1 ++ L)) E Q := by
  have tk : (S1 ++ L).take S.length = S1 := c.takeA
  unfold fin
  cases hb : below S.length V with
  | true =>
    have := hV.cut hb
    rw [tk] at this ⊢
    exact q V S1 (Ct.of c) this
  | false =>
    have stay : WP (.ok V (S1 ++ L)) E Q := q V _ ⟨S1, L, rfl, c⟩ hV
    cases V with
    | ref m =>
      cases hm : (S1 ++ L)[m]? with
      | none => simp only [hm]; exact stay
      | some o =>
        cases o with
        | lst ds =>
          simp only [hm]
          cases belows S.length ds with
          | true =>
            rw [tk]
            exact q _ _ ⟨S1, [.lst ds], rfl, c⟩ (.inr (.inl ⟨S.length, ds, Nat.le_refl _, rfl, by rw [← c.len]; simp⟩))
          | false => exact stay
        | _ => simp only [hm]; exact stay
    | _ => exact stay
theorem bent_ok {ps : List (Option Vl)} (h : HasCup n S) (hk : 6 ≤ k) (hp : ∀ p ∈ ps, KpOk p) (hl : ps.length ≤ 8) (q : ∀ V T, Ct n S T → Bv T S.length V → Q V T) : WP (callF FT k c__law_bent [.ref n, .tup (ps.map kpD)] S) E Q := by
  obtain ⟨k, rfl⟩ : ∃ j, k = j + 1 := ⟨k - 1, by omega⟩
  refine call_wp (fn := e__law_bent.fn) rfl rfl ?_
  generalize (fun c x S1 => below S.length x = true ∧ E c x (S1.take S.length) : EE) = E'
  show WX (execs _ b__law_bent [some (.ref n), some (.tup (ps.map kpD)), none, none] S) _ _
  have hn := h.lt
  unfold b__law_bent
  rw [wxs_cons]
  simp [-wxs_cons, pow60]
  have ol : [D.non, mkT [D.int 0, D.int 1], mkT [D.int 1], mkT [D.int 2, D.int 0], mkT [D.bl true, D.int 1], mkT [D.bl false, D.int 0], mkT [D.int 0, D.bl false], mkT [D.int 1, D.bl true], mkT [D.int 1, D.str (Str.ofString "")], mkT [D.int 1, D.str (Str.ofString "A")],
    mkT [D.int 1, mkT [D.int 1, D.int 2, D.int 3]], D.ref S.length, D.int 0, mkT [D.int 0, D.int 0, D.int 0], mkT [D.int 1, D.int (10 ^ 60)], mkT [D.int 1, D.non], mkT [D.int 0, D.int 0]] = oddL S.length := rfl
  show WP (callF FT k c__law_some [.ref n, .ref (S.length + 1)] (S ++ [O.lst [D.int 0, D.int 0], O.lst (oddL S.length)])) _ _
  clear ol
  have s0 : S ++ [O.lst [D.int 0, D.int 0], O.lst (oddL S.length)] = (S ++ [O.lst [D.int 0, D.int 0]]) ++ [O.lst (oddL S.length)] := by simp
  rw [s0, show S.length + 1 = (S ++ [O.lst [D.int 0, D.int 0]]).length by simp]
  refine some_new h.app (by omega) (by show 0 < 17; decide) (by show 17 < _; decide) (belows_of fun d hd => ?_) fun odd S1 hd c1 => ?_
  · rcases odd_od (T := S ++ [O.lst [D.int 0, D.int 0]]) (lo := 0) (Nat.zero_le _) (by simp) hd with h | ⟨m, _, rfl, hm⟩
    · exact below_pure h.1
    · exact Nat.ble_eq_true_of_le (List.getElem?_eq_some_iff.mp hm).1
  obtain ⟨S2, rfl, c2⟩ := c1.app hn
  have l2 := c2.len
  have od : Od (S2 ++ [O.lst [D.int 0, D.int 0]]) S.length odd := odd_od (Nat.le_refl _) (by rw [← l2]; simp) hd
  have hn2 := h.lt
  have kpp := kps_pure (ps := ps)
  rw [wxs_cons]
  simp [-wxs_cons, -List.append_assoc]
  rw [eq_dat (n := 21) (m := 1) (.tup fun d hd => by
    obtain ⟨p, h1, rfl⟩ := List.mem_map.mp hd
    exact kp_dat (hp p h1)) (.tup (n := 0) fun _ h => by cases h) (by decide) (by decide) (by decide), wo_some]
  have ev : PyData.eqv (dP 21 (.tup (ps.map kpD))) (dP 1 (.tup [])) = ps.isEmpty := by
    cases ps <;> simp [dP, PyData.eqv, PyData.eqvAll]
  rw [ev]
  cases hps : ps.isEmpty with
  | true =>
    rw [tb_t]
    simp [-List.append_assoc]
    rw [List.append_assoc]
    refine fin_bv c2 (.inl ⟨[odd], tupOf_mkT, rfl, by simp, fun d hd => ?_⟩) q
    rw [List.mem_singleton.mp hd]
    refine od.at fun m _ _ o ho => ?_
    rw [← List.append_assoc, List.getElem?_append_left (List.getElem?_eq_some_iff.mp ho).1]
    exact ho
  | false =>
    have hlen : 1 ≤ ps.length := by
      cases ps with
      | nil => cases hps
      | cons p ps => simp
    rw [tb_f, wxs_cons]
    simp [-wxs_cons, -List.append_assoc]
    refine roll_ok (c2.has h).app.app (by omega) (by omega) (by omega) fun r T3 r0 r1 c3 => ?_
    rw [List.append_assoc] at c3
    obtain ⟨S3, rfl, c4⟩ := c3.app (by rw [l2]; exact hn)
    have c3' := c2.trans c4
    have l3 := c3'.len
    have od3 : ∀ L, Od (S3 ++ ([O.lst [D.int 0, D.int 0]] ++ L)) S.length odd := fun L => odd_od (Nat.le_refl _) (by rw [← l3]; simp) hd
    have kpo : ∀ T, ∀ d ∈ ps.map kpD, Od T S.length d := fun T d hd => by
      obtain ⟨p, h1, rfl⟩ := List.mem_map.mp hd
      exact kp_od (hp p h1)
    have tk1 : ((ps.map kpD).take r.toNat).length ≤ 8 := by rw [List.length_take, List.length_map]; omega
    have dr1 : ((ps.map kpD).drop (r + 1).toNat).length ≤ 8 := by rw [List.length_drop, List.length_map]; omega
    have tkp : ((ps.map kpD).take r.toNat).all D.pure = true := by
      rw [List.all_eq_true] at kpp ⊢
      exact fun d hd => kpp d (List.mem_of_mem_take hd)
    have drp : ((ps.map kpD).drop (r + 1).toNat).all D.pure = true := by
      rw [List.all_eq_true] at kpp ⊢
      exact fun d hd => kpp d (List.mem_of_mem_drop hd)
    simp [-wxs_cons, -List.append_assoc]
    rw [wxs_cons]
    simp [-List.append_assoc, intOf, bin_add]
    rw [slc_to r0 kpp, wp_ok]
    have szl2 : ∀ m : Nat, m ≤ 1000 → m ≤ sizeLine := fun m hm => by rw [szl]; omega
    generalize hA : (ps.map kpD).take r.toNat = A at tk1 tkp ⊢
    generalize hD : (ps.map kpD).drop (r + 1).toNat = Dr at dr1 drp
    have mA : ∀ d ∈ A, d ∈ ps.map kpD := fun d hd => by rw [← hA] at hd; exact List.mem_of_mem_take hd
    have mD : ∀ d ∈ Dr, d ∈ ps.map kpD := fun d hd => by rw [← hD] at hd; exact List.mem_of_mem_drop hd
    have pl : (ps.map kpD).length ≤ 8 := by rw [List.length_map]; exact hl
    rw [bin_addA (as := A) (bs := [odd]) rfl tupOf_mkT (szl2 _ (by rw [List.length_singleton]; omega)), wp_ok, slc_from (by omega) kpp, wp_ok, hD,
      bin_addA (as := A ++ [odd]) (bs := Dr) tupOf_mkT rfl (szl2 _ (by rw [List.length_append, List.length_singleton]; omega)), wp_ok, slc_to r0 kpp, wp_ok, hA, slc_from (by omega) kpp, wp_ok, hD,
      bin_addA (as := A) (bs := Dr) rfl rfl (szl2 _ (by omega)), wp_ok, bin_addA (as := ps.map kpD) (bs := [odd]) rfl tupOf_mkT (szl2 _ (by rw [List.length_singleton]; omega)), wp_ok]
    generalize hks : ps.map kpD = ks at kpo mA mD pl kpp
    rw [show blt .list [.tup ks] (S3 ++ [O.lst [D.int 0, D.int 0], O.lst (oddL S.length)]) = newL ks (S3 ++ [O.lst [D.int 0, D.int 0], O.lst (oddL S.length)]) from rfl, wp_newL]
    refine ⟨szl2 _ (by omega), ?_⟩
    have s1 : (S3 ++ [O.lst [D.int 0, D.int 0], O.lst (oddL S.length)] ++ [O.lst ks]).length = S.length + 3 := by simp [l3]
    rw [s1, show (S3 ++ [O.lst [D.int 0, D.int 0], O.lst (oddL S.length)]).length = S.length + 2 by simp [l3]]
    generalize hF : [mkT (A ++ [odd] ++ Dr), mkT (A ++ Dr), mkT (ks ++ [odd]), D.ref (S.length + 2)] = four
    have s2 : S3 ++ [O.lst [D.int 0, D.int 0], O.lst (oddL S.length)] ++ [O.lst ks] ++ [O.lst four] ++ [O.lst [D.int 0, D.int 0, D.int 0, D.int 1, D.int 2, D.int 3]] = (S3 ++ [O.lst [D.int 0, D.int 0], O.lst (oddL S.length), O.lst ks, O.lst four]) ++ [O.lst [D.int 0, D.int 0, D.int 0, D.int 1, D.int 2, D.int 3]] := by simp
    rw [s2, show S.length + 3 + 1 = (S3 ++ [O.lst [D.int 0, D.int 0], O.lst (oddL S.length), O.lst ks, O.lst four]).length by simp [l3]]
    refine some_new (c3'.has h).app (by omega) (by simp) (by simp) (belows_pure rfl) fun x S4 hx c5 => ?_
    obtain ⟨S5, rfl, c6⟩ := c5.app (by rw [l3]; exact hn)
    have c7 := c3'.trans c6
    have l5 := c7.len
    have g4 : (S5 ++ [O.lst [D.int 0, D.int 0], O.lst (oddL S.length), O.lst ks, O.lst four] ++ [O.lst [D.int 0, D.int 0, D.int 0, D.int 1, D.int 2, D.int 3]])[S.length + 3]? = some (.lst four) := by
      rw [List.append_assoc, List.getElem?_append_right (by omega), l5, Nat.add_sub_cancel_left]
      rfl
    have ix : ∀ j : Nat, j < 4 → idx (.ref (S.length + 3)) (.int (j : Int)) (S5 ++ [O.lst [D.int 0, D.int 0], O.lst (oddL S.length), O.lst ks, O.lst four] ++ [O.lst [D.int 0, D.int 0, D.int 0, D.int 1, D.int 2, D.int 3]]) = four[j]? := fun j hj => by
      unfold idx
      simp only [g4]
      rw [ixN_nn (by omega) (by rw [← hF]; simp; omega)]
      rfl
    have odT : Od (S5 ++ ([O.lst [D.int 0, D.int 0], O.lst (oddL S.length), O.lst ks, O.lst four] ++ [O.lst [D.int 0, D.int 0, D.int 0, D.int 1, D.int 2, D.int 3]])) S.length odd := odd_od (Nat.le_refl _) (by rw [← l5]; simp) hd
    have last : ∀ V, Bv (S5 ++ ([O.lst [D.int 0, D.int 0], O.lst (oddL S.length), O.lst ks, O.lst four] ++ [O.lst [D.int 0, D.int 0, D.int 0, D.int 1, D.int 2, D.int 3]])) S.length V → WO (some V) fun d => WP (fin S.length d (S5 ++ [O.lst [D.int 0, D.int 0], O.lst (oddL S.length), O.lst ks, O.lst four] ++ [O.lst [D.int 0, D.int 0, D.int 0, D.int 1, D.int 2, D.int 3]])) E Q := fun V hV => by
      rw [wo_some, List.append_assoc]
      exact fin_bv c7 hV q
    have f0 : four[0]? = some (mkT (A ++ [odd] ++ Dr)) := by rw [← hF]; rfl
    have f1 : four[1]? = some (mkT (A ++ Dr)) := by rw [← hF]; rfl
    have f2 : four[2]? = some (mkT (ks ++ [odd])) := by rw [← hF]; rfl
    have f3 : four[3]? = some (.ref (S.length + 2)) := by rw [← hF]; rfl
    simp only [List.mem_cons, List.not_mem_nil, or_false] at hx
    have c0 : x = .int ((0 : Nat) : Int) ∨ x = .int ((1 : Nat) : Int) ∨ x = .int ((2 : Nat) : Int) ∨ x = .int ((3 : Nat) : Int) := by
      rcases hx with h | h | h | h | h | h
      · exact .inl h
      · exact .inl h
      · exact .inl h
      · exact .inr (.inl h)
      · exact .inr (.inr (.inl h))
      · exact .inr (.inr (.inr h))
    rcases c0 with rfl | rfl | rfl | rfl
    · rw [ix 0 (by decide), f0]
      refine last _ (.inl ⟨_, tupOf_mkT, rfl, by simp; omega, fun d hd => ?_⟩)
      simp only [List.mem_append, List.mem_singleton] at hd
      rcases hd with (hd | rfl) | hd
      · exact kpo _ d (mA d hd)
      · exact odT
      · exact kpo _ d (mD d hd)
    · rw [ix 1 (by decide), f1]
      refine last _ (.inl ⟨_, tupOf_mkT, rfl, by simp; omega, fun d hd => ?_⟩)
      rcases List.mem_append.mp hd with hd | hd
      · exact kpo _ d (mA d hd)
      · exact kpo _ d (mD d hd)
    · rw [ix 2 (by decide), f2]
      refine last _ (.inl ⟨_, tupOf_mkT, rfl, by simp; omega, fun d hd => ?_⟩)
      rcases List.mem_append.mp hd with hd | hd
      · exact kpo _ d hd
      · rw [List.mem_singleton.mp hd]; exact odT
    · rw [ix 3 (by decide), f3]
      refine last _ (.inr (.inl ⟨S.length + 2, ks, by omega, rfl, ?_⟩))
      rw [List.getElem?_append_right (by omega), l5, Nat.add_sub_cancel_left]
      rfl
end
end DE
/-! GK7: known inputs told, left, filled in. -/
namespace DE
open PySem (Str PyData sizeLine)
section
variable {k n p lo : Nat} {S T : Sto} {E : EE} {Q : D → Sto → Prop}
theorem lc_fltF {α : Type} {body : D → Sto → R (Option D)} {iv : IV} {xs : List α} {h f : α → D} {g : α → Bool} {E' : EE} {Q : List D → Sto → Prop} (hiv : ∀ i, ivGet S i iv = some (xs.map h)[i]?) (hl : xs.length < 100000)
    (hb : ∀ x ∈ xs, WP (body (h x) S) (fun _ _ _ => False) fun o S1 => o = (if g x = true then some (f x) else none) ∧ below S.length (f x) = true ∧ S1.take S.length = S) (q : Q ((xs.filter g).map f) S) : WP (lcGo body iv fuel 0 [] S) E' Q := by
  refine lc_rule (fun i acc S' => i ≤ xs.length ∧ S' = S ∧ acc = ((xs.take i).filter g).map f) xs.length (by unfold fuel; omega) ⟨Nat.zero_le _, rfl, rfl⟩ fun i acc S' ⟨hi, hS, ha⟩ => ?_
  subst hS
  rw [hiv, List.getElem?_map]
  cases hd : xs[i]? with
  | none =>
    have : i = xs.length := by have := List.getElem?_eq_none_iff.mp hd; omega
    subst this
    rw [List.take_length] at ha
    show Q acc _
    rw [ha]
    exact q
  | some d =>
    have hlt := (List.getElem?_eq_some_iff.mp hd).1
    refine ⟨hlt, _, hb d (List.mem_of_getElem? hd), fun e S1 ⟨h1, h2, h3⟩ => ?_, fun S1 ⟨h1, h2, h3⟩ => ?_⟩
    · cases hg : g d with
      | false => rw [hg] at h1; cases h1
      | true =>
        rw [hg] at h1
        cases h1
        rw [h2]
        refine ⟨hlt, h3, ?_⟩
        rw [ha, List.take_add_one, hd]
        simp [hg]
    · cases hg : g d with
      | true => rw [hg] at h1; cases h1
      | false =>
        refine ⟨hlt, h3, ?_⟩
        rw [ha, List.take_add_one, hd]
        simp [hg]
theorem kp_eq {p : Option Vl} (h : KpOk p) : cmp .eq (kpD p) (.tup [.int 0, .int 0]) S = some p.isNone := by
  rw [eq_dat (kp_dat h) (m := 1) (.tup fun d hd => by
    simp only [List.mem_cons, List.not_mem_nil, or_false] at hd
    rcases hd with rfl | rfl <;> exact .int) (by decide) (by decide) (by decide)]
  cases p <;> simp [kpD, dP, PyData.eqv, PyData.eqvAll]
def PsOk (ps : List (Option Vl)) : Prop := (∀ p ∈ ps, KpOk p) ∧ ps.length ≤ 8
def psD (ps : List (Option Vl)) : D := .tup (ps.map kpD)
def vsD (vs : List Vl) : D := .tup (vs.map Vl.d)
theorem need_pairs_ok {ps : List (Option Vl)} (hk : 16 ≤ k) (h : PsOk ps) (q : Q .non S) : WP (callF FT k c_need_pairs [psD ps] S) E Q := by
  obtain ⟨k, rfl⟩ : ∃ j, k = j + 1 := ⟨k - 1, by omega⟩
  obtain ⟨h1, h2⟩ := h
  refine call_wp (fn := e_need_pairs.fn) rfl rfl ?_
  generalize (fun c x S1 => below S.length x = true ∧ E c x (S1.take S.length) : EE) = E'
  show WX (execs _ b_need_pairs [some (psD ps), none, none] S) _ _
  unfold b_need_pairs
  rw [wxs_cons]
  simp [-wxs_cons]
  refine is_tuple_of_ok (by omega) (kd := .tup) rfl ?_
  rw [show tupIn (psD ps) 0 8 = true by
    unfold tupIn psD
    simp only [tupOf, List.length_map]
    rw [decide_eq_true (by omega), decide_eq_true (by omega)]
    rfl, tb_t, show ivOf S (psD ps) = some (.fix (ps.map kpD)) from rfl, wo_some]
  refine all_iv (g := fun _ => true) iv_fix (by rw [List.length_map]; omega) (fun d hd => ?_) ?_
  · obtain ⟨p, hp, rfl⟩ := List.mem_map.mp hd
    rw [wp_lcB]
    simp [bindT, wipe]
    exact pair_ok (by omega) (kp_elt (h1 p hp)) ⟨rfl, by simp⟩
  · rw [show (ps.map kpD).all (fun _ => true) = true by simp, tb_t]
    simp
    exact q
def oneD (p : Option Vl) : D := .int (if p.isSome then 1 else 0)
theorem kp_0 {p : Option Vl} : idx (kpD p) (.int 0) S = some (oneD p) := by cases p <;> exact idx_t0
theorem which_ok {ps : List (Option Vl)} (hk : 18 ≤ k) (h : PsOk ps) (q : Q (.tup (ps.map oneD)) S) : WP (callF FT k c_which_known [psD ps] S) E Q := by
  obtain ⟨k, rfl⟩ : ∃ j, k = j + 1 := ⟨k - 1, by omega⟩
  refine call_wp (fn := e_which_known.fn) rfl rfl ?_
  generalize (fun c x S1 => below S.length x = true ∧ E c x (S1.take S.length) : EE) = E'
  show WX (execs _ b_which_known [some (psD ps), none, none] S) _ _
  have h2 := h.2
  unfold b_which_known
  rw [wxs_cons]
  simp [-wxs_cons]
  refine need_pairs_ok (by omega) h ?_
  simp [show ivOf S (psD ps) = some (.fix (ps.map kpD)) from rfl]
  refine lc_mapF (h := kpD) (f := oneD) iv_fix (by omega) (fun p hp => ?_) ?_
  · rw [wp_lcB]
    simp [bindT, wipe, kp_0]
    exact rfl
  · refine ⟨by rw [List.length_map]; omega, ?_⟩
    have pp : (ps.map oneD).all D.pure = true := by
      rw [List.all_eq_true]
      intro d hd
      obtain ⟨p, _, rfl⟩ := List.mem_map.mp hd
      rfl
    rw [blt_tuple_l (ds := ps.map oneD) (by simp), wp_ok, mkT_pure pp]
    exact fin_pure rfl (by simpa using q)
/-! ### what is left -/
def lefts (ps : List (Option Vl)) (vs : List Vl) : List Vl := ((ps.zip vs).filter fun pv => pv.1.isNone).map (·.2)
def pvD (pv : Option Vl × Vl) : D := .tup [kpD pv.1, pv.2.d]
theorem iv_pv {ps : List (Option Vl)} {vs : List Vl} : ∀ i, ivGet S i (.zip (.fix (ps.map kpD)) (.fix (vs.map Vl.d))) = some ((ps.zip vs).map pvD)[i]? := fun i => by
  unfold ivGet
  show (match some ((ps.map kpD)[i]?), some ((vs.map Vl.d)[i]?) with
    | some (some x), some (some y) => some (some (mkT [x, y]))
    | some _, some _ => some none
    | _, _ => none) = _
  rw [List.getElem?_map, List.getElem?_map, List.getElem?_map]
  show _ = some (((List.zipWith Prod.mk ps vs)[i]?).map pvD)
  rw [List.getElem?_zipWith]
  cases ps[i]? with
  | none => cases vs[i]? <;> rfl
  | some p =>
    cases vs[i]? with
    | none => rfl
    | some v =>
      show some (some (mkT [kpD p, v.d])) = some (some (pvD (p, v)))
      rw [mkT2 kp_pure v.pure]
      rfl
theorem vs_pure {vs : List Vl} : (vs.map Vl.d).all D.pure = true := by
  rw [List.all_eq_true]
  intro d hd
  obtain ⟨v, _, rfl⟩ := List.mem_map.mp hd
  exact v.pure
theorem lefts_core {ps : List (Option Vl)} {vs : List Vl} {body : D → Sto → R (Option D)} {E' : EE} {Q : List D → Sto → Prop} (hl : ps.length ≤ 8)
    (hb : ∀ p v, p ∈ ps → WP (body (pvD (p, v)) S) (fun _ _ _ => False) fun o S1 => o = (if p.isNone = true then some v.d else none) ∧ S1 = S) (q : Q ((lefts ps vs).map Vl.d) S) : WP (lcGo body (.zip (.fix (ps.map kpD)) (.fix (vs.map Vl.d))) fuel 0 [] S) E' Q := by
  refine lc_fltF (h := pvD) (f := fun pv => pv.2.d) (g := fun pv => pv.1.isNone) iv_pv (by rw [List.length_zip]; omega) (fun pv hpv => ?_) ?_
  · refine WP.mono (hb pv.1 pv.2 (List.of_mem_zip hpv).1) fun o S1 h => ⟨h.1, below_pure pv.2.pure, by rw [h.2, List.take_length]⟩
  · rw [show ((ps.zip vs).filter fun pv => pv.1.isNone).map (fun pv => pv.2.d) = (lefts ps vs).map Vl.d by unfold lefts; rw [List.map_map]; rfl]
    exact q
theorem zip_pv {ps : List (Option Vl)} {vs : List Vl} : zipOf S (psD ps) (vsD vs) = some (.zip (.fix (ps.map kpD)) (.fix (vs.map Vl.d))) := rfl
theorem lefts_len {ps : List (Option Vl)} {vs : List Vl} : (lefts ps vs).length ≤ ps.length := by
  unfold lefts
  rw [List.length_map]
  have := List.length_filter_le (fun pv : Option Vl × Vl => pv.1.isNone) (ps.zip vs)
  rw [List.length_zip] at this
  omega
theorem left_ok {ps : List (Option Vl)} {vs : List Vl} (hk : 18 ≤ k) (h : PsOk ps) (hl : vs.length = ps.length) (hv : ∀ v ∈ vs, v.gd) (q : Q (vsD (lefts ps vs)) S) : WP (callF FT k c_left_inputs [psD ps, vsD vs] S) E Q := by
  obtain ⟨k, rfl⟩ : ∃ j, k = j + 1 := ⟨k - 1, by omega⟩
  refine call_wp (fn := e_left_inputs.fn) rfl rfl ?_
  generalize (fun c x S1 => below S.length x = true ∧ E c x (S1.take S.length) : EE) = E'
  show WX (execs _ b_left_inputs [some (psD ps), some (vsD vs), none, none, none] S) _ _
  have h2 := h.2
  unfold b_left_inputs
  rw [wxs_cons]
  simp [-wxs_cons]
  refine need_pairs_ok (by omega) h ?_
  rw [wxs_cons]
  simp [-wxs_cons]
  rw [show blt .len [psD ps] S = .ok (.int ((ps.map kpD).length : Int)) S from rfl, wp_ok]
  rw [show blt .len [psD ps] S = .ok (.int ((ps.map kpD).length : Int)) S from rfl, wp_ok]
  refine are_values_ok (by omega) (by omega) (fun v hv2 => by have := hv v hv2; exact ⟨this.1, by have := this.2.1; omega, by have := this.2.2; omega⟩) ?_
  rw [List.length_map, decide_eq_true (by omega), decide_eq_true (by omega)]
  show TB (.bl true) _ _
  rw [tb_t]
  simp [zip_pv]
  refine lefts_core h2 (fun p v hp => ?_) ?_
  · rw [wp_lcB]
    simp [bindT, wipe, pvD, setMany, tupOf]
    rw [kp_eq (h.1 p hp), wo_some]
    cases p <;> simp [boolOf]
  · have := lefts_len (ps := ps) (vs := vs)
    refine ⟨by rw [List.length_map]; omega, ?_⟩
    rw [blt_tuple_l (ds := (lefts ps vs).map Vl.d) (by simp), wp_ok, mkT_pure vs_pure]
    exact fin_pure rfl (by simpa [vsD] using q)
theorem law_left_ok {ps : List (Option Vl)} {vs : List Vl} (hk : 2 ≤ k) (h : PsOk ps) (q : Q (vsD (lefts ps vs)) S) : WP (callF FT k c__law_left [psD ps, vsD vs] S) E Q := by
  obtain ⟨k, rfl⟩ : ∃ j, k = j + 1 := ⟨k - 1, by omega⟩
  refine call_wp (fn := e__law_left.fn) rfl rfl ?_
  generalize (fun c x S1 => below S.length x = true ∧ E c x (S1.take S.length) : EE) = E'
  show WX (execs _ b__law_left [some (psD ps), some (vsD vs), none, none, none] S) _ _
  have h2 := h.2
  unfold b__law_left
  rw [wxs_cons]
  simp [zip_pv]
  refine lefts_core h2 (fun p v hp => ?_) ?_
  · rw [wp_lcB]
    simp [bindT, wipe, pvD, setMany, tupOf]
    rw [mkT2 rfl rfl, kp_eq (h.1 p hp), wo_some]
    cases p <;> simp [boolOf]
  · have := lefts_len (ps := ps) (vs := vs)
    refine ⟨by rw [List.length_map]; omega, ?_⟩
    rw [blt_tuple_l (ds := (lefts ps vs).map Vl.d) (by simp), wp_ok, mkT_pure vs_pure]
    exact fin_pure rfl (by simpa [vsD] using q)
end
end DE
/-! GK8: inputs filled in; drawn. -/
namespace DE
open PySem (Str PyData sizeLine)
section
variable {k n p lo : Nat} {S T : Sto} {E : EE} {Q : D → Sto → Prop}
def nOpen (ps : List (Option Vl)) : Nat := (ps.filter fun p => p.isNone).length
def fills : List (Option Vl) → List Vl → List Vl
  | [], _ => []
  | some v :: ps, ls => v :: fills ps ls
  | none :: ps, l :: ls => l :: fills ps ls
  | none :: ps, [] => fills ps []
def mixB : List (Option Vl) → List Vl → List Vl
  | p :: ps, v :: vs => p.getD v :: mixB ps vs
  | _, _ => []
theorem lefts_n : ∀ {ps : List (Option Vl)} {vs : List Vl}, vs.length = ps.length → (lefts ps vs).length = nOpen ps
  | [], [], _ => rfl
  | p :: ps, v :: vs, h => by
    have ih := lefts_n (ps := ps) (vs := vs) (by simpa using h)
    unfold lefts nOpen at ih ⊢
    cases p with
    | none => simpa using ih
    | some w => simpa using ih
theorem fills_len : ∀ {ps : List (Option Vl)} {ls : List Vl}, (fills ps ls).length ≤ ps.length
  | [], ls => by simp [fills]
  | some v :: ps, ls => by
    simp only [fills, List.length_cons]
    have := fills_len (ps := ps) (ls := ls)
    omega
  | none :: ps, l :: ls => by
    simp only [fills, List.length_cons]
    have := fills_len (ps := ps) (ls := ls)
    omega
  | none :: ps, [] => by
    simp only [fills, List.length_cons]
    have := fills_len (ps := ps) (ls := [])
    omega
theorem fills_lefts : ∀ {ps : List (Option Vl)} {vs : List Vl}, vs.length = ps.length → fills ps (lefts ps vs) = mixB ps vs
  | [], [], _ => rfl
  | p :: ps, v :: vs, h => by
    have ih := fills_lefts (ps := ps) (vs := vs) (by simpa using h)
    cases p with
    | none =>
      show fills (none :: ps) (v :: lefts ps vs) = v :: mixB ps vs
      rw [← ih]
      rfl
    | some w =>
      show fills (some w :: ps) (lefts ps vs) = w :: mixB ps vs
      rw [← ih]
      rfl
theorem kp_1 {v : Vl} : idx (kpD (some v)) (.int 1) S = some v.d := idx_t1
theorem allin_ok {ps : List (Option Vl)} {ls : List Vl} (hk : 18 ≤ k) (h : PsOk ps) (hl : ls.length = nOpen ps) (hv : ∀ v ∈ ls, v.gd) (q : Q (vsD (fills ps ls)) S) : WP (callF FT k c_all_inputs [psD ps, vsD ls] S) E Q := by
  obtain ⟨k, rfl⟩ : ∃ j, k = j + 1 := ⟨k - 1, by omega⟩
  refine call_wp (fn := e_all_inputs.fn) rfl rfl ?_
  generalize (fun c x S1 => below S.length x = true ∧ E c x (S1.take S.length) : EE) = E'
  show WX (execs _ b_all_inputs [some (psD ps), some (vsD ls), none, none, none, none] S) _ _
  have h2 := h.2
  have no : nOpen ps ≤ ps.length := List.length_filter_le _ _
  have iv1 : ∀ S, ivOf S (psD ps) = some (.fix (ps.map kpD)) := fun _ => rfl
  unfold b_all_inputs
  rw [wxs_cons]
  simp [-wxs_cons]
  refine need_pairs_ok (by omega) h ?_
  rw [wxs_cons]
  simp [-wxs_cons, iv1]
  refine lc_fltF (h := kpD) (f := fun _ => .int 1) (g := fun p => p.isNone) iv_fix (by omega) (fun p hp => ?_) ?_
  · rw [wp_lcB]
    simp [bindT, wipe]
    rw [kp_eq (h.1 p hp), wo_some]
    cases p <;> simp [boolOf]
  generalize hones : (ps.filter fun p => p.isNone).map (fun _ => D.int 1) = ones
  have ol : ones.length = nOpen ps := by rw [← hones, List.length_map]; rfl
  refine ⟨by omega, ?_⟩
  rw [blt_len_l (ds := ones) (by simp), wp_ok, wxs_cons, ol]
  simp [-wxs_cons]
  refine are_values_ok (by omega) (by omega) (fun v hv2 => by have := hv v hv2; exact ⟨this.1, by have := this.2.1; omega, by have := this.2.2; omega⟩) ?_
  rw [decide_eq_true (by omega), decide_eq_true (by omega)]
  show TB (.bl true) _ _
  rw [tb_t, wxs_cons]
  simp [-wxs_cons]
  rw [show blt .list [vsD ls] (S ++ [O.lst ones]) = newL (ls.map Vl.d) (S ++ [O.lst ones]) from rfl, wp_newL]
  refine ⟨by rw [List.length_map, szl]; omega, ?_⟩
  rw [rev_l (ds := ls.map Vl.d) (by simp), wp_newL]
  refine ⟨by rw [List.length_reverse, List.length_map, szl]; omega, ?_⟩
  rw [wxs_cons]
  simp [-List.append_assoc, iv1]
  rw [show S ++ [O.lst ones] ++ [O.lst (ls.map Vl.d)] ++ [O.lst ((ls.map Vl.d).reverse)] = (S ++ [O.lst ones, O.lst (ls.map Vl.d)]) ++ [O.lst ((ls.map Vl.d).reverse)] by simp]
  have tl : (S ++ [O.lst ones, O.lst (ls.map Vl.d)]).length = S.length + 1 + 1 := by simp
  have tt : ∀ L, (S ++ [O.lst ones, O.lst (ls.map Vl.d)] ++ L).take S.length = S := fun L => by rw [List.append_assoc, List.take_left]
  rw [← tl]
  generalize S ++ [O.lst ones, O.lst (ls.map Vl.d)] = T at tt
  refine lc_each (fun i acc S' => ∃ ls' bs : List Vl, S' = T ++ [.lst ((ls'.map Vl.d).reverse)] ∧ acc = bs.map Vl.d ∧ bs ++ fills (ps.drop i) ls' = fills ps ls ∧ ls'.length = nOpen (ps.drop i)) (by rw [List.length_map]; unfold fuel; omega) ⟨ls, [], rfl, rfl, rfl, hl⟩ (fun i d acc S' hd hJ => ?_) fun acc S' hJ => ?_
  · obtain ⟨ls', bs, rfl, rfl, h3, h4⟩ := hJ
    rw [List.getElem?_map] at hd
    cases hp : ps[i]? with
    | none => rw [hp] at hd; cases hd
    | some p =>
      rw [hp] at hd
      cases hd
      have hi := (List.getElem?_eq_some_iff.mp hp).1
      have hg : ps[i] = p := (List.getElem?_eq_some_iff.mp hp).2
      have dr : ps.drop i = p :: ps.drop (i + 1) := by rw [List.drop_eq_getElem_cons hi, hg]
      rw [dr] at h3 h4
      rw [wp_lcB]
      simp [bindT, wipe]
      rw [kp_eq (h.1 p (List.mem_of_getElem? hp)), wo_some]
      cases p with
      | none =>
        obtain ⟨l, ls2, rfl⟩ : ∃ l ls2, ls' = l :: ls2 := by
          cases ls' with
          | nil => cases h4
          | cons l ls2 => exact ⟨l, ls2, rfl⟩
        show TB (.bl true) _ _
        rw [tb_t]
        refine ⟨mthOk_l get_at (by intro z; cases z), ?_⟩
        rw [mth_pop (ds := (ls2.map Vl.d).reverse) (d := l.d) (by simp), wp_ok, set_at]
        refine ⟨by simp, ls2, ?_, bs ++ [l], by simp, by simpa [fills] using h3, by simpa [nOpen] using h4⟩
        exact List.take_of_length_le (by simp)
      | some v =>
        show TB (.bl false) _ _
        rw [tb_f, kp_1, wo_some]
        exact ⟨by simp, ls', List.take_of_length_le (by simp), bs ++ [v], by simp, by simpa [fills] using h3, by simpa [nOpen] using h4⟩
  · obtain ⟨ls', bs, rfl, rfl, h3, h4⟩ := hJ
    rw [List.length_map, ← List.length_map (f := kpD), List.length_map, List.drop_length] at h3
    have h3 : bs = fills ps ls := by simpa [fills] using h3
    have bl : bs.length ≤ 8 := by
      rw [h3]
      have := fills_len (ps := ps) (ls := ls)
      omega
    refine ⟨by rw [List.length_map]; omega, ?_⟩
    rw [blt_tuple_l (ds := bs.map Vl.d) (by simp), wp_ok, mkT_pure vs_pure, h3]
    exact fin_pure rfl (by rw [List.append_assoc, tt]; exact q)
end
end DE
/-! GK9: inputs judged, drawn; known ones drawn. -/
namespace DE
open PySem (Str PyData sizeLine)
section
variable {k n p lo : Nat} {S T : Sto} {E : EE} {Q : D → Sto → Prop}
theorem are_inputs_ok {us : List Fu} {u : Fu} {vs : List Vl} (hk : 16 ≤ k) (hp : PgJ (u :: us)) (hl : vs.length = u.ps.length) (h8 : vs.length ≤ 8) (hv : ∀ v ∈ vs, v.gd) (q : Q (.bl true) S) : WP (callF FT k c_are_inputs [pgD (u :: us), vsD vs] S) E Q := by
  obtain ⟨k, rfl⟩ : ∃ j, k = j + 1 := ⟨k - 1, by omega⟩
  refine call_wp (fn := e_are_inputs.fn) rfl rfl ?_
  generalize (fun c x S1 => below S.length x = true ∧ E c x (S1.take S.length) : EE) = E'
  show WX (execs _ b_are_inputs [some (pgD (u :: us)), some (vsD vs)] S) _ _
  unfold b_are_inputs
  rw [wxs_cons]
  simp [-wxs_cons]
  refine need_program_ok (by omega) hp ?_
  rw [wxs_cons]
  simp
  obtain ⟨k, rfl⟩ : ∃ j, k = j + 1 := ⟨k - 1, by omega⟩
  refine call_wp (fn := e_fits_inputs.fn) rfl rfl ?_
  generalize (fun c x S1 => below S.length x = true ∧ E' c x (S1.take S.length) : EE) = E2
  show WX (execs _ b_fits_inputs [some (pgD (u :: us)), some (vsD vs), none] S) _ _
  unfold b_fits_inputs
  rw [wxs_cons]
  simp [-wxs_cons, pg_many, fu_ps]
  rw [len_ns, wp_ok, wxs_cons]
  simp
  refine are_values_ok (by omega) (by omega) (fun v hv2 => by have := hv v hv2; exact ⟨this.1, by have := this.2.1; omega, by have := this.2.2; omega⟩) ?_
  rw [decide_eq_true (by omega), decide_eq_true (by omega)]
  exact fin_bl (fin_bl q)
theorem inputs_ok {us : List Fu} {u : Fu} (h : HasCup n S) (hk : 8 ≤ k) (hl : u.ps.length ≤ 8) (q : ∀ (vs : List Vl) T, vs.length = u.ps.length → (∀ v ∈ vs, v.gd) → CupTo n S T → Q (vsD vs) T) : WP (callF FT k c__law_inputs [.ref n, pgD (u :: us)] S) E Q := by
  obtain ⟨k, rfl⟩ : ∃ j, k = j + 1 := ⟨k - 1, by omega⟩
  refine call_wp (fn := e__law_inputs.fn) rfl rfl ?_
  generalize (fun c x S1 => below S.length x = true ∧ E c x (S1.take S.length) : EE) = E'
  show WX (execs _ b__law_inputs [some (.ref n), some (pgD (u :: us)), none, none] S) _ _
  have iv1 : ∀ S, ivOf S (nsD u.ps) = some (.fix (u.ps.map D.str)) := fun _ => rfl
  unfold b__law_inputs
  rw [wxs_cons]
  simp [pg_many, fu_ps, iv1]
  refine lc_each (fun i acc S' => ∃ vs : List Vl, acc = vs.map Vl.d ∧ vs.length = i ∧ (∀ v ∈ vs, v.gd) ∧ CupTo n S S') (by rw [List.length_map]; unfold fuel; omega) ⟨[], rfl, rfl, (by intro v hv; cases hv), CupTo.refl h⟩ (fun i d acc S' hd hJ => ?_) fun acc S' hJ => ?_
  · obtain ⟨vs, rfl, h1, h2, c⟩ := hJ
    rw [wp_lcB]
    simp [bindT, wipe]
    refine value_ok 2 (c.has h) (by omega) fun v S1 v1 v2 v3 c1 => ?_
    refine ⟨below_pure v.pure, vs ++ [v], by simp, by simp [h1], fun w hw => ?_, ?_⟩
    · rcases List.mem_append.mp hw with hw | hw
      · exact h2 w hw
      · rw [List.mem_singleton.mp hw]
        exact ⟨v1, by omega, by omega⟩
    · rw [c1.take]
      exact c.trans c1
  · obtain ⟨vs, rfl, h1, h2, c⟩ := hJ
    rw [List.length_map] at h1
    refine ⟨by rw [List.length_map]; omega, ?_⟩
    rw [blt_tuple_l (ds := vs.map Vl.d) (by simp), wp_ok, mkT_pure vs_pure]
    exact fin_pure rfl (by rw [c.takeA]; exact q vs S' h1 h2 c)
/-- known inputs that tell these -/
def Tell : List (Option Vl) → List Vl → Prop
  | [], [] => True
  | p :: ps, v :: vs => (p = none ∨ p = some v) ∧ Tell ps vs
  | _, _ => False
theorem Tell.len : ∀ {ps : List (Option Vl)} {vs : List Vl}, Tell ps vs → ps.length = vs.length
  | [], [], _ => rfl
  | p :: ps, v :: vs, h => by simp [Tell.len h.2]
  | [], _ :: _, h => h.elim
  | _ :: _, [], h => h.elim
theorem Tell.mix : ∀ {ps : List (Option Vl)} {vs : List Vl}, Tell ps vs → mixB ps vs = vs
  | [], [], _ => rfl
  | p :: ps, v :: vs, h => by
    show p.getD v :: mixB ps vs = v :: vs
    rw [Tell.mix h.2]
    rcases h.1 with rfl | rfl <;> rfl
  | [], _ :: _, h => h.elim
  | _ :: _, [], h => h.elim
theorem Tell.gd : ∀ {ps : List (Option Vl)} {vs : List Vl}, Tell ps vs → (∀ v ∈ vs, v.gd) → ∀ p ∈ ps, KpOk p
  | [], [], _, _, p, hp => by cases hp
  | p :: ps, v :: vs, h, hv, r, hr => by
    rcases List.mem_cons.mp hr with rfl | hr
    · intro w hw
      rcases h.1 with e | e
      · rw [e] at hw; cases hw
      · rw [e] at hw; cases hw; exact hv _ List.mem_cons_self
    · exact Tell.gd h.2 (fun w hw => hv w (List.mem_cons_of_mem _ hw)) r hr
  | [], _ :: _, h, _, _, _ => h.elim
  | _ :: _, [], h, _, _, _ => h.elim
theorem Tell.snoc : ∀ {ps : List (Option Vl)} {vs : List Vl} {p : Option Vl} {v : Vl}, Tell ps vs → (p = none ∨ p = some v) → Tell (ps ++ [p]) (vs ++ [v])
  | [], [], p, v, _, h => ⟨h, trivial⟩
  | q :: ps, w :: vs, p, v, h, h2 => ⟨h.1, Tell.snoc h.2 h2⟩
  | [], _ :: _, _, _, h, _ => h.elim
  | _ :: _, [], _, _, h, _ => h.elim
theorem known_ok {vs : List Vl} (h : HasCup n S) (hk : 3 ≤ k) (hl : vs.length ≤ 8) (q : ∀ (ps : List (Option Vl)) T, Tell ps vs → CupTo n S T → Q (psD ps) T) : WP (callF FT k c__law_known [.ref n, vsD vs] S) E Q := by
  obtain ⟨k, rfl⟩ : ∃ j, k = j + 1 := ⟨k - 1, by omega⟩
  refine call_wp (fn := e__law_known.fn) rfl rfl ?_
  generalize (fun c x S1 => below S.length x = true ∧ E c x (S1.take S.length) : EE) = E'
  show WX (execs _ b__law_known [some (.ref n), some (vsD vs), none, none, none] S) _ _
  have iv1 : ∀ S, ivOf S (vsD vs) = some (.fix (vs.map Vl.d)) := fun _ => rfl
  unfold b__law_known
  rw [wxs_cons]
  simp [-wxs_cons]
  refine roll_ok h (by omega) (by decide) (by decide) fun way S1 w0 w1 c1 => ?_
  rw [wxs_cons]
  simp [iv1]
  refine lc_each (fun i acc S' => ∃ ps : List (Option Vl), acc = ps.map kpD ∧ Tell ps (vs.take i) ∧ CupTo n S S') (by rw [List.length_map]; unfold fuel; omega) ⟨[], rfl, trivial, c1⟩ (fun i d acc S' hd hJ => ?_) fun acc S' hJ => ?_
  · obtain ⟨ps, rfl, h1, c⟩ := hJ
    rw [List.getElem?_map] at hd
    cases hv : vs[i]? with
    | none => rw [hv] at hd; cases hd
    | some v =>
      rw [hv] at hd
      cases hd
      have step : ∀ (p : Option Vl) S2, p = none ∨ p = some v → CupTo n S' S2 → below S'.length (kpD p) = true ∧ ∃ ps2 : List (Option Vl), ps.map kpD ++ [kpD p] = ps2.map kpD ∧ Tell ps2 (vs.take (i + 1)) ∧ CupTo n S S2 := fun p S2 hp c2 => by
        refine ⟨below_pure kp_pure, ps ++ [p], by simp, ?_, c.trans c2⟩
        rw [List.take_add_one, hv]
        exact h1.snoc hp
      rw [wp_lcB]
      simp [bindT, wipe]
      rw [mkT2 rfl v.pure, mkT2 rfl rfl, eq_int, wo_some]
      refine tb_p (fun _ => step (some v) S' (.inr rfl) (CupTo.refl (c.has h))) (fun _ => ?_)
      refine tb_p (fun _ => ?_) (fun _ => step none S' (.inl rfl) (CupTo.refl (c.has h)))
      refine roll_ok (c.has h) (by omega) (by decide) (by decide) fun r S2 r0 r1 c2 => ?_
      rw [eq_int, wo_some, c2.take]
      exact tb_p (fun _ => step (some v) S2 (.inr rfl) c2) (fun _ => step none S2 (.inl rfl) c2)
  · obtain ⟨ps, rfl, h1, c⟩ := hJ
    rw [List.length_map, List.take_length] at h1
    have := h1.len
    refine ⟨by rw [List.length_map]; omega, ?_⟩
    rw [blt_tuple_l (ds := ps.map kpD) (by simp), wp_ok, mkT_pure kps_pure]
    exact fin_pure rfl (by rw [c.takeA]; exact q ps S' h1 c)
end
end DE
/-! GKA: one turn of the law: its parts. -/
namespace DE
open PySem (Str PyData sizeLine)
section
variable {k n p lo : Nat} {S S' T : Sto} {E : EE} {Q : D → Sto → Prop}
theorem Ct.refl (h : HasCup n S) : Ct n S S := Ct.of (CupTo.refl h)
theorem Ct.has (h : HasCup n S) (c : Ct n S T) : HasCup n T := by
  obtain ⟨S1, L, rfl, c⟩ := c
  exact (c.has h).app
theorem Ct.trans (h : HasCup n S) (c : Ct n S S') (d : Ct n S' T) : Ct n S T := by
  obtain ⟨S1, L, rfl, c⟩ := c
  obtain ⟨S2, L2, rfl, d⟩ := d
  obtain ⟨S3, rfl, e⟩ := d.app (by rw [c.len]; exact h.lt)
  exact ⟨S3, L ++ L2, by rw [List.append_assoc], c.trans e⟩
theorem Ct.app {L : Sto} (c : Ct n S T) : Ct n S (T ++ L) := by
  obtain ⟨S1, M, rfl, c⟩ := c
  exact ⟨S1, M ++ L, by rw [List.append_assoc], c⟩
theorem Ct.get (c : Ct n S T) {m : Nat} {o : O} (hm : m ≠ n) (h : S[m]? = some o) : T[m]? = some o := by
  obtain ⟨S1, L, rfl, c⟩ := c
  rw [List.getElem?_append_left (by rw [c.len]; exact (List.getElem?_eq_some_iff.mp h).1), c.get hm]
  exact h
theorem Ct.take (c : Ct n S T) : CupTo n S (T.take S.length) := by
  obtain ⟨S1, L, rfl, c⟩ := c
  rw [c.takeA]
  exact c
theorem Bv.lower {V : D} (h : Bv T lo V) (l : p ≤ lo) : Bv T p V := by
  rcases h with ⟨ds, h1, h4, h2, h3⟩ | ⟨q, ds, h1, rfl, hm⟩ | h
  · refine .inl ⟨ds, h1, h4, h2, fun d hd => ?_⟩
    rcases h3 d hd with h | ⟨m, hl, e, g⟩
    · exact .inl h
    · exact .inr ⟨m, by omega, e, g⟩
  · exact .inr (.inl ⟨q, ds, by omega, rfl, hm⟩)
  · exact .inr (.inr h)
theorem Bv.ct {V : D} (h : Bv T lo V) (hn : n < lo) (c : Ct n T S') : Bv S' lo V := h.stay fun m hm o ho => c.get (by omega) ho
/-- things drawn near the known inputs -/
theorem bents_lc {ps : List (Option Vl)} {env : Env} {own : List Nat} {g : Tg} {N : Nat} {Q : List D → Sto → Prop} {E' : EE} (h : HasCup n S) (hk : 6 ≤ k) (hps : PsOk ps) (hN : N < 1000) (hg : ∀ d, ∃ env2, bindT g d (wipe env own) = some env2 ∧ env2[0]? = some (some (.ref n)) ∧ env2[3]? = some (some (psD ps)))
    (q : ∀ ds T, ds.length = N → Ct n S T → (∀ V ∈ ds, Bv T S.length V) → Q ds T) :
    WP (lcGo (lcB (callF FT k) own g .nil (.call c__law_bent (.cons (.loc 0) (.cons (.loc 3) .nil))) env) (.fix ((List.range N).map fun (i : Nat) => D.int i)) fuel 0 [] S) E' Q := by
  refine lc_rule (fun i acc T => i ≤ N ∧ acc.length = i ∧ Ct n S T ∧ ∀ V ∈ acc, Bv T S.length V) N (by unfold fuel; omega) ⟨Nat.zero_le _, rfl, Ct.refl h, (by intro V hV; cases hV)⟩ fun i acc T ⟨hi, ha, hc, hb⟩ => ?_
  unfold ivGet
  rw [List.getElem?_map]
  by_cases hiN : i < N
  · rw [List.getElem?_range hiN]
    refine ⟨hiN, fun o T2 => ∃ V, o = some V ∧ Ct n T T2 ∧ Bv T2 T.length V, ?_, fun V T2 hV => ?_, fun T2 hV => ?_⟩
    · rw [wp_lcB]
      obtain ⟨env2, e1, e2, e3⟩ := hg (.int (i : Int))
      rw [e1, wo_some]
      simp [e2, e3]
      exact bent_ok (hc.has h) hk hps.1 hps.2 fun V T2 c b => ⟨c, b⟩
    · obtain ⟨V', e, c, b⟩ := hV
      cases e
      have hlt := h.lt
      have hlen : S.length ≤ T.length := by
        obtain ⟨S1, L, rfl, c9⟩ := hc
        rw [List.length_append, c9.len]
        omega
      cases hbl : below T.length V with
      | true =>
        have ct := c.take
        refine ⟨hiN, by simp [ha], hc.trans h (Ct.of ct), fun W hW => ?_⟩
        rcases List.mem_append.mp hW with hW | hW
        · exact (hb W hW).ct hlt (Ct.of ct)
        · rw [List.mem_singleton.mp hW]
          exact (b.cut hbl).lower hlen
      | false =>
        refine ⟨hiN, by simp [ha], hc.trans h c, fun W hW => ?_⟩
        rcases List.mem_append.mp hW with hW | hW
        · exact (hb W hW).ct hlt c
        · rw [List.mem_singleton.mp hW]
          exact b.lower hlen
    · obtain ⟨V', e, _⟩ := hV
      cases e
  · rw [List.getElem?_eq_none (by simp; omega)]
    show Q acc T
    exact q acc T (by omega) hc hb
theorem bin_mulT {ds : List D} {j : Int} (h0 : 0 ≤ j) (h1 : j ≤ 1000) (h2 : ds.length ≤ 1000) : bin .mul (.tup ds) (.int j) S = .ok (mkT (List.replicate j.toNat ds).flatten) S := by
  show (match tupOf (.tup ds) with
    | some ds => (match decide (0 ≤ j) && decide (j ≤ 1000) && Nat.ble ds.length 1000 with
      | true => R.ok (mkT (List.replicate j.toNat ds).flatten) S
      | false => R.no)
    | none => R.no) = _
  simp only [tupOf]
  rw [decide_eq_true h0, decide_eq_true h1, Nat.ble_eq_true_of_le h2]
  rfl
theorem bv_reps {ps : List (Option Vl)} {m : Nat} (h : ∀ p ∈ ps, KpOk p) (hl : m * ps.length < 1000) : Bv T lo (mkT (List.replicate m (ps.map kpD)).flatten) := by
  refine .inl ⟨_, tupOf_mkT, rfl, by rw [PyProof.Rows.lm_len_rep_flat, List.length_map]; exact hl, fun d hd => ?_⟩
  obtain ⟨l, hl, hd⟩ := List.mem_flatten.mp hd
  rw [List.eq_of_mem_replicate hl] at hd
  obtain ⟨p, hp, rfl⟩ := List.mem_map.mp hd
  exact kp_od (h p hp)
theorem others_lc {vs : List Vl} {env : Env} {own : List Nat} {g : Tg} {Q : List D → Sto → Prop} {E' : EE} (h : HasCup n S) (hk : 6 ≤ k) (hl : vs.length < 1000) (hg : ∀ d, ∃ env2, bindT g d (wipe env own) = some env2 ∧ env2[0]? = some (some (.ref n)))
    (q : ∀ (os : List Vl) T, os.length = vs.length → (∀ v ∈ os, v.gd) → CupTo n S T → Q (os.map Vl.d) T) :
    WP (lcGo (lcB (callF FT k) own g .nil (.call c__law_value (.cons (.loc 0) (.cons (.cst (.int 1)) .nil))) env) (.fix (vs.map Vl.d)) fuel 0 [] S) E' Q := by
  refine lc_each (fun i acc S' => ∃ vs : List Vl, acc = vs.map Vl.d ∧ vs.length = i ∧ (∀ v ∈ vs, v.gd) ∧ CupTo n S S') (by rw [List.length_map]; unfold fuel; omega) ⟨[], rfl, rfl, (by intro v hv; cases hv), CupTo.refl h⟩ (fun i d acc S' hd hJ => ?_) fun acc S' hJ => ?_
  · obtain ⟨vs, rfl, h1, h2, c⟩ := hJ
    rw [wp_lcB]
    obtain ⟨env2, e1, e2⟩ := hg d
    rw [e1, wo_some]
    simp [e2]
    refine value_ok 1 (c.has h) (by omega) fun v S1 v1 v2 v3 c1 => ?_
    refine ⟨below_pure v.pure, vs ++ [v], by simp, by simp [h1], fun w hw => ?_, ?_⟩
    · rcases List.mem_append.mp hw with hw | hw
      · exact h2 w hw
      · rw [List.mem_singleton.mp hw]
        exact ⟨v1, by omega, by omega⟩
    · rw [c1.take]
      exact c.trans c1
  · obtain ⟨vs2, rfl, h1, h2, c⟩ := hJ
    rw [List.length_map] at h1
    exact q vs2 S' h1 h2 c
theorem mixed_eq : ∀ {ps : List (Option Vl)} {vs : List Vl}, (ps.zip vs).map (fun pv => (pv.1.getD pv.2).d) = (mixB ps vs).map Vl.d
  | [], vs => by simp [mixB]
  | p :: ps, [] => by simp [mixB]
  | p :: ps, v :: vs => by
    simp only [List.zip_cons_cons, List.map_cons, mixB]
    rw [mixed_eq]
theorem Lka.mono {m q : Nat} {d : D} (h : Lka m d) (l : m ≤ q) : Lka q d := by
  induction h generalizing q with
  | atom h => exact .atom h
  | @tup j ds hl h ih =>
    obtain ⟨q, rfl⟩ : ∃ r, q = r + 1 := ⟨q - 1, by omega⟩
    exact .tup hl fun d hd => ih d hd (by omega)
theorem vl_lka : ∀ {v : Vl}, v.ok → Lka v.dp v.d
  | .int i, _ => .atom .int
  | .str x, h => .atom (.str (word_ok h))
  | .pair a b, h => by
    refine .tup (by simp) fun d hd => ?_
    simp only [List.mem_cons, List.not_mem_nil, or_false] at hd
    rcases hd with rfl | rfl
    · exact (vl_lka h.1).mono (Nat.le_max_left _ _)
    · exact (vl_lka h.2).mono (Nat.le_max_right _ _)
theorem vs_lka {vs : List Vl} (hl : vs.length < 100000) (h : ∀ v ∈ vs, v.gd) : Lka 11 (vsD vs) := by
  refine .tup (by rw [List.length_map]; exact hl) fun d hd => ?_
  obtain ⟨v, hv, rfl⟩ := List.mem_map.mp hd
  exact (vl_lka (h v hv).1).mono (h v hv).2.2
end
end DE
/-! GKB: one turn of the law. -/
namespace DE
open PySem (Str PyData sizeLine)
section
variable {k n p lo : Nat} {S S' T : Sto} {E : EE} {Q : D → Sto → Prop}
theorem kv_self {ps : List (Option Vl)} (h : PsOk ps) : Kv S ps.length (psD ps) true := by
  have := Kv.seq (S := S) (m := ps.length) (V := psD ps) (ds := ps.map kpD) (g := fun _ => true) rfl (by rw [List.length_map]; have := h.2; omega) (fun d hd => by
    obtain ⟨p, hp, rfl⟩ := List.mem_map.mp hd
    exact kp_elt (h.1 p hp))
  rw [List.length_map, decide_eq_true rfl, show (ps.map kpD).all (fun _ => true) = true by simp] at this
  exact this
theorem one_lka {ps : List (Option Vl)} (hl : ps.length < 100000) : Lka 11 (.tup (ps.map oneD)) := by
  refine .tup (by rw [List.length_map]; exact hl) fun d hd => ?_
  obtain ⟨v, hv, rfl⟩ := List.mem_map.mp hd
  exact .atom .int
theorem mixB_gd : ∀ {ps : List (Option Vl)} {vs : List Vl}, (∀ p ∈ ps, KpOk p) → (∀ v ∈ vs, v.gd) → ∀ v ∈ mixB ps vs, v.gd
  | [], vs, _, _, v, hv => by simp [mixB] at hv
  | p :: ps, [], _, _, v, hv => by simp [mixB] at hv
  | p :: ps, w :: vs, h1, h2, v, hv => by
    simp only [mixB, List.mem_cons] at hv
    rcases hv with rfl | hv
    · cases p with
      | none => exact h2 w List.mem_cons_self
      | some x => exact h1 _ List.mem_cons_self x rfl
    · exact mixB_gd (fun p hp => h1 p (List.mem_cons_of_mem _ hp)) (fun x hx => h2 x (List.mem_cons_of_mem _ hx)) v hv
def rBody : List Ss := match b__law_right.getD 5 .pass with
  | .for _ _ _ b => b
  | _ => []
theorem r_turn {us : List Fu} {u : Fu} {a b c d e h0 h1 h2 h3 h4 : Option D} {V : D} {Q : Fl → Env → Sto → Prop} (hk : 20 ≤ k) (hp : PgJ (u :: us)) (hV : Bv S lo V) (q : Q .nx [a, some (pgD (u :: us)), b, c, some (.int (u.ps.length : Int)), d, e, some V, h0, h1, h2, h3, h4] S) :
    WX (execs (callF FT k) rBody [a, some (pgD (u :: us)), b, c, some (.int (u.ps.length : Int)), d, e, some V, h0, h1, h2, h3, h4] S) E Q := by
  obtain ⟨r, hr⟩ := hV.kv (m := u.ps.length)
  unfold rBody b__law_right
  simp only [List.getD_cons_succ, List.getD_cons_zero]
  rw [wxs_cons]
  simp [-wxs_cons]
  refine are_known_ok (by omega) hp hr ?_
  refine law_known_ok (by omega) hr ?_
  refine like_atom (by omega) .bl .bl rfl ?_
  rw [eqv_self .bl, tb_t]
  exact q
theorem right_ok {us : List Fu} {u : Fu} (h : HasCup n S) (hk : 22 ≤ k) (hp : PgJ (u :: us)) (q : ∀ T, CupTo n S T → Q (.bl true) T) : WP (callF FT k c__law_right [.ref n, pgD (u :: us)] S) E Q := by
  obtain ⟨k, rfl⟩ : ∃ j, k = j + 1 := ⟨k - 1, by omega⟩
  refine call_wp (fn := e__law_right.fn) rfl rfl ?_
  generalize (fun c x S1 => below S.length x = true ∧ E c x (S1.take S.length) : EE) = E'
  show WX (execs _ b__law_right [some (.ref n), some (pgD (u :: us)), none, none, none, none, none, none, none, none, none, none, none] S) _ _
  have hu8 : u.ps.length ≤ 8 := (hp.2.2.2.1 u List.mem_cons_self).2.2.2.1
  unfold b__law_right
  rw [wxs_cons]
  simp [-wxs_cons]
  refine inputs_ok h (by omega) hu8 fun vs S1 vl vg c1 => ?_
  rw [wxs_cons]
  simp [-wxs_cons]
  refine known_ok (c1.has h) (by omega) (by omega) fun ps S2 tl c2 => ?_
  have c12 := c1.trans c2
  have pl := tl.len
  have po : PsOk ps := ⟨tl.gd vg, by omega⟩
  rw [show blt .len [vsD vs] S2 = .ok (.int ((vs.map Vl.d).length : Int)) S2 from rfl, wp_ok, mkT2 rfl rfl, List.length_map, vl]
  simp [-wxs_cons, bindT, tupOf, setMany]
  rw [wxs_cons]
  simp [-wxs_cons]
  refine law_left_ok (by omega) po ?_
  rw [wxs_cons]
  simp [-wxs_cons]
  have lf : (lefts ps vs).length = nOpen ps := lefts_n (by omega)
  have lg : ∀ v ∈ lefts ps vs, v.gd := fun v hv => by
    unfold lefts at hv
    obtain ⟨pv, h1, rfl⟩ := List.mem_map.mp hv
    exact vg _ (List.of_mem_zip (List.mem_filter.mp h1).1).2
  have fe : fills ps (lefts ps vs) = vs := by rw [fills_lefts (by omega), tl.mix]
  have kvs : Kv S2 u.ps.length (psD ps) true := by
    have := kv_self (S := S2) po
    rw [pl, vl] at this
    exact this
  refine are_known_ok (by omega) hp kvs ?_
  refine which_ok (by omega) po ?_
  refine left_ok (by omega) po (by omega) vg ?_
  refine allin_ok (by omega) po lf lg ?_
  rw [fe]
  refine allin_ok (by omega) po lf lg ?_
  rw [fe]
  refine are_inputs_ok (by omega) hp vl (by omega) vg ?_
  rw [wxs_cons]
  simp [-wxs_cons, show ∀ S, ivOf S (psD ps) = some (.fix (ps.map kpD)) from fun _ => rfl, -List.append_assoc]
  refine lc_mapF (h := kpD) (f := oneD) iv_fix (by omega) (fun p hp => ?_) ?_
  · rw [wp_lcB]
    simp [bindT, wipe, kp_0]
    exact ⟨rfl, List.take_of_length_le (by simp)⟩
  refine ⟨by rw [List.length_map]; omega, ?_⟩
  have opp : (ps.map oneD).all D.pure = true := by
    rw [List.all_eq_true]
    intro d hd
    obtain ⟨p, _, rfl⟩ := List.mem_map.mp hd
    rfl
  rw [blt_tuple_l (ds := ps.map oneD) (by simp), wp_ok, mkT_pure opp]
  generalize hds : [D.bl true, D.tup (ps.map oneD), vsD (lefts ps vs), vsD vs, D.bl true] = ds
  refine like_list (ds := ds) (m := 11) (by simp) (by simp) (by rw [← hds]; simp) (fun d hd => ?_) (by omega) ?_
  · rw [← hds] at hd
    simp only [List.mem_cons, List.not_mem_nil, or_false] at hd
    have := lefts_len (ps := ps) (vs := vs)
    rcases hd with rfl | rfl | rfl | rfl | rfl
    · exact .atom .bl
    · exact one_lka (by omega)
    · exact vs_lka (by omega) lg
    · exact vs_lka (by omega) vg
    · exact .atom .bl
  rw [tb_t]
  have ct : Ct n S (S2 ++ [O.lst ds] ++ [O.lst (ps.map oneD)] ++ [O.lst ds]) := (Ct.of c12).app.app.app
  generalize S2 ++ [O.lst ds] ++ [O.lst (ps.map oneD)] ++ [O.lst ds] = T0 at ct ⊢
  rw [wxs_cons]
  simp [-wxs_cons, -List.append_assoc]
  show ((6 : Int) < _ ∧ _) ∧ WP (lcGo _ (.fix ((List.range 6).map fun (i : Nat) => D.int i)) fuel 0 [] T0) _ _
  refine ⟨by decide, ?_⟩
  refine bents_lc (ps := ps) (ct.has h) (by omega) po (by decide) (fun d => ⟨_, rfl, rfl, rfl⟩) fun bs T1 bl c3 bb => ?_
  refine ⟨by omega, ?_⟩
  have mm : mkT [mkT [D.int 0, D.int 0]] = .tup (([none] : List (Option Vl)).map kpD) := rfl
  have pm : (ps.map kpD).length ≤ 8 := by rw [List.length_map]; exact po.2
  rw [mm, bin_mulT (by omega) (by omega) (by simp), wp_ok, show psD ps = .tup (ps.map kpD) from rfl, bin_mulT (by decide) (by decide) (by omega), wp_ok, show D.tup (ps.map kpD) = psD ps from rfl]
  rw [bin_addL (as := bs) (bs := [D.non, D.tup [], D.int 0, D.str (Str.ofString "a"), mkT (List.replicate (u.ps.length : Int).toNat (([none] : List (Option Vl)).map kpD)).flatten, mkT (List.replicate (9 : Int).toNat (ps.map kpD)).flatten]) (by simp) (by simp), wp_newL]
  generalize hmore : [D.non, D.tup [], D.int 0, D.str (Str.ofString "a"), mkT (List.replicate (u.ps.length : Int).toNat (([none] : List (Option Vl)).map kpD)).flatten, mkT (List.replicate (9 : Int).toNat (ps.map kpD)).flatten] = more
  have ml : more.length = 6 := by rw [← hmore]; rfl
  have mb : ∀ T lo, ∀ V ∈ more, Bv T lo V := fun T lo V hV => by
    rw [← hmore] at hV
    simp only [List.mem_cons, List.not_mem_nil, or_false] at hV
    rcases hV with rfl | rfl | rfl | rfl | rfl | rfl
    · exact .inr (.inr ⟨rfl, .non, (by intro h; cases h), fun _ => rfl⟩)
    · exact .inl ⟨[], rfl, rfl, by decide, (by intro d hd; cases hd)⟩
    · exact .inr (.inr ⟨rfl, .int, (by intro h; cases h), fun _ => rfl⟩)
    · exact .inr (.inr ⟨rfl, .str, (by intro h; cases h), fun _ => rfl⟩)
    · exact bv_reps (fun p hp => by rw [List.mem_singleton.mp hp]; intro v hv; cases hv) (by simp; omega)
    · exact bv_reps po.1 (by have := po.2; simp; omega)
  refine ⟨by rw [List.length_append, szl]; omega, ?_⟩
  have c4 : Ct n T0 (T1 ++ [O.lst bs] ++ [O.lst more] ++ [O.lst (bs ++ more)]) := c3.app.app.app
  have ix : (T1 ++ [O.lst bs] ++ [O.lst more] ++ [O.lst (bs ++ more)])[(T1 ++ [O.lst bs] ++ [O.lst more]).length]? = some (.lst (bs ++ more)) := by simp
  have hnT : n < T0.length := (ct.has h).lt
  have all : ∀ V ∈ bs ++ more, Bv (T1 ++ [O.lst bs] ++ [O.lst more] ++ [O.lst (bs ++ more)]) T0.length V := fun V hV => by
    rcases List.mem_append.mp hV with hV | hV
    · exact (bb V hV).ct hnT (Ct.refl (c3.has (ct.has h))).app.app.app
    · exact mb _ _ V hV
  rw [ivOf_ref ix, wo_some]
  generalize (T1 ++ [O.lst bs] ++ [O.lst more]).length = w at ix ⊢
  have c5 := ct.trans h c4
  generalize T1 ++ [O.lst bs] ++ [O.lst more] ++ [O.lst (bs ++ more)] = T2 at ix all c5 ⊢
  have tot : (bs ++ more).length = 12 := by rw [List.length_append]; omega
  generalize bs ++ more = every at ix all tot
  refine for_rule (fun i v T => i ≤ every.length ∧ T = T2 ∧ ∃ t, v = [some (.ref n), some (pgD (u :: us)), some (vsD vs), some (psD ps), some (.int (u.ps.length : Int)), some (vsD (lefts ps vs)), some (.ref S2.length), t, none, none, none, none, none]) every.length (by unfold fuel; omega) ⟨Nat.zero_le _, rfl, _, rfl⟩ fun i v T ⟨hi, hT, t, hv⟩ => ?_
  subst hT hv
  rw [iv_dyn ix]
  cases hd : every[i]? with
  | some V =>
    have hlt := (List.getElem?_eq_some_iff.mp hd).1
    refine ⟨hlt, ?_⟩
    show WX (execs (callF FT k) rBody _ _) _ _
    refine r_turn (by omega) hp (all V (List.mem_of_getElem? hd)) ?_
    refine ⟨hlt, ?_, _, rfl⟩
    unfold trim
    split
    · exact List.take_length
    · rfl
  | none =>
    show nxt _ _ .nx _ _
    rw [nxt_nx, wxs_cons]
    simp [-wxs_cons, show ∀ S, ivOf S (vsD vs) = some (.fix (vs.map Vl.d)) from fun _ => rfl]
    refine others_lc (vs := vs) (c5.has h) (by omega) (by omega) (fun d => ⟨_, rfl, rfl⟩) fun os T3 ol og c6 => ?_
    refine ⟨by rw [List.length_map]; omega, ?_⟩
    rw [blt_tuple_l (ds := os.map Vl.d) (by simp), wp_ok, mkT_pure vs_pure, wxs_cons]
    simp [-wxs_cons, show ∀ S, zipOf S (psD ps) (.tup (os.map Vl.d)) = some (.zip (.fix (ps.map kpD)) (.fix (os.map Vl.d))) from fun _ => rfl]
    have c7 : Ct n S (T3 ++ [O.lst (os.map Vl.d)]) := (c5.trans h (Ct.of c6)).app
    generalize T3 ++ [O.lst (os.map Vl.d)] = T4 at c7 ⊢
    refine lc_mapF (h := pvD) (f := fun pv => (pv.1.getD pv.2).d) iv_pv (by rw [List.length_zip]; omega) (fun pv hpv => ?_) ?_
    · rw [wp_lcB]
      obtain ⟨p, v⟩ := pv
      simp [bindT, wipe, pvD, setMany, tupOf]
      rw [kp_0, wo_some]
      unfold oneD
      rw [eq_int, wo_some]
      cases p with
      | none =>
        rw [decide_eq_false (by decide), tb_f]
        rfl
      | some w =>
        rw [decide_eq_true (by rfl), tb_t, kp_1, wo_some]
        rfl
    rw [mixed_eq]
    have mlen : (mixB ps os).length ≤ 8 := by
      rw [← List.length_map (f := Vl.d), ← mixed_eq, List.length_map, List.length_zip]
      have := po.2
      omega
    refine ⟨by rw [List.length_map]; omega, ?_⟩
    rw [blt_tuple_l (ds := (mixB ps os).map Vl.d) (by simp), wp_ok, mkT_pure vs_pure, wxs_cons]
    simp
    have c8 : Ct n S (T4 ++ [O.lst ((mixB ps os).map Vl.d)]) := c7.app
    generalize T4 ++ [O.lst ((mixB ps os).map Vl.d)] = T5 at c8 ⊢
    have og2 : ∀ v ∈ lefts ps os, v.gd := fun v hv => by
      unfold lefts at hv
      obtain ⟨pv, h1, rfl⟩ := List.mem_map.mp hv
      exact og _ (List.of_mem_zip (List.mem_filter.mp h1).1).2
    show WP (callF FT k c_left_inputs [psD ps, vsD os] T5) _ _
    refine left_ok (by omega) po (by omega) og ?_
    refine allin_ok (by omega) po (lefts_n (by omega)) og2 ?_
    rw [fills_lefts (by omega)]
    show WP (callF FT k c__law_like [vsD (mixB ps os), vsD (mixB ps os)] T5) _ _
    have mg : ∀ v ∈ mixB ps os, v.gd := mixB_gd po.1 og
    refine like_lk (vs_lka (by omega) mg) (by omega) ?_
    exact fin_pure rfl (q _ c8.take)
end
end DE
/-! GKC: the cup, the written cases, the law. -/
namespace DE
open PySem (Str PyData sizeLine)
section
variable {k n p lo : Nat} {S S' T : Sto} {E : EE} {Q : D → Sto → Prop}
theorem cup_ok {ns : List Int} (hk : 1 ≤ k) (hl : ns.length ≤ 63) (hS : S[p]? = some (.fl (ns.map D.int))) (q : ∀ a b : Int, Q (.ref S.length) (S ++ [.lst [.int a, .int b]])) : WP (callF FT k c__law_cup [.ref p] S) E Q := by
  obtain ⟨k, rfl⟩ : ∃ j, k = j + 1 := ⟨k - 1, by omega⟩
  refine call_wp (fn := e__law_cup.fn) rfl rfl ?_
  generalize (fun c x S1 => below S.length x = true ∧ E c x (S1.take S.length) : EE) = E'
  show WX (execs _ b__law_cup [some (.ref p), none] S) _ _
  unfold b__law_cup
  rw [wxs_cons]
  simp [-wxs_cons]
  rw [show blt .list [.ref p] S = newL (ns.map D.int) S by
    show bList (.ref p) S = _
    unfold bList seqOf
    simp only [hS], wp_newL]
  refine ⟨by rw [List.length_map, szl]; omega, ?_⟩
  simp [-wxs_cons]
  rw [bin_addL (as := ns.map D.int) (bs := [.int 0]) (by simp) (by simp), wp_newL]
  refine ⟨by rw [List.length_append, List.length_map, szl]; simp; omega, ?_⟩
  obtain ⟨i, r, hr⟩ : ∃ (i : Int) (r : List D), ns.map D.int ++ [D.int 0] = .int i :: r := by
    cases ns with
    | nil => exact ⟨0, [], rfl⟩
    | cons i r => exact ⟨i, _, rfl⟩
  rw [hr]
  rw [idx_lst (ds := .int i :: r) (by simp), ixN_nn (by decide) (by simp), show ((some (Int.toNat 0)).bind fun j => (D.int i :: r)[j]?) = some (.int i) from rfl, wo_some]
  rw [show ∀ S, blt .abs [.int i] S = .ok (.int (if i < 0 then -i else i)) S from fun _ => rfl, wp_ok]
  generalize (if i < 0 then -i else i) = x
  have ht : ∀ L, (S ++ [O.lst (ns.map D.int), O.lst [D.int 0]] ++ L).take S.length = S := fun L => by rw [List.append_assoc, List.take_left]
  have hlen : S.length ≤ (S ++ [O.lst (ns.map D.int), O.lst [D.int 0]] ++ [O.lst (.int i :: r)]).length := by simp
  have ht2 : ∀ L, ((S ++ [O.lst (ns.map D.int), O.lst [D.int 0]] ++ [O.lst (.int i :: r)]) ++ L).take S.length = S := fun L => by rw [List.append_assoc]; exact ht _
  generalize (S ++ [O.lst (ns.map D.int), O.lst [D.int 0]] ++ [O.lst (.int i :: r)]) = T at hlen ht2 ⊢
  rw [wxs_cons]
  simp [show ∀ S, bin .pow (.int 10) (.int 18) S = .ok (.int (10 ^ 18)) S from fun _ => rfl]
  have fin2 : ∀ a : Int, WP (bin .mul (.int x) (.int 283) T) E' fun x_1 S2 => WP (bin .add x_1 (.int 3907) S2) E' fun d S1 => WP (blt .int [d] S1) E' fun x S2 => WP (bin .mod x (.int 2077503167) S2) E' fun x S2 => WP (bin .add x (.int 167) S2) E' fun d S3 => WP (fin S.length (.ref S3.length) (S3 ++ [O.lst [.int a, d]])) E Q := fun a => by
    rw [bin_mul (.inr (by decide)), wp_ok, bin_add, wp_ok, blt_int, wp_ok, bin_mod (by decide), wp_ok, bin_add, wp_ok]
    refine fin_list (ds := [.int a, .int ((x * 283 + 3907) % 2077503167 + 167)]) hlen (by simp) rfl ?_
    rw [ht2]
    exact q _ _
  refine tb_p (fun _ => ?_) (fun _ => fin2 0)
  rw [bin_fdiv (by decide) (by decide), wp_ok]
  exact fin2 _
/-! ### the programs written out -/
def powF : Fu := ⟨"power", ["n", "m"], .iff (.doo "less" [.name "n", .val (.int 1)]) (.val (.int 1)) (.name "m")⟩
def noneF : Fu := ⟨"f", [], .val (.int 1)⟩
def eightF : Fu := ⟨"f", ["a", "b", "c", "d", "e", "f", "g", "h"], .name "a"⟩
theorem small1 : smallV (.int 1) := ⟨⟨by decide, by decide⟩, by decide, by decide⟩
theorem nok_of {ps : List Str} (h : ps.all wordB = true) : NOk ps := fun x hx => List.all_eq_true.mp h x hx
theorem pow_j : PgJ [powF] := by
  refine ⟨by decide, by decide, by simp, fun u hu => ?_, by decide⟩
  rw [List.mem_singleton.mp hu]
  refine ⟨by decide, nok_of (by decide), by decide, by decide, ?_, by decide, by decide⟩
  show Tm.ok _ (["n", "m"] : List Str) (.iff (.doo "less" [.name "n", .val (.int 1)]) (.val (.int 1)) (.name "m"))
  simp only [Tm.ok, Tm.oks]
  exact ⟨⟨.inr ⟨by decide, rfl⟩, ⟨by decide, by decide⟩, small1, trivial⟩, small1, by decide, by decide⟩
theorem none_j : PgJ [noneF] := by
  refine ⟨by decide, by decide, by simp, fun u hu => ?_, by decide⟩
  rw [List.mem_singleton.mp hu]
  refine ⟨by decide, nok_of (by decide), by decide, by decide, ?_, by decide, by decide⟩
  show Tm.ok _ ([] : List Str) (.val (.int 1))
  simp only [Tm.ok]
  exact small1
theorem eight_j : PgJ [eightF] := by
  refine ⟨by decide, by decide, by simp, fun u hu => ?_, by decide⟩
  rw [List.mem_singleton.mp hu]
  refine ⟨by decide, nok_of (by decide), by decide, by decide, ?_, by decide, by decide⟩
  show Tm.ok _ (["a", "b", "c", "d", "e", "f", "g", "h"] : List Str) (.name "a")
  simp only [Tm.ok]
  exact ⟨by decide, by decide⟩
def gZ : D → Bool
  | .tup [.int i, _] => decide (i = 0)
  | _ => false
theorem kv_a : Kv S 2 (.tup [.tup [.int 2, .int 2], .tup [.int 0, .int 0]]) false := by
  refine Kv.seq (ds := [.tup [.int 2, .int 2], .tup [.int 0, .int 0]]) (g := gZ) rfl (by decide) fun d hd => ?_
  simp only [List.mem_cons, List.not_mem_nil, or_false] at hd
  rcases hd with rfl | rfl
  · exact Elt.big ⟨by decide, by decide⟩
  · exact Elt.zero (j := 0)
theorem kv_b : Kv S 2 (.tup [.tup [.int 0, .int 0], .tup [.int (-1), .int 2]]) false := by
  have h := Kv.seq (S := S) (m := 2) (V := .tup [.tup [.int 0, .int 0], .tup [.int (-1), .int 2]]) (ds := [.tup [.int 0, .int 0], .tup [.int (-1), .int 2]]) (g := gZ) rfl (by simp) fun d hd => by
    simp only [List.mem_cons, List.not_mem_nil, or_false] at hd
    rcases hd with rfl | rfl
    · exact Elt.zero (j := 0)
    · exact Elt.big ⟨by decide, by decide⟩
  have e : (decide (([.tup [.int 0, .int 0], .tup [.int (-1), .int 2]] : List D).length = 2) && ([.tup [.int 0, .int 0], .tup [.int (-1), .int 2]] : List D).all gZ) = false := by simp [gZ]
  rw [e] at h
  exact h
theorem int_gd {i : Int} (h : -(10 ^ 60) < i ∧ i < 10 ^ 60) : (Vl.int i).gd := ⟨h, (by decide : 1 ≤ 100), (by decide : 0 ≤ 10)⟩
theorem ps_a : PsOk [some (.int 2), none] := by
  refine ⟨fun p hp => ?_, by decide⟩
  simp only [List.mem_cons, List.not_mem_nil, or_false] at hp
  rcases hp with rfl | rfl
  · intro v hv; cases hv; exact int_gd ⟨by decide, by decide⟩
  · intro v hv; cases hv
theorem ps_b : PsOk [none, some (.int 5)] := by
  refine ⟨fun p hp => ?_, by decide⟩
  simp only [List.mem_cons, List.not_mem_nil, or_false] at hp
  rcases hp with rfl | rfl
  · intro v hv; cases hv
  · intro v hv; cases hv; exact int_gd ⟨by decide, by decide⟩
theorem kv_c : Kv S 2 (.tup [.tup [.int 1, .int 2]]) false := by
  refine Kv.seq (ds := [.tup [.int 1, .int 2]]) (g := fun _ => true) rfl (by decide) fun d hd => ?_
  rw [List.mem_singleton.mp hd]
  exact Elt.one (Fv.vl (v := .int 2) (int_gd ⟨by decide, by decide⟩))
theorem written_ok (hk : 22 ≤ k) (q : Q (.bl true) S) : WP (callF FT k c__law_written_right [] S) E Q := by
  obtain ⟨k, rfl⟩ : ∃ j, k = j + 1 := ⟨k - 1, by omega⟩
  refine call_wp (fn := e__law_written_right.fn) rfl rfl ?_
  generalize (fun c x S1 => below S.length x = true ∧ E c x (S1.take S.length) : EE) = E'
  show WX (execs _ b__law_written_right [none, none, none] S) _ _
  unfold b__law_written_right
  rw [wxs_cons]
  simp [-wxs_cons]
  rw [wxs_cons]
  simp [-wxs_cons]
  show WX (execs _ _ [some (.tup [.str "name", .str "n"]), some (pgD [powF]), none] S) _ _
  rw [wxs_cons]
  simp [-wxs_cons]
  show WP (callF FT k c_are_known [pgD [powF], .tup [.tup [.int 2, .int 2], .tup [.int 0, .int 0]]] S) _ _
  refine are_known_ok (by omega) pow_j kv_a ?_
  show WP (callF FT k c_are_known [pgD [powF], .tup [.tup [.int 0, .int 0], .tup [.int (-1), .int 2]]] S) _ _
  refine are_known_ok (by omega) pow_j kv_b ?_
  refine like_list (ds := [.bl false, .bl false]) (m := 0) (by simp) (by simp) (by decide) (fun d hd => ?_) (by omega) ?_
  · simp only [List.mem_cons, List.not_mem_nil, or_false] at hd
    rcases hd with rfl | rfl <;> exact .atom .bl
  rw [tb_t, wxs_cons]
  simp [-wxs_cons, -List.append_assoc]
  have ht : (S ++ [O.lst [D.bl false, D.bl false], O.lst [D.bl false, D.bl false]]).take S.length = S := by simp
  have hlen : S.length ≤ (S ++ [O.lst [D.bl false, D.bl false], O.lst [D.bl false, D.bl false]]).length := by simp
  have ht2 : ∀ L, ((S ++ [O.lst [D.bl false, D.bl false], O.lst [D.bl false, D.bl false]]) ++ L).take S.length = S := fun L => by simp
  generalize S ++ [O.lst [D.bl false, D.bl false], O.lst [D.bl false, D.bl false]] = T at ht ht2 hlen ⊢
  show WP (callF FT k c_are_known [pgD [powF], psD [some (.int 2), none]] T) _ _
  refine are_known_ok (by omega) pow_j (kv_self ps_a) ?_
  show WP (callF FT k c_are_known [pgD [powF], .tup [.tup [.int 1, .int 2]]] T) _ _
  refine are_known_ok (by omega) pow_j kv_c ?_
  show WP (callF FT k c_which_known [psD [some (.int 2), none]] T) _ _
  refine which_ok (by omega) ps_a ?_
  show WP (callF FT k c_all_inputs [psD [none, some (.int 5)], vsD [.int 7]] T) _ _
  have g7 : ∀ v ∈ [Vl.int 7], v.gd := fun v hv => by rw [List.mem_singleton.mp hv]; exact int_gd ⟨by decide, by decide⟩
  refine allin_ok (by omega) ps_b (by decide) g7 ?_
  show WP (callF FT k c_left_inputs [psD [none, some (.int 5)], vsD [.int 7, .int 8]] T) _ _
  have g78 : ∀ v ∈ [Vl.int 7, Vl.int 8], v.gd := fun v hv => by
    simp only [List.mem_cons, List.not_mem_nil, or_false] at hv
    rcases hv with rfl | rfl <;> exact int_gd ⟨by decide, by decide⟩
  refine left_ok (by omega) ps_b rfl g78 ?_
  rw [wxs_cons]
  simp [-List.append_assoc]
  show WP (callF FT k c__law_like [.ref T.length, .ref (T.length + 1)] (T ++ [O.lst [.bl true, .bl false, .tup [.int 1, .int 0], .tup [.int 7, .int 5], .tup [.int 7]]] ++ [O.lst [.bl true, .bl false, .tup [.int 1, .int 0], .tup [.int 7, .int 5], .tup [.int 7]]])) _ _
  refine like_list (ds := [.bl true, .bl false, .tup [.int 1, .int 0], .tup [.int 7, .int 5], .tup [.int 7]]) (m := 1) (by simp) (by simp) (by simp) (fun d hd => ?_) (by omega) ?_
  · simp only [List.mem_cons, List.not_mem_nil, or_false] at hd
    have it : ∀ is : List Int, is.length < 100000 → Lka 1 (.tup (is.map D.int)) := fun is hl => .tup (by rw [List.length_map]; exact hl) fun d hd => by
      obtain ⟨i, _, rfl⟩ := List.mem_map.mp hd
      exact .atom .int
    rcases hd with rfl | rfl | rfl | rfl | rfl
    · exact .atom .bl
    · exact .atom .bl
    · exact it [1, 0] (by decide)
    · exact it [7, 5] (by decide)
    · exact it [7] (by decide)
  exact fin_pure rfl (by rw [List.append_assoc, ht2]; exact q)
theorem sum_le {c : Nat} : ∀ {us : List Fu}, (∀ u ∈ us, u.b.sz ≤ c) → (us.map fun u => u.b.sz).sum ≤ us.length * c
  | [], _ => by simp
  | u :: us, h => by
    simp only [List.map_cons, List.sum_cons, List.length_cons]
    have h1 := h u List.mem_cons_self
    have h2 := sum_le (us := us) fun v hv => h v (List.mem_cons_of_mem _ hv)
    rw [Nat.add_mul]
    omega
theorem names_nodup (a b : Nat) : (("main" : Str) :: ((["loop", "walk"] : List Str).take a ++ (["aux", "side"] : List Str).take b).reverse).Nodup := by
  have ha : ∃ a', a' ≤ 2 ∧ (["loop", "walk"] : List Str).take a = (["loop", "walk"] : List Str).take a' := ⟨min a 2, by omega, by
    rw [List.take_eq_take_iff]
    simp⟩
  have hb : ∃ b', b' ≤ 2 ∧ (["aux", "side"] : List Str).take b = (["aux", "side"] : List Str).take b' := ⟨min b 2, by omega, by
    rw [List.take_eq_take_iff]
    simp⟩
  obtain ⟨a', ha1, ha2⟩ := ha
  obtain ⟨b', hb1, hb2⟩ := hb
  rw [ha2, hb2]
  have e1 : a' = 0 ∨ a' = 1 ∨ a' = 2 := by omega
  have e2 : b' = 0 ∨ b' = 1 ∨ b' = 2 := by omega
  rcases e1 with rfl | rfl | rfl <;> rcases e2 with rfl | rfl | rfl <;> decide
theorem prog_j {main : Fu} {us : List Fu} {a b : Nat} (hm : main.f = "main") (hu : UsOk us) (ho : main.ok (us.map Fu.sig)) (hf : us.map Fu.f = (["loop", "walk"] : List Str).take a ++ (["aux", "side"] : List Str).take b) : PgJ (main :: us.reverse) := by
  have hl : us.length ≤ 4 := by
    have := congrArg List.length hf
    rw [List.length_map, List.length_append, List.length_take, List.length_take] at this
    simp at this
    omega
  have sub : ∀ x ∈ us.map Fu.sig, x ∈ (main :: us.reverse).map Fu.sig := fun x hx => by
    rw [List.map_cons, List.map_reverse]
    exact List.mem_cons_of_mem _ (List.mem_reverse.mpr hx)
  have each : ∀ u ∈ main :: us.reverse, u.ok (us.map Fu.sig) := fun u h => by
    rcases List.mem_cons.mp h with rfl | h
    · exact ho
    · exact hu u (List.mem_reverse.mp h)
  refine ⟨by simp, by simp; omega, ?_, fun u h => ?_, ?_⟩
  · rw [List.map_cons, List.map_reverse, hm, hf]
    exact names_nodup a b
  · obtain ⟨h1, h2, h3, h4, h5, h6, h7⟩ := each u h
    exact ⟨h1, h2, h3, by omega, Tm.ok_fs sub h5, by omega, by omega⟩
  · have := sum_le (c := 260) fun u h => (each u h).2.2.2.2.2.1
    simp only [List.length_cons, List.length_reverse] at this
    omega
theorem law_ok {ns : List Int} (hk : 40 ≤ k) (hl : ns.length ≤ 63) (hS : S[p]? = some (.fl (ns.map D.int))) (q : ∀ T, Q (.bl true) T) : WP (callF FT k c_law [.ref p] S) E Q := by
  obtain ⟨k, rfl⟩ : ∃ j, k = j + 1 := ⟨k - 1, by omega⟩
  refine call_wp (fn := e_law.fn) rfl rfl ?_
  generalize (fun c x S1 => below S.length x = true ∧ E c x (S1.take S.length) : EE) = E'
  show WX (execs _ b_law [some (.ref p), none, none, none, none] S) _ _
  unfold b_law
  rw [wxs_cons]
  simp [-wxs_cons]
  refine cup_ok (by omega) hl hS fun a b => ?_
  have hc : HasCup S.length (S ++ [.lst [.int a, .int b]]) := ⟨a, b, by simp⟩
  generalize S ++ [.lst [.int a, .int b]] = S1 at hc ⊢
  rw [wxs_cons]
  simp [-wxs_cons]
  refine written_ok (by omega) ?_
  rw [tb_t, wxs_cons]
  simp [-wxs_cons]
  show ((4 : Int) < _ ∧ _) ∧ WX (forGo _ _ [] (.fix ((List.range 4).map fun (i : Nat) => D.int i)) fuel 0 _ S1) _ _
  refine ⟨by decide, ?_⟩
  refine for_rule (fun i v T => i ≤ 4 ∧ HasCup S.length T ∧ ∃ t, v = [some (.ref p), some (.ref S.length), t, none, none]) 4 (by unfold fuel; omega) ⟨Nat.zero_le _, hc, none, rfl⟩ fun i v T ⟨hi, hT, t, hv⟩ => ?_
  subst hv
  unfold ivGet
  rw [List.getElem?_map]
  by_cases hiN : i < 4
  · rw [List.getElem?_range hiN]
    refine ⟨hiN, ?_⟩
    show WO (some _) _
    rw [wo_some, wxs_cons]
    simp [-wxs_cons]
    refine program_ok hT (by omega) fun main us a b T2 h1 h2 h3 h4 h5 c => ?_
    show WP (callF FT k c__law_right [.ref S.length, pgD (main :: us.reverse)] T2) _ _
    refine right_ok (c.has hT) (by omega) (prog_j h1 h3 h4 h5) fun T3 c2 => ?_
    rw [tb_t]
    refine ⟨by omega, ?_, _, rfl⟩
    have c3 := c.trans c2
    unfold trim
    split
    · rw [c3.take]
      exact c3.has hT
    · exact c3.has hT
  · rw [List.getElem?_eq_none (by simp; omega)]
    show nxt _ _ .nx _ _
    rw [nxt_nx, wxs_cons]
    simp [-wxs_cons]
    show WX (execs _ _ [some (.ref p), some (.ref S.length), t, some (pgD [noneF]), some (pgD [eightF])] T) _ _
    rw [wxs_cons]
    simp [-wxs_cons]
    refine right_ok hT (by omega) none_j fun T2 c => ?_
    rw [tb_t]
    refine right_ok (c.has hT) (by omega) eight_j fun T3 c2 => ?_
    rw [tb_t, wxs_cons]
    simp
    exact fin_pure rfl (q _)
def deepest : Nat := 60
theorem law_true (ns : List Int) (h : ns.length ≤ 63) : ∃ S, callF FT deepest c_law [.ref 0] [.fl (ns.map D.int)] = .ok (.bl true) S := by
  have key : WP (callF FT deepest c_law [.ref 0] [.fl (ns.map D.int)]) (fun _ _ _ => False) fun d _ => d = .bl true := law_ok (by decide) h rfl fun T => rfl
  obtain ⟨a, S, e, rfl⟩ := key.out
  exact ⟨S, e⟩
end
end DE
namespace DE
open PySem PySem.Spec PyProof.Rows L2
abbrev Rw : PySem.W.OpenRow := PySem.W.OpenLaw.row PySem.Challenge.rw_knownahead_k29_whole_known_inputs
abbrev hk : PySem.W.Hook := hookE 4 tb.fa fn tb.ex
def ob (s : PySem.W.SharedT) : He.AlD := obsEG 4 tb.fa fn tb.ex (HandSHeadRun.getT s)
theorem ob_eq (s : PySem.W.SharedT) : ob s = hk.obs s.abs := obsEG_eq (HandSHeadRun.getT_eq s)
def loose : List PySem.Str := (["AheadError", "InvalidProgram", "InvalidInputs", "GREAT", "LETTERS", "MOST_LETTERS", "MOST_VALUE", "MOST_DEEP_VALUE", "MOST_EXPRESSION", "MOST_DEEP", "MOST_FUNCTIONS", "MOST_PARAMETERS", "MOST_PROGRAM", "NAME", "VALUE", "DO", "IF", "LET", "CALL", "HALT", "ONE_TAKEN", "TWO_TAKEN", "is_integer", "is_whole", "is_tuple_of", "is_text_of", "fits_name", "is_atom", "measured", "fits_value"] : List PySem.Str) ++ (["are_values", "taken_by", "is_operation", "parts_in", "fits_head", "nodes_of", "size_in", "fits_expression", "asked_in", "calls_in", "fits_function", "fits_program", "need_program", "fits_inputs", "OPEN", "is_known_pair", "fits_known", "need_pairs", "are_known", "which_known", "all_inputs", "left_inputs", "are_inputs", "_law_cup", "_law_roll", "_law_some", "_law_sort", "_law_like", "_law_value", "_law_expression"] : List PySem.Str) ++ (["_law_loop", "_law_program", "_law_inputs", "_law_known", "_law_left", "_law_is_value", "_law_are_known", "_law_bent", "_law_right", "_law_written_right"] : List PySem.Str)
theorem run (w : World) : HandSHeadRun.RunEq Rw (PySem.W.view Rw.prog [75]) hk ob 20000 loose w := by
  intro os
  kernel_rfl
theorem t_is_integer : EntC tb FT e_is_integer (mkD "is_integer" 24) := ⟨by kernel_rfl, by kernel_rfl, rfl, rfl, rfl, rfl⟩
theorem t_is_whole : EntC tb FT e_is_whole (mkD "is_whole" 25) := ⟨by kernel_rfl, by kernel_rfl, rfl, rfl, rfl, rfl⟩
theorem t_is_tuple_of : EntC tb FT e_is_tuple_of (mkD "is_tuple_of" 26) := ⟨by kernel_rfl, by kernel_rfl, rfl, rfl, rfl, rfl⟩
theorem t_is_text_of : EntC tb FT e_is_text_of (mkD "is_text_of" 27) := ⟨by kernel_rfl, by kernel_rfl, rfl, rfl, rfl, rfl⟩
theorem t_fits_name : EntC tb FT e_fits_name (mkD "fits_name" 28) := ⟨by kernel_rfl, by kernel_rfl, rfl, rfl, rfl, rfl⟩
theorem t_is_atom : EntC tb FT e_is_atom (mkD "is_atom" 29) := ⟨by kernel_rfl, by kernel_rfl, rfl, rfl, rfl, rfl⟩
theorem t_measured : EntC tb FT e_measured (mkD "measured" 30) := ⟨by kernel_rfl, by kernel_rfl, rfl, rfl, rfl, rfl⟩
theorem t_fits_value : EntC tb FT e_fits_value (mkD "fits_value" 31) := ⟨by kernel_rfl, by kernel_rfl, rfl, rfl, rfl, rfl⟩
theorem t_are_values : EntC tb FT e_are_values (mkD "are_values" 32) := ⟨by kernel_rfl, by kernel_rfl, rfl, rfl, rfl, rfl⟩
theorem t_taken_by : EntC tb FT e_taken_by (mkD "taken_by" 33) := ⟨by kernel_rfl, by kernel_rfl, rfl, rfl, rfl, rfl⟩
theorem t_is_operation : EntC tb FT e_is_operation (mkD "is_operation" 34) := ⟨by kernel_rfl, by kernel_rfl, rfl, rfl, rfl, rfl⟩
theorem t_parts_in : EntC tb FT e_parts_in (mkD "parts_in" 35) := ⟨by kernel_rfl, by kernel_rfl, rfl, rfl, rfl, rfl⟩
theorem t_fits_head : EntC tb FT e_fits_head (mkD "fits_head" 36) := ⟨by kernel_rfl, by kernel_rfl, rfl, rfl, rfl, rfl⟩
theorem t_nodes_of : EntC tb FT e_nodes_of (mkD "nodes_of" 37) := ⟨by kernel_rfl, by kernel_rfl, rfl, rfl, rfl, rfl⟩
theorem t_size_in : EntC tb FT e_size_in (mkD "size_in" 38) := ⟨by kernel_rfl, by kernel_rfl, rfl, rfl, rfl, rfl⟩
theorem t_fits_expression : EntC tb FT e_fits_expression (mkD "fits_expression" 39) := ⟨by kernel_rfl, by kernel_rfl, rfl, rfl, rfl, rfl⟩
theorem t_asked_in : EntC tb FT e_asked_in (mkD "asked_in" 40) := ⟨by kernel_rfl, by kernel_rfl, rfl, rfl, rfl, rfl⟩
theorem t_calls_in : EntC tb FT e_calls_in (mkD "calls_in" 41) := ⟨by kernel_rfl, by kernel_rfl, rfl, rfl, rfl, rfl⟩
theorem t_fits_function : EntC tb FT e_fits_function (mkD "fits_function" 42) := ⟨by kernel_rfl, by kernel_rfl, rfl, rfl, rfl, rfl⟩
theorem t_fits_program : EntC tb FT e_fits_program (mkD "fits_program" 43) := ⟨by kernel_rfl, by kernel_rfl, rfl, rfl, rfl, rfl⟩
theorem t_need_program : EntC tb FT e_need_program (mkD "need_program" 44) := ⟨by kernel_rfl, by kernel_rfl, rfl, rfl, rfl, rfl⟩
theorem t_fits_inputs : EntC tb FT e_fits_inputs (mkD "fits_inputs" 45) := ⟨by kernel_rfl, by kernel_rfl, rfl, rfl, rfl, rfl⟩
theorem t_is_known_pair : EntC tb FT e_is_known_pair (mkD "is_known_pair" 48) := ⟨by kernel_rfl, by kernel_rfl, rfl, rfl, rfl, rfl⟩
theorem t_fits_known : EntC tb FT e_fits_known (mkD "fits_known" 49) := ⟨by kernel_rfl, by kernel_rfl, rfl, rfl, rfl, rfl⟩
theorem t_need_pairs : EntC tb FT e_need_pairs (mkD "need_pairs" 50) := ⟨by kernel_rfl, by kernel_rfl, rfl, rfl, rfl, rfl⟩
theorem t_are_known : EntC tb FT e_are_known (mkD "are_known" 51) := ⟨by kernel_rfl, by kernel_rfl, rfl, rfl, rfl, rfl⟩
theorem t_which_known : EntC tb FT e_which_known (mkD "which_known" 52) := ⟨by kernel_rfl, by kernel_rfl, rfl, rfl, rfl, rfl⟩
theorem t_all_inputs : EntC tb FT e_all_inputs (mkD "all_inputs" 53) := ⟨by kernel_rfl, by kernel_rfl, rfl, rfl, rfl, rfl⟩
theorem t_left_inputs : EntC tb FT e_left_inputs (mkD "left_inputs" 54) := ⟨by kernel_rfl, by kernel_rfl, rfl, rfl, rfl, rfl⟩
theorem t_are_inputs : EntC tb FT e_are_inputs (mkD "are_inputs" 56) := ⟨by kernel_rfl, by kernel_rfl, rfl, rfl, rfl, rfl⟩
theorem t__law_cup : EntC tb FT e__law_cup (mkD "_law_cup" 58) := ⟨by kernel_rfl, by kernel_rfl, rfl, rfl, rfl, rfl⟩
theorem t__law_roll : EntC tb FT e__law_roll (mkD "_law_roll" 59) := ⟨by kernel_rfl, by kernel_rfl, rfl, rfl, rfl, rfl⟩
theorem t__law_some : EntC tb FT e__law_some (mkD "_law_some" 60) := ⟨by kernel_rfl, by kernel_rfl, rfl, rfl, rfl, rfl⟩
theorem t__law_sort : EntC tb FT e__law_sort (mkD "_law_sort" 61) := ⟨by kernel_rfl, by kernel_rfl, rfl, rfl, rfl, rfl⟩
theorem t__law_like : EntC tb FT e__law_like (mkD "_law_like" 62) := ⟨by kernel_rfl, by kernel_rfl, rfl, rfl, rfl, rfl⟩
theorem t__law_value : EntC tb FT e__law_value (mkD "_law_value" 63) := ⟨by kernel_rfl, by kernel_rfl, rfl, rfl, rfl, rfl⟩
theorem t__law_expression : EntC tb FT e__law_expression (mkD "_law_expression" 64) := ⟨by kernel_rfl, by kernel_rfl, rfl, rfl, rfl, rfl⟩
theorem t__law_loop : EntC tb FT e__law_loop (mkD "_law_loop" 65) := ⟨by kernel_rfl, by kernel_rfl, rfl, rfl, rfl, rfl⟩
theorem t__law_program : EntC tb FT e__law_program (mkD "_law_program" 66) := ⟨by kernel_rfl, by kernel_rfl, rfl, rfl, rfl, rfl⟩
theorem t__law_inputs : EntC tb FT e__law_inputs (mkD "_law_inputs" 67) := ⟨by kernel_rfl, by kernel_rfl, rfl, rfl, rfl, rfl⟩
theorem t__law_known : EntC tb FT e__law_known (mkD "_law_known" 68) := ⟨by kernel_rfl, by kernel_rfl, rfl, rfl, rfl, rfl⟩
theorem t__law_left : EntC tb FT e__law_left (mkD "_law_left" 69) := ⟨by kernel_rfl, by kernel_rfl, rfl, rfl, rfl, rfl⟩
theorem t__law_is_value : EntC tb FT e__law_is_value (mkD "_law_is_value" 70) := ⟨by kernel_rfl, by kernel_rfl, rfl, rfl, rfl, rfl⟩
theorem t__law_are_known : EntC tb FT e__law_are_known (mkD "_law_are_known" 71) := ⟨by kernel_rfl, by kernel_rfl, rfl, rfl, rfl, rfl⟩
theorem t__law_bent : EntC tb FT e__law_bent (mkD "_law_bent" 72) := ⟨by kernel_rfl, by kernel_rfl, rfl, rfl, rfl, rfl⟩
theorem t__law_right : EntC tb FT e__law_right (mkD "_law_right" 73) := ⟨by kernel_rfl, by kernel_rfl, rfl, rfl, rfl, rfl⟩
theorem t__law_written_right : EntC tb FT e__law_written_right (mkD "_law_written_right" 74) := ⟨by kernel_rfl, by kernel_rfl, rfl, rfl, rfl, rfl⟩
theorem t_law : EntC tb FT e_law (mkD "law" 75) := ⟨by kernel_rfl, by kernel_rfl, rfl, rfl, rfl, rfl⟩
theorem ents_ok : ∀ e ∈ ents, (e.name, e.code) ∈ tb.ds ∧ ∃ (i : Nat) (d : He.DefD), fn[i]? = some d ∧ EntC tb FT e d := by
  intro e he
  unfold ents at he
  simp only [List.mem_cons, List.not_mem_nil, or_false] at he
  rcases he with rfl | rfl | rfl | rfl | rfl | rfl | rfl | rfl | rfl | rfl | rfl | rfl | rfl | rfl | rfl | rfl | rfl | rfl | rfl | rfl | rfl | rfl | rfl | rfl | rfl | rfl | rfl | rfl | rfl | rfl | rfl | rfl | rfl | rfl | rfl | rfl | rfl | rfl | rfl | rfl | rfl | rfl | rfl | rfl | rfl | rfl | rfl | rfl
  · exact ⟨List.mem_of_getElem? (i := 0) rfl, 0, _, rfl, t_is_integer⟩
  · exact ⟨List.mem_of_getElem? (i := 1) rfl, 1, _, rfl, t_is_whole⟩
  · exact ⟨List.mem_of_getElem? (i := 2) rfl, 2, _, rfl, t_is_tuple_of⟩
  · exact ⟨List.mem_of_getElem? (i := 3) rfl, 3, _, rfl, t_is_text_of⟩
  · exact ⟨List.mem_of_getElem? (i := 4) rfl, 4, _, rfl, t_fits_name⟩
  · exact ⟨List.mem_of_getElem? (i := 5) rfl, 5, _, rfl, t_is_atom⟩
  · exact ⟨List.mem_of_getElem? (i := 6) rfl, 6, _, rfl, t_measured⟩
  · exact ⟨List.mem_of_getElem? (i := 7) rfl, 7, _, rfl, t_fits_value⟩
  · exact ⟨List.mem_of_getElem? (i := 8) rfl, 8, _, rfl, t_are_values⟩
  · exact ⟨List.mem_of_getElem? (i := 9) rfl, 9, _, rfl, t_taken_by⟩
  · exact ⟨List.mem_of_getElem? (i := 10) rfl, 10, _, rfl, t_is_operation⟩
  · exact ⟨List.mem_of_getElem? (i := 11) rfl, 11, _, rfl, t_parts_in⟩
  · exact ⟨List.mem_of_getElem? (i := 12) rfl, 12, _, rfl, t_fits_head⟩
  · exact ⟨List.mem_of_getElem? (i := 13) rfl, 13, _, rfl, t_nodes_of⟩
  · exact ⟨List.mem_of_getElem? (i := 14) rfl, 14, _, rfl, t_size_in⟩
  · exact ⟨List.mem_of_getElem? (i := 15) rfl, 15, _, rfl, t_fits_expression⟩
  · exact ⟨List.mem_of_getElem? (i := 16) rfl, 16, _, rfl, t_asked_in⟩
  · exact ⟨List.mem_of_getElem? (i := 17) rfl, 17, _, rfl, t_calls_in⟩
  · exact ⟨List.mem_of_getElem? (i := 18) rfl, 18, _, rfl, t_fits_function⟩
  · exact ⟨List.mem_of_getElem? (i := 19) rfl, 19, _, rfl, t_fits_program⟩
  · exact ⟨List.mem_of_getElem? (i := 20) rfl, 20, _, rfl, t_need_program⟩
  · exact ⟨List.mem_of_getElem? (i := 21) rfl, 21, _, rfl, t_fits_inputs⟩
  · exact ⟨List.mem_of_getElem? (i := 22) rfl, 22, _, rfl, t_is_known_pair⟩
  · exact ⟨List.mem_of_getElem? (i := 23) rfl, 23, _, rfl, t_fits_known⟩
  · exact ⟨List.mem_of_getElem? (i := 24) rfl, 24, _, rfl, t_need_pairs⟩
  · exact ⟨List.mem_of_getElem? (i := 25) rfl, 25, _, rfl, t_are_known⟩
  · exact ⟨List.mem_of_getElem? (i := 26) rfl, 26, _, rfl, t_which_known⟩
  · exact ⟨List.mem_of_getElem? (i := 27) rfl, 27, _, rfl, t_all_inputs⟩
  · exact ⟨List.mem_of_getElem? (i := 28) rfl, 28, _, rfl, t_left_inputs⟩
  · exact ⟨List.mem_of_getElem? (i := 29) rfl, 29, _, rfl, t_are_inputs⟩
  · exact ⟨List.mem_of_getElem? (i := 30) rfl, 30, _, rfl, t__law_cup⟩
  · exact ⟨List.mem_of_getElem? (i := 31) rfl, 31, _, rfl, t__law_roll⟩
  · exact ⟨List.mem_of_getElem? (i := 32) rfl, 32, _, rfl, t__law_some⟩
  · exact ⟨List.mem_of_getElem? (i := 33) rfl, 33, _, rfl, t__law_sort⟩
  · exact ⟨List.mem_of_getElem? (i := 34) rfl, 34, _, rfl, t__law_like⟩
  · exact ⟨List.mem_of_getElem? (i := 35) rfl, 35, _, rfl, t__law_value⟩
  · exact ⟨List.mem_of_getElem? (i := 36) rfl, 36, _, rfl, t__law_expression⟩
  · exact ⟨List.mem_of_getElem? (i := 37) rfl, 37, _, rfl, t__law_loop⟩
  · exact ⟨List.mem_of_getElem? (i := 38) rfl, 38, _, rfl, t__law_program⟩
  · exact ⟨List.mem_of_getElem? (i := 39) rfl, 39, _, rfl, t__law_inputs⟩
  · exact ⟨List.mem_of_getElem? (i := 40) rfl, 40, _, rfl, t__law_known⟩
  · exact ⟨List.mem_of_getElem? (i := 41) rfl, 41, _, rfl, t__law_left⟩
  · exact ⟨List.mem_of_getElem? (i := 42) rfl, 42, _, rfl, t__law_is_value⟩
  · exact ⟨List.mem_of_getElem? (i := 43) rfl, 43, _, rfl, t__law_are_known⟩
  · exact ⟨List.mem_of_getElem? (i := 44) rfl, 44, _, rfl, t__law_bent⟩
  · exact ⟨List.mem_of_getElem? (i := 45) rfl, 45, _, rfl, t__law_right⟩
  · exact ⟨List.mem_of_getElem? (i := 46) rfl, 46, _, rfl, t__law_written_right⟩
  · exact ⟨List.mem_of_getElem? (i := 47) rfl, 47, _, rfl, t_law⟩
theorem ds_ok : ∀ p ∈ tb.ds, ∃ e ∈ ents, e.name = p.1 ∧ e.code = p.2 := by
  intro p hp
  have hp : p ∈ ds := hp
  unfold ds at hp
  simp only [List.mem_cons, List.not_mem_nil, or_false] at hp
  rcases hp with rfl | rfl | rfl | rfl | rfl | rfl | rfl | rfl | rfl | rfl | rfl | rfl | rfl | rfl | rfl | rfl | rfl | rfl | rfl | rfl | rfl | rfl | rfl | rfl | rfl | rfl | rfl | rfl | rfl | rfl | rfl | rfl | rfl | rfl | rfl | rfl | rfl | rfl | rfl | rfl | rfl | rfl | rfl | rfl | rfl | rfl | rfl | rfl
  · exact ⟨e_is_integer, List.mem_of_getElem? (i := 0) rfl, rfl, rfl⟩
  · exact ⟨e_is_whole, List.mem_of_getElem? (i := 1) rfl, rfl, rfl⟩
  · exact ⟨e_is_tuple_of, List.mem_of_getElem? (i := 2) rfl, rfl, rfl⟩
  · exact ⟨e_is_text_of, List.mem_of_getElem? (i := 3) rfl, rfl, rfl⟩
  · exact ⟨e_fits_name, List.mem_of_getElem? (i := 4) rfl, rfl, rfl⟩
  · exact ⟨e_is_atom, List.mem_of_getElem? (i := 5) rfl, rfl, rfl⟩
  · exact ⟨e_measured, List.mem_of_getElem? (i := 6) rfl, rfl, rfl⟩
  · exact ⟨e_fits_value, List.mem_of_getElem? (i := 7) rfl, rfl, rfl⟩
  · exact ⟨e_are_values, List.mem_of_getElem? (i := 8) rfl, rfl, rfl⟩
  · exact ⟨e_taken_by, List.mem_of_getElem? (i := 9) rfl, rfl, rfl⟩
  · exact ⟨e_is_operation, List.mem_of_getElem? (i := 10) rfl, rfl, rfl⟩
  · exact ⟨e_parts_in, List.mem_of_getElem? (i := 11) rfl, rfl, rfl⟩
  · exact ⟨e_fits_head, List.mem_of_getElem? (i := 12) rfl, rfl, rfl⟩
  · exact ⟨e_nodes_of, List.mem_of_getElem? (i := 13) rfl, rfl, rfl⟩
  · exact ⟨e_size_in, List.mem_of_getElem? (i := 14) rfl, rfl, rfl⟩
  · exact ⟨e_fits_expression, List.mem_of_getElem? (i := 15) rfl, rfl, rfl⟩
  · exact ⟨e_asked_in, List.mem_of_getElem? (i := 16) rfl, rfl, rfl⟩
  · exact ⟨e_calls_in, List.mem_of_getElem? (i := 17) rfl, rfl, rfl⟩
  · exact ⟨e_fits_function, List.mem_of_getElem? (i := 18) rfl, rfl, rfl⟩
  · exact ⟨e_fits_program, List.mem_of_getElem? (i := 19) rfl, rfl, rfl⟩
  · exact ⟨e_need_program, List.mem_of_getElem? (i := 20) rfl, rfl, rfl⟩
  · exact ⟨e_fits_inputs, List.mem_of_getElem? (i := 21) rfl, rfl, rfl⟩
  · exact ⟨e_is_known_pair, List.mem_of_getElem? (i := 22) rfl, rfl, rfl⟩
  · exact ⟨e_fits_known, List.mem_of_getElem? (i := 23) rfl, rfl, rfl⟩
  · exact ⟨e_need_pairs, List.mem_of_getElem? (i := 24) rfl, rfl, rfl⟩
  · exact ⟨e_are_known, List.mem_of_getElem? (i := 25) rfl, rfl, rfl⟩
  · exact ⟨e_which_known, List.mem_of_getElem? (i := 26) rfl, rfl, rfl⟩
  · exact ⟨e_all_inputs, List.mem_of_getElem? (i := 27) rfl, rfl, rfl⟩
  · exact ⟨e_left_inputs, List.mem_of_getElem? (i := 28) rfl, rfl, rfl⟩
  · exact ⟨e_are_inputs, List.mem_of_getElem? (i := 29) rfl, rfl, rfl⟩
  · exact ⟨e__law_cup, List.mem_of_getElem? (i := 30) rfl, rfl, rfl⟩
  · exact ⟨e__law_roll, List.mem_of_getElem? (i := 31) rfl, rfl, rfl⟩
  · exact ⟨e__law_some, List.mem_of_getElem? (i := 32) rfl, rfl, rfl⟩
  · exact ⟨e__law_sort, List.mem_of_getElem? (i := 33) rfl, rfl, rfl⟩
  · exact ⟨e__law_like, List.mem_of_getElem? (i := 34) rfl, rfl, rfl⟩
  · exact ⟨e__law_value, List.mem_of_getElem? (i := 35) rfl, rfl, rfl⟩
  · exact ⟨e__law_expression, List.mem_of_getElem? (i := 36) rfl, rfl, rfl⟩
  · exact ⟨e__law_loop, List.mem_of_getElem? (i := 37) rfl, rfl, rfl⟩
  · exact ⟨e__law_program, List.mem_of_getElem? (i := 38) rfl, rfl, rfl⟩
  · exact ⟨e__law_inputs, List.mem_of_getElem? (i := 39) rfl, rfl, rfl⟩
  · exact ⟨e__law_known, List.mem_of_getElem? (i := 40) rfl, rfl, rfl⟩
  · exact ⟨e__law_left, List.mem_of_getElem? (i := 41) rfl, rfl, rfl⟩
  · exact ⟨e__law_is_value, List.mem_of_getElem? (i := 42) rfl, rfl, rfl⟩
  · exact ⟨e__law_are_known, List.mem_of_getElem? (i := 43) rfl, rfl, rfl⟩
  · exact ⟨e__law_bent, List.mem_of_getElem? (i := 44) rfl, rfl, rfl⟩
  · exact ⟨e__law_right, List.mem_of_getElem? (i := 45) rfl, rfl, rfl⟩
  · exact ⟨e__law_written_right, List.mem_of_getElem? (i := 46) rfl, rfl, rfl⟩
  · exact ⟨e_law, List.mem_of_getElem? (i := 47) rfl, rfl, rfl⟩
end DE
open PySem PySem.W PySem.Calls PyProof.Rows
theorem PySem.Challenge.cw_knownahead_k29_whole_known_inputs_holds : PySem.Challenge.rw_knownahead_k29_whole_known_inputs.Holds := by
  w_on; o_law
  refine HandSHeadRun.head_any (r := DE.Rw) (q := view DE.Rw.prog [75]) (H := DE.hk) (ob := DE.ob) (M := 20000) (loose := DE.loose) (d := HandSHeadRun.topDef DE.Rw.prog 75) (kwd := []) DE.ob_eq
    (by kernel_rfl) (fun s => by kernel_rfl) DE.run (by kernel_rfl) (by kernel_rfl) (by kernel_rfl) (by rfl) (by first | assumption | decide +kernel) (by decide +kernel) ⟨rfl, rfl, rfl, rfl, rfl, by decide +kernel⟩ ?hw ?hc
  case hw => w_witness2
  case hc =>
    refine L2.walk_ofE (l := PySem.Challenge.rw_knownahead_k29_whole_known_inputs) (n := 63) (k := DE.deepest) (x := "script") (CX := DE.CXw (PySem.Challenge.rw_knownahead_k29_whole_known_inputs).prog) rfl (by decide) (by kernel_rfl) ⟨rfl, by decide, by decide⟩ ?F (fun H s e s' z => DE.cxw_no H s e s' z)
    intro w mg fa h Y G hmg0
    obtain ⟨K, KX, says⟩ := Y
    have hmg : mg DE.e_law.name = some (.ref fa) := by
      rw [← show (HandSHeadRun.topDef DE.Rw.prog 75).name = DE.e_law.name by kernel_rfl]
      exact hmg0
    obtain ⟨fd, sp, hb, hs, hF⟩ := DE.law_facts (P := (PySem.Challenge.rw_knownahead_k29_whole_known_inputs).prog) (w := w) (e := DE.e_law) (k := DE.deepest) KX G says DE.ents_ok DE.ds_ok (List.mem_of_getElem? (i := 47) rfl) rfl hmg DE.law_true
    exact ⟨K, fd, sp, KX, hb, hs, fun base _ _ => hF base⟩
