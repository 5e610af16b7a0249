import PyProof.Rows.All
import Wide.All
import OpenK.AllK
import Wide.FinOn
import KE.KStateDown
import HandS.ForMost
import HandS.Style
import HandS.TupAny
import HandS.NoneIn
import HandS.IsInst
import HandS.DictTup
import HandS.Strs
import HandS.SetKeys
import PyProof.DictMoreH
import HandS.More
import HandS.SortKw
import HandS.DictComp
import HandS.HeadHook4
import KE.GoesEnum
import KE.GoesMore
import HandS.TupLen
import HandS.Keys
import KE.KSortKey
import HandS.Head0
import HandS.Head1
import HandS.Head2
import HandS.HeadEnd
import PySem.Challenge.RW_ziggurat_k15_long_runs
/-! ZBase: the abstract machine. Values AV (tuples are trees), heap AH (lists, dicts, instances), combinators. Plain Lean. -/
namespace Zg

/-- a value: sym l is an unknown int, l the coefficients of a linear form, str c a text by its code, tup a tuple that the run has made, ktup one of the written part, ref i an object of the abstract heap, any a value of which nothing is known -/
inductive AV where
  | non | bl (b : Bool) | int (i : Int) | sym (l : List Int) | str (c : Nat) | tup (ts : List AV) | ktup (ts : List AV) | ref (i : Nat) | any

abbrev AKey := Sum Int Nat

/-- an object: a list, a dict by ints and texts, a dict by tuples of such, an instance (class number, fields in the order of their first store), a list that is only read, a list of whose lower part nothing is known here but its number -/
inductive AO where
  | lst (xs : List AV)
  | dK (kvs : List (AKey × AV))
  | dT (kvs : List (List AKey × AV))
  | ins (c : Nat) (vs : List AV)
  | fz (xs : List AV)
  | stk (k : Nat) (xs : List AV)

inductive Tr where
  | nil
  | nd (v : Option AO) (l r : Tr)

def odd (n : Nat) : Bool := (n % 2).beq 1
def Tr.get : Tr → Nat → Option AO
  | .nil, _ => none
  | .nd v _ _, 0 => v
  | .nd _ l r, j + 1 => cond (odd j) (r.get (j / 2)) (l.get (j / 2))
def Tr.one : Nat → Nat → AO → Tr
  | 0, _, o => .nd (some o) .nil .nil
  | _ + 1, 0, o => .nd (some o) .nil .nil
  | f + 1, j + 1, o => cond (odd j) (.nd none .nil (Tr.one f (j / 2) o)) (.nd none (Tr.one f (j / 2) o) .nil)
def Tr.set : Tr → Nat → AO → Tr
  | .nil, k, o => Tr.one k k o
  | .nd _ l r, 0, o => .nd (some o) l r
  | .nd v l r, j + 1, o => cond (odd j) (.nd v l (r.set (j / 2) o)) (.nd v (l.set (j / 2) o) r)
def Tr.del : Tr → Nat → Tr
  | .nil, _ => .nil
  | .nd _ l r, 0 => .nd none l r
  | .nd v l r, j + 1 => cond (odd j) (.nd v l (r.del (j / 2))) (.nd v (l.del (j / 2)) r)

structure AH where
  n : Nat
  t : Tr
def AH.get (A : AH) (i : Nat) : Option AO := A.t.get i
def AH.set (A : AH) (i : Nat) (o : AO) : AH := ⟨A.n, A.t.set i o⟩
def AH.del (A : AH) (i : Nat) : AH := ⟨A.n, A.t.del i⟩
def AH.new (A : AH) (o : AO) : AH := ⟨A.n + 1, A.t.set A.n o⟩
def emp : AH := ⟨0, .nil⟩

abbrev SA := List (Option AV)
abbrev ME := SA → AH → Option (AV × AH)
abbrev MT := SA → AH → Option (Bool × AH)
abbrev MA := SA → AH → Option (List AV × AH)
abbrev MF := List AV → AH → Option (AV × AH)
inductive Fl where
  | nx | rt (v : AV) | bk | ct
abbrev MS := SA → AH → Option (Fl × SA × AH)

def bnd {α β : Type} (o : Option (α × AH)) (f : α → AH → Option β) : Option β := match o with
  | none => none
  | some (a, A) => f a A

/-! ### small functions on data -/
def line : Nat := 10000000
def ieq : Int → Int → Bool
  | .ofNat a, .ofNat b => a.beq b
  | .negSucc a, .negSucc b => a.beq b
  | _, _ => false
def ile : Int → Int → Bool
  | .ofNat a, .ofNat b => a.ble b
  | .negSucc a, .negSucc b => b.ble a
  | .negSucc _, .ofNat _ => true
  | .ofNat _, .negSucc _ => false
def ilt (i j : Int) : Bool := !ile j i
def keq : AKey → AKey → Bool
  | .inl a, .inl b => ieq a b
  | .inr a, .inr b => a.beq b
  | _, _ => false
def kseq : List AKey → List AKey → Bool
  | [], [] => true
  | a :: r, b :: s => keq a b && kseq r s
  | _, _ => false
/-- == of flat values: none where the model has no answer here -/
def eqS : AV → AV → Option Bool
  | .non, .non => some true
  | .non, .int _ => some false
  | .non, .str _ => some false
  | .non, .bl _ => some false
  | .int _, .non => some false
  | .str _, .non => some false
  | .bl _, .non => some false
  | .int a, .int b => some (ieq a b)
  | .bl a, .bl b => some (a == b)
  | .str a, .str b => some (a.beq b)
  | .int _, .str _ => some false
  | .str _, .int _ => some false
  | .bl _, .str _ => some false
  | .str _, .bl _ => some false
  | _, _ => none
/-- data of ints, texts, tuples, not too deep -/
def okD : Nat → AV → Bool
  | _, .int _ => true
  | _, .str _ => true
  | k + 1, .tup ts => ts.all (okD k)
  | _, _ => false
mutual
def beqD : AV → AV → Bool
  | .int a, y => match y with
    | .int b => ieq a b
    | _ => false
  | .str a, y => match y with
    | .str b => a.beq b
    | _ => false
  | .tup xs, y => match y with
    | .tup ys => beqDs xs ys
    | _ => false
  | _, _ => false
def beqDs : List AV → List AV → Bool
  | [], ys => ys.isEmpty
  | x :: xs, ys => match ys with
    | y :: ys => beqD x y && beqDs xs ys
    | [] => false
end
/-- == of such data -/
def eqD (x y : AV) : Option Bool := cond (okD 60 x && okD 60 y) (some (beqD x y)) none
def atA {α : Type} (xs : List α) (i : Int) : Option α := match i with
  | .ofNat k => xs[k]?
  | .negSucc k => if k < xs.length then xs[xs.length - 1 - k]? else none
def keyA : AV → Option AKey
  | .int i => some (.inl i)
  | .str c => some (.inr c)
  | _ => none
def keysA : List AV → Option (List AKey)
  | [] => some []
  | v :: vs => match keyA v, keysA vs with
    | some k, some ks => some (k :: ks)
    | _, _ => none
def lookK : List (AKey × AV) → AKey → Option AV
  | [], _ => none
  | (j, v) :: r, k => cond (keq j k) (some v) (lookK r k)
def hasK (kvs : List (AKey × AV)) (k : AKey) : Bool := (lookK kvs k).isSome
def replK (k : AKey) (v : AV) : List (AKey × AV) → List (AKey × AV)
  | [] => []
  | (j, u) :: r => cond (keq j k) ((j, v) :: replK k v r) ((j, u) :: replK k v r)
def putA (kvs : List (AKey × AV)) (k : AKey) (v : AV) : List (AKey × AV) := cond (hasK kvs k) (replK k v kvs) (kvs ++ [(k, v)])
def lookT : List (List AKey × AV) → List AKey → Option AV
  | [], _ => none
  | (j, v) :: r, k => cond (kseq j k) (some v) (lookT r k)
def hasT (kvs : List (List AKey × AV)) (k : List AKey) : Bool := (lookT kvs k).isSome
def replT (k : List AKey) (v : AV) : List (List AKey × AV) → List (List AKey × AV)
  | [] => []
  | (j, u) :: r => cond (kseq j k) ((j, v) :: replT k v r) ((j, u) :: replT k v r)
def putT (kvs : List (List AKey × AV)) (k : List AKey) (v : AV) : List (List AKey × AV) := cond (hasT kvs k) (replT k v kvs) (kvs ++ [(k, v)])
def dropT (kvs : List (List AKey × AV)) (k : List AKey) : List (List AKey × AV) := kvs.filter fun q => !kseq q.1 k
/-- a list of ints, in order -/
def insI (i : Int) : List Int → List Int
  | [] => [i]
  | j :: r => cond (ile i j) (i :: j :: r) (j :: insI i r)
def sortI : List Int → List Int
  | [] => []
  | i :: r => insI i (sortI r)
def intsA : List AV → Option (List Int)
  | [] => some []
  | .int i :: r => match intsA r with
    | some s => some (i :: s)
    | none => none
  | _ => none

/-! ### linear forms: the coefficients of 1, of two ints, of natural numbers -/
def ladd : List Int → List Int → List Int
  | [], b => b
  | a, [] => a
  | x :: a, y :: b => (x + y) :: ladd a b
def lscl (c : Int) (a : List Int) : List Int := a.map (c * ·)
def lsub (a b : List Int) : List Int := ladd a (lscl (-1) b)
/-- no coefficient below 0, none of the first two -/
def tailL : List Int → Bool
  | [] => true
  | x :: r => ieq x 0 && match r with
    | [] => true
    | y :: r => ieq y 0 && r.all (ile 0)
def posL : List Int → Bool
  | [] => false
  | c :: r => ile 1 c && tailL r
def nnL : List Int → Bool
  | [] => true
  | c :: r => ile 0 c && tailL r
def numL : AV → Option (List Int)
  | .int i => some [i]
  | .sym l => some l
  | _ => none
/-- a < b -/
def ltL (a b : List Int) : Option Bool := cond (posL (lsub b a)) (some true) (cond (nnL (lsub a b)) (some false) none)
def neL (a b : List Int) : Bool := posL (lsub b a) || posL (lsub a b)

/-! ### texts by codes: bijective numeration to the base 128 -/
def codeLen : Nat → Nat → Nat
  | 0, _ => 0
  | _ + 1, 0 => 0
  | f + 1, c + 1 => codeLen f (c / 128) + 1
def catC (a b : Nat) : Nat := a * 128 ^ codeLen b b + b
/-- the code of a natural number's decimal text -/
def decC : Nat → Nat → Nat
  | 0, n => n % 10 + 48
  | f + 1, n => cond (n.blt 10) (n + 48) (decC f (n / 10) * 128 + (n % 10 + 48))

/-! ### expressions -/
def mVar (i : Nat) : ME := fun s A => match s[i]? with
  | some (some v) => some (v, A)
  | _ => none
def mC (v : AV) : ME := fun _ A => some (v, A)
def mOp (f : AV → AV → AH → Option (AV × AH)) (a b : ME) : ME := fun s A => bnd (a s A) fun x A1 => bnd (b s A1) fun y A2 => f x y A2
def mUn (f : AV → AH → Option (AV × AH)) (a : ME) : ME := fun s A => bnd (a s A) fun x A1 => f x A1
def mNil : MA := fun _ A => some ([], A)
def mCons (a : ME) (r : MA) : MA := fun s A => bnd (a s A) fun x A1 => bnd (r s A1) fun xs A2 => some (x :: xs, A2)
def mTup (r : MA) : ME := fun s A => bnd (r s A) fun xs A1 => cond (xs.length.blt line) (some (.tup xs, A1)) none
def mLst (r : MA) : ME := fun s A => bnd (r s A) fun xs A1 => cond (xs.length.blt line) (some (.ref A1.n, A1.new (.lst xs))) none
def mDictK : ME := fun _ A => some (.ref A.n, A.new (.dK []))
def mDictT : ME := fun _ A => some (.ref A.n, A.new (.dT []))
def mFld (a : ME) (c i : Nat) : ME := fun s A => bnd (a s A) fun x A1 => match x with
  | .ref r => match A1.get r with
    | some (.ins d vs) => cond (d.beq c) (match vs[i]? with
      | some v => some (v, A1)
      | none => none) none
    | _ => none
  | _ => none
def mCall (f : MF) (r : MA) : ME := fun s A => bnd (r s A) fun xs A1 => f xs A1
/-- o.m(..), o an instance of the class c -/
def mMeth (c : Nat) (f : MF) (o : ME) (r : MA) : ME := fun s A => bnd (o s A) fun x A1 => match x with
  | .ref a => match A1.get a with
    | some (.ins d _) => cond (d.beq c) (bnd (r s A1) fun xs A2 => f (x :: xs) A2) none
    | _ => none
  | _ => none
/-- C(..): a new instance, then its __init__ -/
def mMake (c : Nat) (f : MF) (r : MA) : ME := fun s A => bnd (r s A) fun xs A1 => bnd (f (.ref A1.n :: xs) (A1.new (.ins c []))) fun v A2 => match v with
  | .non => some (.ref A1.n, A2)
  | _ => none
def mIfE (t : MT) (a b : ME) : ME := fun s A => bnd (t s A) fun k A1 => cond k (a s A1) (b s A1)
/-! ### tests -/
def mB (a : ME) : MT := fun s A => bnd (a s A) fun x A1 => match x with
  | .bl k => some (k, A1)
  | _ => none
/-- the truth of a list -/
def mTru (a : ME) : MT := fun s A => bnd (a s A) fun x A1 => match x with
  | .ref r => match A1.get r with
    | some (.lst xs) => some (!xs.isEmpty, A1)
    | some (.stk k xs) => cond (xs.isEmpty && !k.beq 1) none (some (true, A1))
    | _ => none
  | _ => none
def mAnd (a b : MT) : MT := fun s A => bnd (a s A) fun k A1 => cond k (b s A1) (some (false, A1))
def mOr (a b : MT) : MT := fun s A => bnd (a s A) fun k A1 => cond k (some (true, A1)) (b s A1)
def mNot (a : MT) : MT := fun s A => bnd (a s A) fun k A1 => some (!k, A1)
/-- and of two tests, as a value -/
def mAndV (a b : ME) : ME := fun s A => bnd (a s A) fun x A1 => match x with
  | .bl k => cond k (b s A1) (some (.bl false, A1))
  | _ => none

/-! ### operators by values -/
def pur (o : Option AV) (A : AH) : Option (AV × AH) := match o with
  | some v => some (v, A)
  | none => none
def linO (f : List Int → List Int → List Int) (x y : AV) (A : AH) : Option (AV × AH) := match numL x, numL y with
  | some a, some b => some (.sym (f a b), A)
  | _, _ => none
def oAdd (x y : AV) (A : AH) : Option (AV × AH) := match x, y with
  | .int i, .int j => some (.int (i + j), A)
  | _, _ => linO ladd x y A
def oSub (x y : AV) (A : AH) : Option (AV × AH) := match x, y with
  | .int i, .int j => some (.int (i - j), A)
  | _, _ => linO lsub x y A
def oMul (x y : AV) (A : AH) : Option (AV × AH) := match x, y with
  | .int i, .int j => cond (i.natAbs.blt (2 ^ 64)) (some (.int (i * j), A)) none
  | _, _ => none
def oFdiv (x y : AV) (A : AH) : Option (AV × AH) := match x, y with
  | .int i, .int j => cond ((1 : Nat).ble j.toNat && j.toNat.blt 1000000000) (some (.int (i.fdiv j), A)) none
  | _, _ => none
def oMod (x y : AV) (A : AH) : Option (AV × AH) := match x, y with
  | .int i, .int j => cond ((1 : Nat).ble j.toNat) (some (.int (i.fmod j), A)) none
  | _, _ => none
def oPow (x y : AV) (A : AH) : Option (AV × AH) := match x, y with
  | .int i, .int j => cond (ile 0 j && ile j 1000000 && i.natAbs.blt (2 ^ 64)) (some (.int (i ^ j.toNat), A)) none
  | _, _ => none
/-- texts -/
def oCatS (x y : AV) (A : AH) : Option (AV × AH) := match x, y with
  | .str a, .str b => cond ((codeLen a a + codeLen b b).blt line) (some (.str (catC a b), A)) none
  | _, _ => none
/-- tuples -/
def oCatT (x y : AV) (A : AH) : Option (AV × AH) := match x, y with
  | .tup a, .tup b => cond ((a.length + b.length).blt line) (some (.tup (a ++ b), A)) none
  | _, _ => none
/-- lists: a new one -/
def oCatL (x y : AV) (A : AH) : Option (AV × AH) := match x, y with
  | .ref a, .ref b => match A.get a, A.get b with
    | some (.lst xs), some (.lst ys) => cond ((xs.length + ys.length).blt line) (some (.ref A.n, A.new (.lst (xs ++ ys)))) none
    | _, _ => none
  | _, _ => none
def repA (xs : List AV) : Nat → List AV
  | 0 => []
  | k + 1 => xs ++ repA xs k
def oRep (x y : AV) (A : AH) : Option (AV × AH) := match x, y with
  | .ref a, .int k => match A.get a with
    | some (.lst xs) => cond (k.natAbs.blt line && (xs.length * k.toNat).blt line) (some (.ref A.n, A.new (.lst (repA xs k.toNat)))) none
    | _ => none
  | _, _ => none
def linNe (x y : AV) : Bool := match numL x, numL y with
  | some a, some b => neL a b
  | _, _ => false
def oEq (x y : AV) (A : AH) : Option (AV × AH) := match eqS x y with
  | some b => some (.bl b, A)
  | none => cond (linNe x y) (some (.bl false, A)) none
def oNe (x y : AV) (A : AH) : Option (AV × AH) := match eqS x y with
  | some b => some (.bl (!b), A)
  | none => cond (linNe x y) (some (.bl true, A)) none
def oEqD (x y : AV) (A : AH) : Option (AV × AH) := match eqD x y with
  | some b => some (.bl b, A)
  | none => none
def oNeD (x y : AV) (A : AH) : Option (AV × AH) := match eqD x y with
  | some b => some (.bl (!b), A)
  | none => none
def linLt (x y : AV) (A : AH) : Option (AV × AH) := match numL x, numL y with
  | some a, some b => match ltL a b with
    | some k => some (.bl k, A)
    | none => none
  | _, _ => none
def oLt (x y : AV) (A : AH) : Option (AV × AH) := match x, y with
  | .int i, .int j => some (.bl (ilt i j), A)
  | _, _ => linLt x y A
def oGe (x y : AV) (A : AH) : Option (AV × AH) := match x, y with
  | .int i, .int j => some (.bl (ile j i), A)
  | _, _ => none
def oGt (x y : AV) (A : AH) : Option (AV × AH) := match x, y with
  | .int i, .int j => some (.bl (ilt j i), A)
  | _, _ => none
def isN : AV → Bool
  | .non => true
  | _ => false
def known : AV → Bool
  | .any => false
  | _ => true
def oIsN (x y : AV) (A : AH) : Option (AV × AH) := match y with
  | .non => cond (known x) (some (.bl (isN x), A)) none
  | _ => none
def oNotN (x y : AV) (A : AH) : Option (AV × AH) := match y with
  | .non => cond (known x) (some (.bl (!isN x), A)) none
  | _ => none
/-- x in t, t a tuple of texts, x a text -/
def inS (c : Nat) : List AV → Option Bool
  | [] => some false
  | .str d :: r => match inS c r with
    | some b => some (cond (d.beq c) true b)
    | none => none
  | _ => none
def tsOf : AV → Option (List AV)
  | .tup ts => some ts
  | .ktup ts => some ts
  | _ => none
def oInS (x y : AV) (A : AH) : Option (AV × AH) := match x, tsOf y with
  | .str c, some ts => match inS c ts with
    | some b => some (.bl b, A)
    | none => none
  | _, _ => none
def oNotInS (x y : AV) (A : AH) : Option (AV × AH) := match x, tsOf y with
  | .str c, some ts => match inS c ts with
    | some b => some (.bl (!b), A)
    | none => none
  | _, _ => none
/-- an item of a tuple, of a list -/
def oIx (x y : AV) (A : AH) : Option (AV × AH) := match x, y with
  | .tup ts, .int i => pur (atA ts i) A
  | .ktup ts, .int i => pur (atA ts i) A
  | .ref a, .int i => match A.get a with
    | some (.lst xs) => pur (atA xs i) A
    | some (.stk _ xs) => cond (ieq i (-1)) (pur xs[xs.length - 1]? A) none
    | _ => none
  | _, _ => none
/-- what a dict holds at a key -/
def getD (A : AH) (x y : AV) : Option (Option AV) := match x with
  | .ref a => match A.get a with
    | some (.dK kvs) => match keyA y with
      | some k => some (lookK kvs k)
      | none => none
    | some (.dT kvs) => match y with
      | .tup ts => match keysA ts with
        | some k => some (lookT kvs k)
        | none => none
      | _ => none
    | _ => none
  | _ => none
def oDGet (x y : AV) (A : AH) : Option (AV × AH) := match getD A x y with
  | some (some v) => some (v, A)
  | _ => none
def oDIn (y x : AV) (A : AH) : Option (AV × AH) := match getD A x y with
  | some o => some (.bl o.isSome, A)
  | none => none
def oDNotIn (y x : AV) (A : AH) : Option (AV × AH) := match getD A x y with
  | some o => some (.bl (!o.isSome), A)
  | none => none
def orN : Option AV → AV → AV
  | some v, _ => v
  | none, d => d
def isDict (A : AH) (x : AV) : Bool := match x with
  | .ref a => match A.get a with
    | some (.dK _) => true
    | some (.dT _) => true
    | _ => false
  | _ => false
/-- d.get(k), d.get(k, x) -/
def mDGet1 (d k : ME) : ME := fun s A => bnd (d s A) fun x A1 => cond (isDict A1 x) (bnd (k s A1) fun y A2 => match getD A2 x y with
  | some o => some (orN o .non, A2)
  | none => none) none
def mDGet2 (d k e : ME) : ME := fun s A => bnd (d s A) fun x A1 => cond (isDict A1 x) (bnd (k s A1) fun y A2 => bnd (e s A2) fun z A3 => match getD A3 x y with
  | some o => some (orN o z, A3)
  | none => none) none

/-! ### calls of built-ins by values -/
def cLen (xs : List AV) (A : AH) : Option (AV × AH) := match xs with
  | [.tup ts] => some (.int (Int.ofNat ts.length), A)
  | [.ref a] => match A.get a with
    | some (.lst ys) => some (.int (Int.ofNat ys.length), A)
    | _ => none
  | _ => none
/-- len of a dict -/
def cLenD (xs : List AV) (A : AH) : Option (AV × AH) := match xs with
  | [.ref a] => match A.get a with
    | some (.dK ys) => some (.int (Int.ofNat ys.length), A)
    | _ => none
  | _ => none
def cInt (xs : List AV) (A : AH) : Option (AV × AH) := match xs with
  | [.int i] => some (.int i, A)
  | [.bl b] => some (.int (cond b 1 0), A)
  | _ => none
def cStr (xs : List AV) (A : AH) : Option (AV × AH) := match xs with
  | [.int (.ofNat n)] => cond (n.blt 200) (some (.str (decC 6 n), A)) none
  | _ => none
def cList (xs : List AV) (A : AH) : Option (AV × AH) := match xs with
  | [.tup ts] => some (.ref A.n, A.new (.lst ts))
  | _ => none
def cTuple (xs : List AV) (A : AH) : Option (AV × AH) := match xs with
  | [.ref a] => match A.get a with
    | some (.lst ys) => some (.tup ys, A)
    | _ => none
  | _ => none
/-- dict(d), d by texts -/
def cDict (xs : List AV) (A : AH) : Option (AV × AH) := match xs with
  | [.ref a] => match A.get a with
    | some (.dK kvs) => some (.ref A.n, A.new (.dK kvs))
    | _ => none
  | _ => none
def cSorted (xs : List AV) (A : AH) : Option (AV × AH) := match xs with
  | [.ref a] => match A.get a with
    | some (.lst ys) => match intsA ys with
      | some is => cond (is.length.blt 64) (some (.ref A.n, A.new (.lst ((sortI is).map .int)))) none
      | none => none
    | _ => none
  | _ => none
def isInt : AV → Option Bool
  | .int _ => some true
  | .sym _ => some true
  | .tup _ => some false
  | .str _ => some false
  | .non => some false
  | _ => none
def isTup : AV → Option Bool
  | .int _ => some false
  | .sym _ => some false
  | .tup _ => some true
  | .str _ => some false
  | .non => some false
  | .bl _ => some false
  | _ => none
def uIsInt (x : AV) (A : AH) : Option (AV × AH) := match isInt x with
  | some b => some (.bl b, A)
  | none => none
def uIsTup (x : AV) (A : AH) : Option (AV × AH) := match isTup x with
  | some b => some (.bl b, A)
  | none => none
/-! ### methods of built-in types by values -/
def lstOf (A : AH) (x : AV) : Option (Nat × List AV) := match x with
  | .ref a => match A.get a with
    | some (.lst xs) => some (a, xs)
    | _ => none
  | _ => none
def stkOf (A : AH) (x : AV) : Option (Nat × Nat × List AV) := match x with
  | .ref a => match A.get a with
    | some (.stk k xs) => some (a, k, xs)
    | _ => none
  | _ => none
/-- o.m(..), o a list -/
def mBM (f : AV → List AV → AH → Option (AV × AH)) (o : ME) (r : MA) : ME := fun s A => bnd (o s A) fun x A1 => cond ((lstOf A1 x).isSome || (stkOf A1 x).isSome) (bnd (r s A1) fun xs A2 => f x xs A2) none
def bAppend (x : AV) (ys : List AV) (A : AH) : Option (AV × AH) := match stkOf A x, ys with
  | some (a, k, xs), [y] => cond (xs.length.blt 1000) (some (.non, A.set a (.stk k (xs ++ [y])))) none
  | some _, _ => none
  | none, ys => match lstOf A x, ys with
    | some (a, xs), [y] => cond (xs.length.blt line) (some (.non, A.set a (.lst (xs ++ [y])))) none
    | _, _ => none
def bPop (x : AV) (ys : List AV) (A : AH) : Option (AV × AH) := match stkOf A x, ys with
  | some (a, k, xs), [] => match xs[xs.length - 1]? with
    | some y => some (y, A.set a (.stk k xs.dropLast))
    | none => none
  | some _, _ => none
  | none, ys => match lstOf A x, ys with
    | some (a, xs), [] => match xs[xs.length - 1]? with
      | some y => some (y, A.set a (.lst xs.dropLast))
      | none => none
    | _, _ => none
def bExtend (x : AV) (ys : List AV) (A : AH) : Option (AV × AH) := match lstOf A x, ys with
  | some (a, xs), [y] => match lstOf A y with
    | some (_, zs) => cond ((xs.length + zs.length).blt line) (some (.non, A.set a (.lst (xs ++ zs)))) none
    | none => none
  | _, _ => none
/-- d.pop(k, x), d by tuples -/
def mDPopT (d k e : ME) : ME := fun s A => bnd (d s A) fun x A1 => cond (isDict A1 x) (bnd (k s A1) fun y A2 => bnd (e s A2) fun z A3 => match x, y with
  | .ref a, .tup ts => match A3.get a, keysA ts with
    | some (.dT kvs), some q => match lookT kvs q with
      | some v => some (v, A3.set a (.dT (dropT kvs q)))
      | none => some (z, A3)
    | _, _ => none
  | _, _ => none) none
/-- d.setdefault(k, x), d by tuples -/
def mSetdT (d k e : ME) : ME := fun s A => bnd (d s A) fun x A1 => cond (isDict A1 x) (bnd (k s A1) fun y A2 => bnd (e s A2) fun z A3 => match x, y with
  | .ref a, .tup ts => match A3.get a, keysA ts with
    | some (.dT kvs), some q => cond (kvs.length.blt line) (match lookT kvs q with
      | some v => some (v, A3)
      | none => some (z, A3.set a (.dT (putT kvs q z)))) none
    | _, _ => none
  | _, _ => none) none
/-- t.index(x), texts -/
def indexS (c : Nat) : List AV → Nat → Option Nat
  | [], _ => none
  | .str d :: r, j => cond (d.beq c) (some j) (indexS c r (j + 1))
  | _, _ => none
def oIndex (x y : AV) (A : AH) : Option (AV × AH) := match x, y with
  | .ktup ts, .str c => match indexS c ts 0 with
    | some j => some (.int (Int.ofNat j), A)
    | none => none
  | _, _ => none
/-! ### slices -/
def sIxA (n d : Nat) : Option Int → Nat
  | none => d
  | some (.ofNat k) => cond (k.ble n) k n
  | some (.negSucc k) => n - (k + 1)
def cutA (xs : List AV) (lo hi : Option Int) : List AV := (xs.drop (sIxA xs.length 0 lo)).take (sIxA xs.length xs.length hi - sIxA xs.length 0 lo)
abbrev MO := SA → AH → Option (Option Int × AH)
def mNoP : MO := fun _ A => some (none, A)
def mP (a : ME) : MO := fun s A => bnd (a s A) fun x A1 => match x with
  | .int i => some (some i, A1)
  | _ => none
def mSlT (a : ME) (lo hi : MO) : ME := fun s A => bnd (a s A) fun x A1 => bnd (lo s A1) fun l A2 => bnd (hi s A2) fun h A3 => match x with
  | .tup ts => some (.tup (cutA ts l h), A3)
  | _ => none
/-- a list (one that is only read, too): a new one -/
def mSlL (a : ME) (lo hi : MO) : ME := fun s A => bnd (a s A) fun x A1 => bnd (lo s A1) fun l A2 => bnd (hi s A2) fun h A3 => match x with
  | .ref r => match A3.get r with
    | some (.lst xs) => some (.ref A3.n, A3.new (.lst (cutA xs l h)))
    | some (.fz xs) => some (.ref A3.n, A3.new (.lst (cutA xs l h)))
    | _ => none
  | _ => none
def uRev (x : AV) (A : AH) : Option (AV × AH) := match lstOf A x with
  | some (_, xs) => some (.ref A.n, A.new (.lst xs.reverse))
  | none => none

/-! ### targets -/
inductive Tg where
  | one (i : Nat)
  | tup (is : List Nat)
def putS : List Nat → List AV → SA → Option SA
  | [], [], s => some s
  | i :: is, v :: vs, s => putS is vs (s.set i (some v))
  | _, _, _ => none
def Tg.put : Tg → AV → SA → Option SA
  | .one i, v, s => some (s.set i (some v))
  | .tup is, .tup vs, s => putS is vs s
  | .tup _, _, _ => none
def wipeA (s : SA) : List Nat → SA
  | [] => s
  | v :: vs => (wipeA s vs).set v none

/-! ### statements -/
def mNext : MS := fun s A => some (.nx, s, A)
def mSeq (a b : MS) : MS := fun s A => match a s A with
  | some (.nx, s1, A1) => b s1 A1
  | r => r
def mExpr (e : ME) : MS := fun s A => bnd (e s A) fun _ A1 => some (.nx, s, A1)
def mRet (e : ME) : MS := fun s A => bnd (e s A) fun v A1 => some (.rt v, s, A1)
def mRetN : MS := fun s A => some (.rt .non, s, A)
def mIfS (t : MT) (a b : MS) : MS := fun s A => bnd (t s A) fun k A1 => cond k (a s A1) (b s A1)
def mNever : MS := fun _ _ => none
def mSet (i : Nat) (e : ME) : MS := fun s A => bnd (e s A) fun v A1 => some (.nx, s.set i (some v), A1)
/-- a, b, .. = e, e a tuple -/
def mUnp (is : List Nat) (e : ME) : MS := fun s A => bnd (e s A) fun v A1 => match v with
  | .tup vs => match putS is vs s with
    | some s1 => some (.nx, s1, A1)
    | none => none
  | _ => none
/-- a, b, .. = e, e a list -/
def mUnpL (is : List Nat) (e : ME) : MS := fun s A => bnd (e s A) fun v A1 => match lstOf A1 v with
  | some (_, vs) => match putS is vs s with
    | some s1 => some (.nx, s1, A1)
    | none => none
  | none => none
/-- a, b = e1, e2 -/
def mPar (i j : Nat) (r : MA) : MS := fun s A => bnd (r s A) fun xs A1 => match xs with
  | [v, w] => some (.nx, (s.set i (some v)).set j (some w), A1)
  | _ => none
/-- where a field's store leads: in place, or behind the last -/
def putV (vs : List AV) (i : Nat) (v : AV) : Option (List AV) := cond (i.blt vs.length) (some (vs.set i v)) (cond (i.beq vs.length) (some (vs ++ [v])) none)
/-- o.f = e: the value first -/
def mSetF (o : ME) (c i : Nat) (e : ME) : MS := fun s A => bnd (e s A) fun v A1 => bnd (o s A1) fun x A2 => match x with
  | .ref r => match A2.get r with
    | some (.ins d vs) => cond (d.beq c) (match putV vs i v with
      | some ws => some (.nx, s, A2.set r (.ins c ws))
      | none => none) none
    | _ => none
  | _ => none
/-- o.f += e, o.f -= e: ints -/
def mAugF (f : AV → AV → AH → Option (AV × AH)) (o : ME) (c i : Nat) (e : ME) : MS := fun s A => bnd (o s A) fun x A1 => match x with
  | .ref r => match A1.get r with
    | some (.ins d vs) => cond (d.beq c) (match vs[i]? with
      | some v => bnd (e s A1) fun w A2 => bnd (f v w A2) fun z A3 => match A3.get r with
        | some (.ins d3 ws) => cond (d3.beq c) (match putV ws i z with
          | some us => some (.nx, s, A3.set r (.ins c us))
          | none => none) none
        | _ => none
      | none => none) none
    | _ => none
  | _ => none
/-- x += e, a name of the def: ints -/
def mAug (f : AV → AV → AH → Option (AV × AH)) (i : Nat) (e : ME) : MS := fun s A => match s[i]? with
  | some (some v) => bnd (e s A) fun w A1 => bnd (f v w A1) fun z A2 => some (.nx, s.set i (some z), A2)
  | _ => none
/-- d[k] = e: value, dict, key -/
def mDPut (d k e : ME) : MS := fun s A => bnd (e s A) fun v A1 => bnd (d s A1) fun x A2 => bnd (k s A2) fun y A3 => match x with
  | .ref a => match A3.get a with
    | some (.dK kvs) => match keyA y with
      | some q => cond (kvs.length.blt line) (some (.nx, s, A3.set a (.dK (putA kvs q v)))) none
      | none => none
    | some (.dT kvs) => match y with
      | .tup ts => match keysA ts with
        | some q => cond (kvs.length.blt line) (some (.nx, s, A3.set a (.dT (putT kvs q v)))) none
        | none => none
      | _ => none
    | _ => none
  | _ => none
/-- xs[i] = e: value, list, index -/
def mLPut (l i e : ME) : MS := fun s A => bnd (e s A) fun v A1 => bnd (l s A1) fun x A2 => bnd (i s A2) fun y A3 => match lstOf A3 x, y with
  | some (a, xs), .int (.ofNat k) => cond (k.blt xs.length) (some (.nx, s, A3.set a (.lst (xs.set k v)))) none
  | _, _ => none

/-! ### loops -/
def lots : Nat := 1000000
def whileN (t : MT) (b : MS) : Nat → MS
  | 0 => fun _ _ => none
  | n + 1 => fun s A => bnd (t s A) fun k A1 => cond k (match b s A1 with
    | some (.nx, s2, A2) => whileN t b n s2 A2
    | some (.ct, s2, A2) => whileN t b n s2 A2
    | some (.bk, s2, A2) => some (.nx, s2, A2)
    | r => r) (some (.nx, s, A1))
def mWhile (t : MT) (b : MS) : MS := whileN t b lots
/-- one turn of a for: what follows it -/
def turnF (g : Tg) (b : MS) (v : AV) (k : MS) : MS := fun s A => match g.put v s with
  | some s1 => match b s1 A with
    | some (.nx, s2, A2) => k s2 A2
    | some (.ct, s2, A2) => k s2 A2
    | some (.bk, s2, A2) => some (.nx, s2, A2)
    | r => r
  | none => none
/-- what a loop walks: at turn i an item, the end, or no answer -/
abbrev Nx := Nat → AH → Option (Option AV)
def forG (nx : Nx) (g : Tg) (b : MS) : Nat → Nat → MS
  | 0, _ => fun _ _ => none
  | n + 1, i => fun s A => match nx i A with
    | some (some v) => turnF g b v (forG nx g b n (i + 1)) s A
    | some none => some (.nx, s, A)
    | none => none
def nxV (ts : List AV) : Nx := fun i _ => some ts[i]?
/-- a list as it stands at each turn -/
def nxL (a : Nat) : Nx := fun i A => match A.get a with
  | some (.lst xs) => some xs[i]?
  | _ => none
def enumA (i : Nat) : Option AV → Option AV
  | some v => some (.tup [.int (Int.ofNat i), v])
  | none => none
def nxEV (ts : List AV) : Nx := fun i _ => some (enumA i ts[i]?)
def nxEL (a : Nat) : Nx := fun i A => match A.get a with
  | some (.lst xs) => some (enumA i xs[i]?)
  | _ => none
def nxR (lo c : Int) (n : Nat) : Nx := fun i _ => some (cond (i.blt n) (some (.int (lo + Int.ofNat i * c))) none)
def kavA : AKey → AV
  | .inl i => .int i
  | .inr c => .str c
def mForT (e : ME) (g : Tg) (b : MS) : MS := fun s A => bnd (e s A) fun x A1 => match x with
  | .tup ts => forG (nxV ts) g b lots 0 s A1
  | _ => none
def mForL (e : ME) (g : Tg) (b : MS) : MS := fun s A => bnd (e s A) fun x A1 => match x with
  | .ref a => forG (nxL a) g b lots 0 s A1
  | _ => none
/-- enumerate of a tuple, of a list -/
def mForE (e : ME) (g : Tg) (b : MS) : MS := fun s A => bnd (e s A) fun x A1 => match x with
  | .ktup ts => forG (nxEV ts) g b lots 0 s A1
  | _ => none
def mForEL (e : ME) (g : Tg) (b : MS) : MS := fun s A => bnd (e s A) fun x A1 => match x with
  | .ref a => forG (nxEL a) g b lots 0 s A1
  | _ => none
/-- range(n) -/
def mForR1 (e : ME) (g : Tg) (b : MS) : MS := fun s A => bnd (e s A) fun x A1 => match x with
  | .int j => cond (j.natAbs.blt line) (forG (nxR 0 1 j.toNat) g b lots 0 s A1) none
  | _ => none
/-- range(i, j, -1) -/
def mForR3 (r : MA) (g : Tg) (b : MS) : MS := fun s A => bnd (r s A) fun xs A1 => match xs with
  | [.int i, .int j, .int c] => cond (ieq c (-1) && i.natAbs.blt line && j.natAbs.blt line) (forG (nxR i (-1) (i - j).toNat) g b lots 0 s A1) none
  | _ => none
/-- the dict that a walk by keys goes over: it is found, then locked, and found again -/
def lockK (e : ME) (s : SA) (A : AH) : Option (Nat × List (AKey × AV) × AH) := match e s A with
  | some (.ref a, _) => match A.get a with
    | some (.dK kvs) => match e s (A.del a) with
      | some (.ref c, A1) => cond (c.beq a) (some (a, kvs, A1)) none
      | _ => none
    | _ => none
  | _ => none
def mForK (e : ME) (g : Tg) (b : MS) : MS := fun s A => match lockK e s A with
  | some (a, kvs, A1) => match forG (nxV (kvs.map fun q => kavA q.1)) g b lots 0 s A1 with
    | some (f, s2, A2) => some (f, s2, A2.set a (.dK kvs))
    | none => none
  | none => none

/-! ### comprehensions: own: the slots of its own names -/
/-- one turn: the new items behind what is made so far -/
def turnC (g : Tg) (t : MT) (e : ME) (v : AV) (s : SA) (acc : List AV) (A : AH) : Option (List AV × AH) := match g.put v s with
  | some s1 => bnd (t s1 A) fun k A1 => cond k (bnd (e s1 A1) fun y A2 => cond (acc.length.blt line) (some (acc ++ [y], A2)) none) (some (acc, A1))
  | none => none
def compG (nx : Nx) (g : Tg) (t : MT) (e : ME) (s : SA) : Nat → Nat → List AV → AH → Option (List AV × AH)
  | 0, _, _, _ => none
  | n + 1, i, acc, A => match nx i A with
    | some (some v) => bnd (turnC g t e v s acc A) fun acc1 A1 => compG nx g t e s n (i + 1) acc1 A1
    | some none => some (acc, A)
    | none => none
def mYes : MT := fun _ A => some (true, A)
def fin (o : Option (List AV × AH)) : Option (AV × AH) := bnd o fun acc A => some (.ref A.n, A.new (.lst acc))
def mLcT (it : ME) (g : Tg) (t : MT) (e : ME) (own : List Nat) : ME := fun s A => bnd (it s A) fun x A1 => match x with
  | .tup ts => fin (compG (nxV ts) g t e (wipeA s own) lots 0 [] A1)
  | _ => none
def mLcL (it : ME) (g : Tg) (t : MT) (e : ME) (own : List Nat) : ME := fun s A => bnd (it s A) fun x A1 => match x with
  | .ref a => fin (compG (nxL a) g t e (wipeA s own) lots 0 [] A1)
  | _ => none
def mLcE (it : ME) (g : Tg) (t : MT) (e : ME) (own : List Nat) : ME := fun s A => bnd (it s A) fun x A1 => match x with
  | .tup ts => fin (compG (nxEV ts) g t e (wipeA s own) lots 0 [] A1)
  | _ => none
/-- over a dict's keys -/
def mLcK (it : ME) (g : Tg) (t : MT) (e : ME) (own : List Nat) : ME := fun s A => match lockK it s A with
  | some (a, kvs, A1) => match compG (nxV (kvs.map fun q => kavA q.1)) g t e (wipeA s own) lots 0 [] A1 with
    | some (acc, A2) => fin (some (acc, A2.set a (.dK kvs)))
    | none => none
  | none => none
/-- {k: v for i, x in enumerate(list)} -/
def dcG (nx : Nx) (g : Tg) (k v : ME) (s : SA) : Nat → Nat → List (AKey × AV) → AH → Option (List (AKey × AV) × AH)
  | 0, _, _, _ => none
  | n + 1, i, acc, A => match nx i A with
    | some (some x) => match g.put x s with
      | some s1 => bnd (k s1 A) fun y A1 => bnd (v s1 A1) fun z A2 => match keyA y with
        | some q => cond (acc.length.blt line) (dcG nx g k v s n (i + 1) (putA acc q z) A2) none
        | none => none
      | none => none
    | some none => some (acc, A)
    | none => none
def mDcE (it : ME) (g : Tg) (k v : ME) (own : List Nat) : ME := fun s A => bnd (it s A) fun x A1 => match x with
  | .ref a => bnd (dcG (nxEL a) g k v (wipeA s own) lots 0 [] A1) fun acc A2 => some (.ref A2.n, A2.new (.dK acc))
  | _ => none

/-! ### a def -/
def ends (r : Option (Fl × SA × AH)) : Option (AV × AH) := match r with
  | some (.nx, _, A1) => some (.non, A1)
  | some (.rt v, _, A1) => some (v, A1)
  | _ => none
/-- p parameters, n names in all -/
def mRun (p n : Nat) (b : MS) : MF := fun vs A => cond (vs.length.beq p) (ends (b (vs.map some ++ List.replicate (n - p) none) A)) none
/-- sorted(xs, key=f) of a list of one item at most -/
def mSort1 (f : MF) (a : ME) : ME := fun s A => bnd (a s A) fun x A1 => match lstOf A1 x with
  | some (_, [y]) => bnd (f [y] A1) fun _ A2 => some (.ref A2.n, A2.new (.lst [y]))
  | _ => none
end Zg
/-! ZCode: lists of digits and their codes. Plain Lean. -/
namespace Zg
def digs : Nat → Nat → List Nat
  | 0, _ => []
  | _ + 1, 0 => []
  | f + 1, n + 1 => digs f (n / 128) ++ [n % 128 + 1]
def enc (l : List Nat) : Nat := l.foldl (fun a c => a * 128 + c) 0
theorem enc_snoc (l : List Nat) (c : Nat) : enc (l ++ [c]) = enc l * 128 + c := by simp [enc, List.foldl_append]
theorem foldl_enc (l : List Nat) : ∀ a : Nat, l.foldl (fun a c => a * 128 + c) a = a * 128 ^ l.length + enc l := by
  induction l with
  | nil => intro a; simp [enc]
  | cons c r ih =>
    intro a
    have h0 : enc (c :: r) = c * 128 ^ r.length + enc r := by
      show (c :: r).foldl (fun a c => a * 128 + c) 0 = _
      rw [List.foldl_cons, ih]
      simp
    rw [List.foldl_cons, ih, h0, List.length_cons, Nat.pow_succ, Nat.add_mul]
    have e : a * 128 * 128 ^ r.length = a * (128 ^ r.length * 128) := by rw [Nat.mul_assoc, Nat.mul_comm 128]
    omega
theorem enc_append (l m : List Nat) : enc (l ++ m) = enc l * 128 ^ m.length + enc m := by
  show (l ++ m).foldl (fun a c => a * 128 + c) 0 = _
  rw [List.foldl_append, foldl_enc m]
  rfl
theorem enc_digs : ∀ f n : Nat, n ≤ f → enc (digs f n) = n
  | 0, n, h => by
    have e : n = 0 := by omega
    subst e
    rfl
  | _ + 1, 0, _ => rfl
  | f + 1, n + 1, h => by
    show enc (digs f (n / 128) ++ [n % 128 + 1]) = n + 1
    rw [enc_snoc, enc_digs f (n / 128) (by omega)]
    omega
theorem digs_fuel : ∀ f g n : Nat, n ≤ f → n ≤ g → digs f n = digs g n
  | 0, g, n, h, _ => by
    have e : n = 0 := by omega
    subst e
    cases g <;> rfl
  | f + 1, 0, n, _, h => by
    have e : n = 0 := by omega
    subst e
    rfl
  | f + 1, g + 1, 0, _, _ => rfl
  | f + 1, g + 1, n + 1, h1, h2 => by
    show digs f (n / 128) ++ [n % 128 + 1] = digs g (n / 128) ++ [n % 128 + 1]
    rw [digs_fuel f g (n / 128) (by omega) (by omega)]
/-- the digits of a code -/
def dgs (n : Nat) : List Nat := digs n n
theorem enc_dgs (n : Nat) : enc (dgs n) = n := enc_digs n n (Nat.le_refl n)
theorem dgs_inj {a b : Nat} (h : dgs a = dgs b) : a = b := by
  rw [← enc_dgs a, ← enc_dgs b, h]
theorem dgs_succ (n : Nat) : dgs (n + 1) = dgs (n / 128) ++ [n % 128 + 1] := by
  show digs n (n / 128) ++ [n % 128 + 1] = _
  rw [digs_fuel n (n / 128) (n / 128) (by omega) (Nat.le_refl _)]
  rfl
theorem dgs_snoc (a c : Nat) (h1 : 1 ≤ c) (h2 : c ≤ 128) : dgs (a * 128 + c) = dgs a ++ [c] := by
  have e : a * 128 + c = (a * 128 + (c - 1)) + 1 := by omega
  rw [e, dgs_succ]
  have e1 : (a * 128 + (c - 1)) / 128 = a := by omega
  have e2 : (a * 128 + (c - 1)) % 128 + 1 = c := by omega
  rw [e1, e2]
theorem dgs_ok : ∀ f n : Nat, ∀ c ∈ digs f n, 1 ≤ c ∧ c ≤ 128
  | 0, _, c, h => by cases h
  | _ + 1, 0, c, h => by cases h
  | f + 1, n + 1, c, h => by
    rcases List.mem_append.mp (show c ∈ digs f (n / 128) ++ [n % 128 + 1] from h) with h | h
    · exact dgs_ok f _ c h
    · have e : c = n % 128 + 1 := by simpa using h
      omega
theorem dgs_enc_app (a : Nat) : ∀ l : List Nat, (∀ c ∈ l, 1 ≤ c ∧ c ≤ 128) → dgs (l.foldl (fun a c => a * 128 + c) a) = dgs a ++ l := by
  intro l
  induction l generalizing a with
  | nil => intro _; simp
  | cons c r ih =>
    intro h
    obtain ⟨h1, h2⟩ := h c (List.mem_cons_self ..)
    rw [List.foldl_cons, ih _ (fun d hd => h d (List.mem_cons_of_mem _ hd)), dgs_snoc a c h1 h2]
    simp
theorem codeLen_eq : ∀ f n : Nat, codeLen f n = (digs f n).length
  | 0, _ => rfl
  | _ + 1, 0 => rfl
  | f + 1, n + 1 => by
    have e : digs (f + 1) (n + 1) = digs f (n / 128) ++ [n % 128 + 1] := rfl
    rw [e, List.length_append, ← codeLen_eq f (n / 128)]
    rfl
theorem dgs_cat (a b : Nat) : dgs (catC a b) = dgs a ++ dgs b := by
  have e : catC a b = (dgs b).foldl (fun a c => a * 128 + c) a := by
    rw [foldl_enc, enc_dgs]
    show a * 128 ^ codeLen b b + b = _
    rw [codeLen_eq]
    rfl
  rw [e, dgs_enc_app a (dgs b) (fun c h => dgs_ok _ _ c h)]
end Zg
/-! ZProg: the defs of the text as functions over the abstract machine; printed by gen.py. -/
namespace Zg
def g_KINDS : AV := .ktup [.str 1817325, .str 232290021, .str 13166, .str 209221228, .str 1899245, .str 228162035, .str 13542, .str 1782516, .str 1896697]
def g_CHANGEABLE : AV := .ktup [.str 1817325, .str 232290021, .str 13166, .str 209221228, .str 1899245, .str 228162035, .str 13542, .str 1782516, .str 1896697]
def partsOf : List (Nat × List Int) := [(1817325, []), (232290021, []), (13166, []), (209221228, [1, 2]), (1899245, [1, 2]), (228162035, [1, 2]), (13542, [1, 2, 3]), (1782516, [2]), (1896697, [1])]
def lookN : List (Nat × List Int) → Nat → Option (List Int)
  | [], _ => none
  | (j, v) :: r, k => cond (j.beq k) (some v) (lookN r k)
def uParts (x : AV) (A : AH) : Option (AV × AH) := match x with
  | .str c => match lookN partsOf c with
    | some l => some (.ktup (l.map .int), A)
    | none => none
  | _ => none
def b_Frame_init : MS := (mSeq (mSetF (mVar 0) 0 0 (mOp oIx (mVar 1) (mC (.int 1))))
    (mSeq (mSetF (mVar 0) 0 1 (mOp oCatL (mCall cList (mCons (mVar 2) mNil)) (mOp oRep (mLst (mCons (mC .non) mNil)) (mOp oSub (mOp oIx (mVar 1) (mC (.int 0))) (mCall cLen (mCons (mVar 2) mNil))))))
    (mSetF (mVar 0) 0 2 (mC (.int 0)))))
def m_Frame_init : MF := mRun 3 3 b_Frame_init
def b_Machine_init : MS := (mSeq (mSetF (mVar 0) 1 0 (mVar 1))
    (mSeq (mSetF (mVar 0) 1 1 (mVar 2))
    (mSeq (mSetF (mVar 0) 1 2 (mLst mNil))
    (mSeq (mSetF (mVar 0) 1 3 (mLst (mCons (mMake 0 m_Frame_init (mCons (mOp oIx (mVar 1) (mC (.int 0))) (mCons (mTup mNil) mNil))) mNil)))
    (mSeq (mSetF (mVar 0) 1 4 (mDictK))
    (mSeq (mSetF (mVar 0) 1 5 (mLst mNil))
    (mSetF (mVar 0) 1 6 (mC .non))))))))
def m_Machine_init : MF := mRun 3 3 b_Machine_init
def b_target : MS := (mSeq (mForT (mOp oIx (mVar 0) (mC (.int 2))) (.tup [2, 3]) (mIfS (mB (mOp oEq (mVar 2) (mVar 1))) (mRet (mVar 3)) mNext))
    (mRet (mOp oIx (mVar 0) (mC (.int 3)))))
def m_target : MF := mRun 2 4 b_target
def b_Machine_go : MS := (mIfS (mB (mOp oEq (mOp oIx (mVar 2) (mC (.int 0))) (mC (.str 224229104)))) (mSetF (mVar 1) 0 2 (mOp oIx (mVar 2) (mC (.int 1)))) (mIfS (mB (mOp oEq (mOp oIx (mVar 2) (mC (.int 0))) (mC (.str 3983535845864)))) (mSetF (mVar 1) 0 2 (mCall m_target (mCons (mVar 2) (mCons (mDGet2 (mFld (mVar 0) 1 4) (mOp oIx (mVar 2) (mC (.int 1))) (mC (.int 0))) mNil)))) (mSeq (mSet 3 (mBM bPop (mFld (mVar 0) 1 2) mNil))
    (mIfS (mNot (mB (mUn uIsInt (mVar 3)))) (mSetF (mVar 0) 1 6 (mTup (mCons (mC (.str 31115276779)) (mCons (mOp oIx (mVar 2) (mC (.int 1))) mNil)))) (mIfS (mB (mOp oEq (mVar 3) (mC (.int 0)))) (mSetF (mVar 1) 0 2 (mOp oIx (mVar 2) (mC (.int 2)))) mNext)))))
def m_Machine_go : MF := mRun 3 4 b_Machine_go
def b_Machine_step : MS := (mSeq (mIfS (mB (mOp oEq (mFld (mVar 0) 1 1) (mC (.int 0)))) (mSeq (mSetF (mVar 0) 1 6 (mTup (mCons (mC (.str 230422885)) mNil)))
    (mRet (mC (.bl false)))) mNext)
    (mSeq (mAugF oSub (mVar 0) 1 1 (mC (.int 1)))
    (mRet (mC (.bl true)))))
def m_Machine_step : MF := mRun 1 1 b_Machine_step
def b_Machine_call : MS := (mIfS (mOr (mB (mUn uIsInt (mVar 2))) (mB (mOp oNe (mOp oIx (mVar 2) (mC (.int 1))) (mVar 1)))) (mSetF (mVar 0) 1 6 (mTup (mCons (mC (.str 31115276779)) (mCons (mVar 1) mNil)))) (mIfS (mB (mMeth 1 m_Machine_step (mVar 0) mNil)) (mSeq (mUnp [4, 4, 5, 6] (mVar 2))
    (mExpr (mBM bAppend (mFld (mVar 0) 1 3) (mCons (mMake 0 m_Frame_init (mCons (mOp oIx (mFld (mVar 0) 1 0) (mVar 5)) (mCons (mOp oCatT (mVar 6) (mTup (mCons (mVar 3) mNil))) mNil))) mNil)))) mNext))
def m_Machine_call : MF := mRun 4 7 b_Machine_call
def b_shown_machine : MS := (mRet (mIfE (mB (mUn uIsInt (mVar 0))) (mVar 0) (mTup (mCons (mC (.str 13166)) (mCons (mOp oIx (mVar 0) (mC (.int 1))) mNil)))))
def m_shown_machine : MF := mRun 1 1 b_shown_machine
def b_Machine_operate : MS := (mSeq (mSet 2 (mOp oIx (mVar 1) (mC (.int 0))))
    (mIfS (mB (mOp oEq (mVar 2) (mC (.str 245002731)))) (mExpr (mMeth 1 m_Machine_step (mVar 0) mNil)) (mIfS (mB (mOp oEq (mVar 2) (mC (.str 1896697)))) (mExpr (mBM bAppend (mFld (mVar 0) 1 5) (mCons (mTup (mCons (mOp oIx (mVar 1) (mC (.int 1))) (mCons (mCall m_shown_machine (mCons (mOp oIx (mFld (mVar 0) 1 2) (mC (.int (-1)))) mNil)) mNil))) mNil))) (mIfS (mB (mOp oEq (mVar 2) (mC (.str 3944367356270)))) (mSeq (mExpr (mBM bPop (mFld (mVar 0) 1 3) mNil))
    (mIfS (mNot (mTru (mFld (mVar 0) 1 3))) (mSetF (mVar 0) 1 6 (mTup (mCons (mC (.str 31880592101)) (mCons (mCall m_shown_machine (mCons (mOp oIx (mFld (mVar 0) 1 2) (mC (.int (-1)))) mNil)) mNil)))) mNext)) (mSeq (mSet 3 (mBM bPop (mFld (mVar 0) 1 2) mNil))
    (mSeq (mSet 4 (mBM bPop (mFld (mVar 0) 1 2) mNil))
    (mIfS (mB (mOp oEq (mVar 2) (mC (.str 209221228)))) (mExpr (mMeth 1 m_Machine_call (mVar 0) (mCons (mOp oIx (mVar 1) (mC (.int 1))) (mCons (mVar 4) (mCons (mVar 3) mNil))))) (mIfS (mOr (mNot (mB (mUn uIsInt (mVar 4)))) (mNot (mB (mUn uIsInt (mVar 3))))) (mSetF (mVar 0) 1 6 (mTup (mCons (mC (.str 31115276779)) (mCons (mOp oIx (mVar 1) (mC (.int 1))) mNil)))) (mExpr (mBM bAppend (mFld (mVar 0) 1 2) (mCons (mIfE (mB (mOp oEq (mVar 2) (mC (.str 1899245)))) (mOp oAdd (mVar 4) (mVar 3)) (mCall cInt (mCons (mOp oLt (mVar 4) (mVar 3)) mNil))) mNil)))))))))))
def m_Machine_operate : MF := mRun 2 5 b_Machine_operate
def b_Machine_turn : MS := (mSeq (mSet 2 (mOp oIx (mVar 1) (mC (.int 1))))
    (mIfS (mB (mOp oEq (mOp oIx (mVar 1) (mC (.int 0))) (mC (.str 29204446053)))) (mSeq (mSet 3 (mBM bPop (mFld (mVar 0) 1 2) mNil))
    (mSeq (mDPut (mFld (mVar 0) 1 4) (mVar 2) (mBM bPop (mFld (mVar 0) 1 2) mNil))
    (mExpr (mBM bAppend (mFld (mVar 0) 1 2) (mCons (mVar 3) mNil))))) (mSeq (mExpr (mBM bAppend (mFld (mVar 0) 1 2) (mCons (mIfE (mB (mOp oEq (mOp oIx (mVar 1) (mC (.int 0))) (mC (.str 27344581362)))) (mDGet2 (mFld (mVar 0) 1 4) (mVar 2) (mC (.int 0))) (mC (.int 0))) mNil)))
    (mDPut (mFld (mVar 0) 1 4) (mVar 2) (mOp oIx (mVar 1) (mC (.int 2)))))))
def m_Machine_turn : MF := mRun 2 4 b_Machine_turn
def b_Machine_execute : MS := (mSeq (mSet 3 (mOp oIx (mVar 2) (mC (.int 0))))
    (mIfS (mB (mOp oEq (mVar 3) (mC (.str 1734516)))) (mExpr (mBM bAppend (mFld (mVar 0) 1 2) (mCons (mOp oIx (mVar 2) (mC (.int 1))) mNil))) (mIfS (mB (mOp oEq (mVar 3) (mC (.str 228323556)))) (mExpr (mBM bAppend (mFld (mVar 0) 1 2) (mCons (mOp oIx (mFld (mVar 1) 0 1) (mOp oIx (mVar 2) (mC (.int 1)))) mNil))) (mIfS (mB (mOp oEq (mVar 3) (mC (.str 31115180389)))) (mLPut (mFld (mVar 1) 0 1) (mOp oIx (mVar 2) (mC (.int 1))) (mBM bPop (mFld (mVar 0) 1 2) mNil)) (mIfS (mB (mOp oEq (mVar 3) (mC (.str 26803436005)))) (mSeq (mSet 4 (mCall cTuple (mCons (mLcT (mOp oIx (mVar 2) (mC (.int 3))) (.one 5) mYes (mOp oIx (mFld (mVar 1) 0 1) (mVar 5)) [5]) mNil)))
    (mExpr (mBM bAppend (mFld (mVar 0) 1 2) (mCons (mTup (mCons (mC (.str 13166)) (mCons (mOp oIx (mVar 2) (mC (.int 2))) (mCons (mOp oIx (mVar 2) (mC (.int 1))) (mCons (mVar 4) mNil))))) mNil)))) (mIfS (mB (mOp oEq (mVar 3) (mC (.str 31358547819)))) (mExpr (mBM bAppend (mFld (mVar 0) 1 2) (mCons (mTup (mCons (mC (.str 31358547819)) (mCons (mOp oIx (mVar 2) (mC (.int 1))) (mCons (mCall cTuple (mCons (mLcT (mOp oIx (mVar 2) (mC (.int 2))) (.one 5) mYes (mOp oIx (mFld (mVar 1) 0 1) (mVar 5)) [5]) mNil)) mNil)))) mNil))) (mIfS (mB (mOp oEq (mVar 3) (mC (.str 27615080933)))) (mSeq (mUnp [6, 7, 4] (mOp oIx (mFld (mVar 1) 0 1) (mOp oIx (mVar 2) (mC (.int 1)))))
    (mExpr (mBM bAppend (mFld (mVar 0) 1 3) (mCons (mMake 0 m_Frame_init (mCons (mOp oIx (mFld (mVar 0) 1 0) (mVar 7)) (mCons (mVar 4) mNil))) mNil)))) (mIfS (mB (mOp oInS (mVar 3) (mTup (mCons (mC (.str 224229104)) (mCons (mC (.str 244939252)) (mCons (mC (.str 3983535845864)) mNil)))))) (mExpr (mMeth 1 m_Machine_go (mVar 0) (mCons (mVar 1) (mCons (mVar 2) mNil)))) (mIfS (mB (mOp oInS (mVar 3) (mTup (mCons (mC (.str 27344581362)) (mCons (mC (.str 29204446053)) (mCons (mC (.str 1850100)) mNil)))))) (mExpr (mMeth 1 m_Machine_turn (mVar 0) (mCons (mVar 2) mNil))) (mExpr (mMeth 1 m_Machine_operate (mVar 0) (mCons (mVar 2) mNil))))))))))))
def m_Machine_execute : MF := mRun 3 8 b_Machine_execute
def b_Machine_run : MS := (mWhile (mB (mOp oIsN (mFld (mVar 0) 1 6) (mC .non))) (mSeq (mSet 1 (mOp oIx (mFld (mVar 0) 1 3) (mC (.int (-1)))))
    (mSeq (mSet 2 (mOp oIx (mFld (mVar 1) 0 0) (mFld (mVar 1) 0 2)))
    (mSeq (mAugF oAdd (mVar 1) 0 2 (mC (.int 1)))
    (mExpr (mMeth 1 m_Machine_execute (mVar 0) (mCons (mVar 1) (mCons (mVar 2) mNil))))))))
def m_Machine_run : MF := mRun 1 3 b_Machine_run
def b_run_code : MS := (mSeq (mSet 2 (mMake 1 m_Machine_init (mCons (mVar 0) (mCons (mVar 1) mNil))))
    (mSeq (mExpr (mMeth 1 m_Machine_run (mVar 2) mNil))
    (mRet (mTup (mCons (mCall cTuple (mCons (mFld (mVar 2) 1 5) mNil)) (mCons (mFld (mVar 2) 1 6) mNil))))))
def m_run_code : MF := mRun 2 3 b_run_code
def b_Numbering_init : MS := (mSeq (mSetF (mVar 0) 2 0 (mC (.int 0)))
    (mSetF (mVar 0) 2 1 (mDictT)))
def m_Numbering_init : MF := mRun 1 1 b_Numbering_init
def b_Numbering_expression (r : MF) : MS := (mSeq (mSet 3 (mOp oIx (mVar 1) (mC (.int 0))))
    (mSeq (mIfS (mOr (mB (mOp oEq (mVar 3) (mC (.str 241006181)))) (mB (mOp oEq (mVar 3) (mC (.str 226063088))))) (mSeq (mAugF oAdd (mVar 0) 2 0 (mC (.int 1)))
    (mSeq (mSet 4 (mFld (mVar 0) 2 0))
    (mSeq (mExpr (mSetdT (mFld (mVar 0) 2 1) (mTup (mCons (mVar 2) (mCons (mOp oIx (mVar 1) (mC (.int 1))) mNil))) (mLst mNil)))
    (mSeq (mSet 5 (mMeth 2 r (mVar 0) (mCons (mOp oIx (mVar 1) (mC (.int 2))) (mCons (mOp oAdd (mVar 2) (mC (.int 1))) mNil))))
    (mSeq (mExpr (mBM bAppend (mOp oDGet (mFld (mVar 0) 2 1) (mTup (mCons (mVar 2) (mCons (mOp oIx (mVar 1) (mC (.int 1))) mNil)))) (mCons (mTup (mCons (mVar 4) (mCons (mVar 5) mNil))) mNil)))
    (mSeq (mIfS (mB (mOp oEq (mVar 3) (mC (.str 226063088)))) (mRet (mTup (mCons (mC (.str 226063088)) (mCons (mOp oIx (mVar 1) (mC (.int 1))) (mCons (mVar 4) mNil))))) mNext)
    (mRet (mTup (mCons (mC (.str 241006181)) (mCons (mOp oIx (mVar 1) (mC (.int 1))) (mCons (mVar 4) (mCons (mMeth 2 r (mVar 0) (mCons (mOp oIx (mVar 1) (mC (.int 3))) (mCons (mVar 2) mNil))) mNil)))))))))))) mNext)
    (mSeq (mIfS (mB (mOp oEq (mVar 3) (mC (.str 13166)))) (mRet (mTup (mCons (mC (.str 13166)) (mCons (mOp oIx (mVar 1) (mC (.int 1))) (mCons (mMeth 2 r (mVar 0) (mCons (mOp oIx (mVar 1) (mC (.int 2))) (mCons (mVar 2) mNil))) mNil))))) mNext)
    (mSeq (mIfS (mB (mOp oEq (mVar 3) (mC (.str 1782516)))) (mRet (mTup (mCons (mC (.str 1782516)) (mCons (mOp oIx (mVar 1) (mC (.int 1))) (mCons (mMeth 2 r (mVar 0) (mCons (mOp oIx (mVar 1) (mC (.int 2))) (mCons (mVar 2) mNil))) (mCons (mMeth 2 r (mVar 0) (mCons (mOp oIx (mVar 1) (mC (.int 3))) (mCons (mVar 2) mNil))) mNil)))))) mNext)
    (mSeq (mIfS (mB (mOp oEq (mVar 3) (mC (.str 12911)))) mNever mNext)
    (mRet (mOp oCatT (mTup (mCons (mVar 3) mNil)) (mCall cTuple (mCons (mLcT (mSlT (mVar 1) (mP (mC (.int 1))) mNoP) (.one 6) mYes (mIfE (mB (mUn uIsTup (mVar 6))) (mMeth 2 r (mVar 0) (mCons (mVar 6) (mCons (mVar 2) mNil))) (mVar 6)) [6]) mNil)))))))))
def m_Numbering_expression : Nat → MF
  | 0 => fun _ _ => none
  | k + 1 => mRun 3 7 (b_Numbering_expression (m_Numbering_expression k))
def b_About_init : MS := (mSeq (mSetF (mVar 0) 3 0 (mVar 1))
    (mSeq (mSetF (mVar 0) 3 1 (mVar 2))
    (mSeq (mSetF (mVar 0) 3 2 (mVar 3))
    (mSeq (mSetF (mVar 0) 3 3 (mVar 4))
    (mSeq (mSetF (mVar 0) 3 4 (mDictK))
    (mSetF (mVar 0) 3 5 (mC .non)))))))
def m_About_init : MF := mRun 5 5 b_About_init
def b_Collapser_init : MS := (mSeq (mSetF (mVar 0) 4 0 (mVar 1))
    (mSeq (mSetF (mVar 0) 4 1 (mC (.int 0)))
    (mSetF (mVar 0) 4 2 (mC (.int 0)))))
def m_Collapser_init : MF := mRun 2 2 b_Collapser_init
def b_Collapser_fresh : MS := (mSeq (mAugF oAdd (mVar 0) 4 1 (mC (.int 1)))
    (mRet (mOp oCatS (mVar 1) (mCall cStr (mCons (mFld (mVar 0) 4 1) mNil)))))
def m_Collapser_fresh : MF := mRun 2 2 b_Collapser_fresh
def b_Collapser_node : MS := (mSeq (mAugF oAdd (mVar 0) 4 2 (mC (.int 1)))
    (mSeq (mIfS (mB (mOp oGt (mFld (mVar 0) 4 2) (mC (.int 20000)))) mNever mNext)
    (mRet (mVar 1))))
def m_Collapser_node : MF := mRun 2 2 b_Collapser_node
def b_switch_of : MS := (mRet (mOp oAdd (mOp oMul (mC (.int 9)) (mVar 0)) (mOp oIndex (mC g_KINDS) (mVar 1))))
def m_switch_of : MF := mRun 2 2 b_switch_of
def b_with_name_collapsing : MS := (mSeq (mSet 3 (mCall cDict (mCons (mVar 0) mNil)))
    (mSeq (mDPut (mVar 3) (mVar 1) (mVar 2))
    (mRet (mVar 3))))
def m_with_name_collapsing : MF := mRun 3 4 b_with_name_collapsing
def b_number_of : MS := (mRet (mOp oIx (mVar 0) (mC (.int 0))))
def m_number_of : MF := mRun 1 1 b_number_of
def b_Collapser_expression (r : Nat → MF) : MS := (mSeq (mSet 5 (mOp oIx (mVar 1) (mC (.int 0))))
    (mSeq (mIfS (mB (mOp oDNotIn (mTup (mCons (mVar 2) (mCons (mVar 5) mNil))) (mFld (mVar 0) 4 0))) (mRet (mMeth 4 (r 4) (mVar 0) (mCons (mVar 1) (mCons (mVar 2) (mCons (mVar 3) (mCons (mVar 4) (mCons (mDictK) mNil))))))) mNext)
    (mSeq (mSet 6 (mMake 3 m_About_init (mCons (mVar 1) (mCons (mVar 2) (mCons (mVar 3) (mCons (mVar 4) mNil))))))
    (mSeq (mSet 7 (mLst mNil))
    (mSeq (mForE (mUn uParts (mVar 5)) (.tup [8, 9]) (mIfS (mOr (mB (mOp oNotInS (mOp oIx (mOp oIx (mVar 1) (mVar 9)) (mC (.int 0))) (mTup (mCons (mC (.str 1817325)) (mCons (mC (.str 232290021)) mNil))))) (mB (mOp oDIn (mTup (mCons (mVar 2) (mCons (mOp oIx (mOp oIx (mVar 1) (mVar 9)) (mC (.int 0))) mNil))) (mFld (mVar 0) 4 0)))) (mSeq (mDPut (mFld (mVar 6) 3 4) (mVar 8) (mMeth 4 m_Collapser_fresh (mVar 0) (mCons (mC (.str 100)) mNil)))
    (mExpr (mBM bAppend (mVar 7) (mCons (mTup (mCons (mOp oDGet (mFld (mVar 6) 3 4) (mVar 8)) (mCons (mMeth 4 (r 0) (mVar 0) (mCons (mOp oIx (mVar 1) (mVar 9)) (mCons (mVar 2) (mCons (mVar 3) (mCons (mVar 4) mNil))))) mNil))) mNil)))) mNext))
    (mSeq (mIfS (mB (mOp oNotInS (mVar 5) (mTup (mCons (mC (.str 1817325)) (mCons (mC (.str 232290021)) mNil))))) (mSeq (mSetF (mVar 6) 3 5 (mMeth 4 m_Collapser_fresh (mVar 0) (mCons (mC (.str 100)) mNil)))
    (mExpr (mBM bAppend (mVar 7) (mCons (mTup (mCons (mFld (mVar 6) 3 5) (mCons (mMeth 4 (r 4) (mVar 0) (mCons (mVar 1) (mCons (mVar 2) (mCons (mVar 3) (mCons (mVar 4) (mCons (mFld (mVar 6) 3 4) mNil)))))) mNil))) mNil)))) mNext)
    (mSeq (mSet 10 (mLst mNil))
    (mSeq (mForL (mSort1 m_number_of (mOp oDGet (mFld (mVar 0) 4 0) (mTup (mCons (mVar 2) (mCons (mVar 5) mNil))))) (.tup [11, 12]) (mExpr (mBM bAppend (mVar 10) (mCons (mTup (mCons (mVar 11) (mCons (mMeth 4 (r 0) (mVar 0) (mCons (mVar 12) (mCons (mOp oAdd (mVar 2) (mC (.int 1))) (mCons (mDictK) (mCons (mVar 6) mNil))))) mNil))) mNil))))
    (mSeq (mSet 13 (mMeth 4 (r 1) (mVar 0) (mCons (mVar 6) mNil)))
    (mSeq (mSet 14 (mMeth 4 m_Collapser_node (mVar 0) (mCons (mTup (mCons (mC (.str 3983535845864)) (mCons (mCall m_switch_of (mCons (mVar 2) (mCons (mVar 5) mNil))) (mCons (mCall cTuple (mCons (mVar 10) mNil)) (mCons (mVar 13) mNil))))) mNil)))
    (mSeq (mForL (mUn uRev (mVar 7)) (.tup [15, 16]) (mSet 14 (mMeth 4 m_Collapser_node (mVar 0) (mCons (mTup (mCons (mC (.str 27057139961)) (mCons (mVar 15) (mCons (mVar 16) (mCons (mVar 14) mNil))))) mNil))))
    (mRet (mVar 14)))))))))))))
def b_Collapser_built_in (r : Nat → MF) : MS := (mSeq (mIfS (mB (mOp oNotN (mFld (mVar 1) 3 5) (mC .non))) (mRet (mMeth 4 m_Collapser_node (mVar 0) (mCons (mTup (mCons (mC (.str 27615080933)) (mCons (mFld (mVar 1) 3 5) mNil))) mNil))) mNext)
    (mRet (mMeth 4 (r 4) (mVar 0) (mCons (mFld (mVar 1) 3 0) (mCons (mFld (mVar 1) 3 1) (mCons (mFld (mVar 1) 3 2) (mCons (mFld (mVar 1) 3 3) (mCons (mFld (mVar 1) 3 4) mNil))))))))
def b_Collapser_part (r : Nat → MF) : MS := (mSeq (mIfS (mB (mOp oDIn (mVar 2) (mFld (mVar 1) 3 4))) (mRet (mMeth 4 m_Collapser_node (mVar 0) (mCons (mTup (mCons (mC (.str 27615080933)) (mCons (mOp oDGet (mFld (mVar 1) 3 4) (mVar 2)) mNil))) mNil))) mNext)
    (mRet (mMeth 4 (r 0) (mVar 0) (mCons (mOp oIx (mFld (mVar 1) 3 0) (mOp oIx (mUn uParts (mOp oIx (mFld (mVar 1) 3 0) (mC (.int 0)))) (mVar 2))) (mCons (mFld (mVar 1) 3 1) (mCons (mFld (mVar 1) 3 2) (mCons (mFld (mVar 1) 3 3) mNil)))))))
def b_Collapser_parts (r : Nat → MF) : MS := (mSeq (mSet 6 (mLst mNil))
    (mSeq (mForE (mUn uParts (mOp oIx (mVar 1) (mC (.int 0)))) (.tup [7, 8]) (mIfS (mB (mOp oDIn (mVar 7) (mVar 5))) (mExpr (mBM bAppend (mVar 6) (mCons (mMeth 4 m_Collapser_node (mVar 0) (mCons (mTup (mCons (mC (.str 27615080933)) (mCons (mOp oDGet (mVar 5) (mVar 7)) mNil))) mNil)) mNil))) (mExpr (mBM bAppend (mVar 6) (mCons (mMeth 4 (r 0) (mVar 0) (mCons (mOp oIx (mVar 1) (mVar 8)) (mCons (mVar 2) (mCons (mVar 3) (mCons (mVar 4) mNil))))) mNil)))))
    (mRet (mVar 6))))
def b_Collapser_usual (r : Nat → MF) : MS := (mSeq (mSet 6 (mOp oIx (mVar 1) (mC (.int 0))))
    (mSeq (mIfS (mB (mOp oEq (mVar 6) (mC (.str 1817325)))) (mRet (mMeth 4 m_Collapser_node (mVar 0) (mCons (mVar 1) mNil))) mNext)
    (mSeq (mIfS (mB (mOp oEq (mVar 6) (mC (.str 232290021)))) (mRet (mMeth 4 m_Collapser_node (mVar 0) (mCons (mTup (mCons (mC (.str 232290021)) (mCons (mOp oDGet (mVar 3) (mOp oIx (mVar 1) (mC (.int 1)))) mNil))) mNil))) mNext)
    (mSeq (mIfS (mB (mOp oEq (mVar 6) (mC (.str 13166)))) (mSeq (mSet 7 (mMeth 4 m_Collapser_fresh (mVar 0) (mCons (mC (.str 120)) mNil)))
    (mSeq (mSet 8 (mMeth 4 (r 0) (mVar 0) (mCons (mOp oIx (mVar 1) (mC (.int 2))) (mCons (mVar 2) (mCons (mCall m_with_name_collapsing (mCons (mVar 3) (mCons (mOp oIx (mVar 1) (mC (.int 1))) (mCons (mVar 7) mNil)))) (mCons (mVar 4) mNil))))))
    (mRet (mMeth 4 m_Collapser_node (mVar 0) (mCons (mTup (mCons (mC (.str 13166)) (mCons (mVar 2) (mCons (mVar 7) (mCons (mVar 8) mNil))))) mNil))))) mNext)
    (mSeq (mIfS (mB (mOp oEq (mVar 6) (mC (.str 1782516)))) (mSeq (mSet 7 (mMeth 4 m_Collapser_fresh (mVar 0) (mCons (mC (.str 120)) mNil)))
    (mSeq (mSet 9 (mMeth 4 (r 3) (mVar 0) (mCons (mVar 1) (mCons (mVar 2) (mCons (mVar 3) (mCons (mVar 4) (mCons (mVar 5) mNil)))))))
    (mSeq (mSet 8 (mMeth 4 (r 0) (mVar 0) (mCons (mOp oIx (mVar 1) (mC (.int 3))) (mCons (mVar 2) (mCons (mCall m_with_name_collapsing (mCons (mVar 3) (mCons (mOp oIx (mVar 1) (mC (.int 1))) (mCons (mVar 7) mNil)))) (mCons (mVar 4) mNil))))))
    (mRet (mMeth 4 m_Collapser_node (mVar 0) (mCons (mTup (mCons (mC (.str 1782516)) (mCons (mVar 7) (mCons (mOp oIx (mVar 9) (mC (.int 0))) (mCons (mVar 8) mNil))))) mNil)))))) mNext)
    (mSeq (mIfS (mB (mOp oInS (mVar 6) (mC g_KINDS))) (mRet (mMeth 4 m_Collapser_node (mVar 0) (mCons (mOp oCatT (mTup (mCons (mVar 6) (mCons (mVar 2) mNil))) (mCall cTuple (mCons (mMeth 4 (r 3) (mVar 0) (mCons (mVar 1) (mCons (mVar 2) (mCons (mVar 3) (mCons (mVar 4) (mCons (mVar 5) mNil)))))) mNil))) mNil))) mNext)
    (mRet (mMeth 4 (r 5) (mVar 0) (mCons (mVar 1) (mCons (mVar 2) (mCons (mVar 3) (mCons (mVar 4) mNil))))))))))))
def b_Collapser_other (r : Nat → MF) : MS := (mSeq (mSet 5 (mOp oIx (mVar 1) (mC (.int 0))))
    (mSeq (mIfS (mB (mOp oEq (mVar 5) (mC (.str 241006181)))) (mRet (mMeth 4 m_Collapser_node (mVar 0) (mCons (mTup (mCons (mC (.str 1897204)) (mCons (mCall m_switch_of (mCons (mVar 2) (mCons (mOp oIx (mVar 1) (mC (.int 1))) mNil))) (mCons (mOp oIx (mVar 1) (mC (.int 2))) (mCons (mMeth 4 (r 0) (mVar 0) (mCons (mOp oIx (mVar 1) (mC (.int 3))) (mCons (mVar 2) (mCons (mVar 3) (mCons (mVar 4) mNil))))) mNil))))) mNil))) mNext)
    (mSeq (mIfS (mB (mOp oEq (mVar 5) (mC (.str 226063088)))) (mRet (mMeth 4 m_Collapser_node (mVar 0) (mCons (mTup (mCons (mC (.str 1850100)) (mCons (mCall m_switch_of (mCons (mVar 2) (mCons (mOp oIx (mVar 1) (mC (.int 1))) mNil))) (mCons (mOp oIx (mVar 1) (mC (.int 2))) mNil)))) mNil))) mNext)
    (mSeq (mIfS (mB (mOp oEq (mVar 5) (mC (.str 236484980)))) (mRet (mMeth 4 m_Collapser_node (mVar 0) (mCons (mTup (mCons (mC (.str 245002731)) (mCons (mMeth 4 (r 2) (mVar 0) (mCons (mVar 4) (mCons (mOp oIx (mVar 1) (mC (.int 1))) mNil))) mNil))) mNil))) mNext)
    (mSeq (mIfS (mB (mOp oEq (mVar 5) (mC (.str 31650050284)))) (mRet (mMeth 4 m_Collapser_node (mVar 0) (mCons (mTup (mCons (mC (.str 245002731)) (mCons (mMeth 4 (r 1) (mVar 0) (mCons (mVar 4) mNil)) mNil))) mNil))) mNext)
    (mSeq (mIfS (mB (mOp oEq (mVar 5) (mC (.str 251296360)))) mNever mNext)
    mNever))))))
def m_Coll : Nat → Nat → MF
  | 0, _ => fun _ _ => none
  | k + 1, 0 => mRun 5 17 (b_Collapser_expression (m_Coll k))
  | k + 1, 1 => mRun 2 2 (b_Collapser_built_in (m_Coll k))
  | k + 1, 2 => mRun 3 3 (b_Collapser_part (m_Coll k))
  | k + 1, 3 => mRun 6 9 (b_Collapser_parts (m_Coll k))
  | k + 1, 4 => mRun 6 10 (b_Collapser_usual (m_Coll k))
  | k + 1, _ => mRun 5 6 (b_Collapser_other (m_Coll k))
def b_collapse : MS := (mSeq (mSet 1 (mMake 2 m_Numbering_init mNil))
    (mSeq (mSet 2 (mMeth 2 (m_Numbering_expression 14) (mVar 1) (mCons (mVar 0) (mCons (mC (.int 0)) mNil))))
    (mRet (mMeth 4 (m_Coll 60 0) (mMake 4 m_Collapser_init (mCons (mFld (mVar 1) 2 1) mNil)) (mCons (mVar 2) (mCons (mC (.int 0)) (mCons (mDictK) (mCons (mC .non) mNil))))))))
def m_collapse : MF := mRun 1 3 b_collapse
def b_inner : MS := (mSeq (mSet 1 (mOp oIx (mVar 0) (mC (.int 0))))
    (mSeq (mIfS (mB (mOp oInS (mVar 1) (mTup (mCons (mC (.str 1817325)) (mCons (mC (.str 232290021)) (mCons (mC (.str 27615080933)) (mCons (mC (.str 1850100)) mNil))))))) (mRet (mLst mNil)) mNext)
    (mSeq (mIfS (mB (mOp oInS (mVar 1) (mTup (mCons (mC (.str 209221228)) (mCons (mC (.str 1899245)) (mCons (mC (.str 228162035)) mNil)))))) (mRet (mLst (mCons (mOp oIx (mVar 0) (mC (.int 2))) (mCons (mOp oIx (mVar 0) (mC (.int 3))) mNil)))) mNext)
    (mSeq (mIfS (mB (mOp oEq (mVar 1) (mC (.str 13542)))) (mRet (mLst (mCons (mOp oIx (mVar 0) (mC (.int 2))) (mCons (mOp oIx (mVar 0) (mC (.int 3))) (mCons (mOp oIx (mVar 0) (mC (.int 4))) mNil))))) mNext)
    (mSeq (mIfS (mB (mOp oInS (mVar 1) (mTup (mCons (mC (.str 1782516)) (mCons (mC (.str 27057139961)) mNil))))) (mRet (mLst (mCons (mOp oIx (mVar 0) (mC (.int 2))) (mCons (mOp oIx (mVar 0) (mC (.int 3))) mNil)))) mNext)
    (mSeq (mIfS (mB (mOp oEq (mVar 1) (mC (.str 3983535845864)))) (mRet (mOp oCatL (mLcT (mOp oIx (mVar 0) (mC (.int 2))) (.tup [2, 3]) mYes (mVar 3) [2, 3]) (mLst (mCons (mOp oIx (mVar 0) (mC (.int 3))) mNil)))) mNext)
    (mRet (mLst (mCons (mOp oIx (mVar 0) (mC (.int (-1)))) mNil)))))))))
def m_inner : MF := mRun 1 4 b_inner
def b_shown_plain : MS := (mRet (mIfE (mB (mUn uIsInt (mVar 0))) (mVar 0) (mTup (mCons (mC (.str 13166)) (mCons (mOp oIx (mVar 0) (mC (.int 1))) mNil)))))
def m_shown_plain : MF := mRun 1 1 b_shown_plain
def b_Link_init : MS := (mSeq (mSetF (mVar 0) 5 0 (mVar 1))
    (mSeq (mSetF (mVar 0) 5 1 (mVar 2))
    (mSetF (mVar 0) 5 2 (mVar 3))))
def m_Link_init : MF := mRun 4 4 b_Link_init
def b_find : MS := (mSeq (mWhile (mB (mOp oNe (mFld (mVar 0) 5 0) (mVar 1))) (mSet 0 (mFld (mVar 0) 5 2)))
    (mRet (mFld (mVar 0) 5 1)))
def m_find : MF := mRun 2 2 b_find
def b_PlainRun_init : MS := (mSeq (mSetF (mVar 0) 6 0 (mVar 1))
    (mSeq (mSetF (mVar 0) 6 1 (mTup (mCons (mC .non) (mCons (mC .non) mNil))))
    (mSeq (mSetF (mVar 0) 6 2 (mVar 2))
    (mSeq (mSetF (mVar 0) 6 3 (mLst mNil))
    (mSeq (mSetF (mVar 0) 6 4 (mDictK))
    (mSeq (mSetF (mVar 0) 6 5 (mLst mNil))
    (mSetF (mVar 0) 6 6 (mC .non))))))))
def m_PlainRun_init : MF := mRun 3 3 b_PlainRun_init
def b_PlainRun_go : MS := (mSeq (mSetF (mVar 0) 6 0 (mVar 1))
    (mSetF (mVar 0) 6 1 (mVar 2)))
def m_PlainRun_go : MF := mRun 3 3 b_PlainRun_go
def b_PlainRun_step : MS := (mSeq (mIfS (mB (mOp oEq (mFld (mVar 0) 6 2) (mC (.int 0)))) (mSeq (mSetF (mVar 0) 6 6 (mTup (mCons (mC (.str 230422885)) mNil)))
    (mRet (mC (.bl false)))) mNext)
    (mSeq (mAugF oSub (mVar 0) 6 2 (mC (.int 1)))
    (mRet (mC (.bl true)))))
def m_PlainRun_step : MF := mRun 1 1 b_PlainRun_step
def b_PlainRun_wait : MS := (mExpr (mBM bAppend (mFld (mVar 0) 6 3) (mCons (mVar 1) mNil)))
def m_PlainRun_wait : MF := mRun 2 2 b_PlainRun_wait
def b_chosen : MS := (mSeq (mForT (mOp oIx (mVar 0) (mC (.int 2))) (.tup [2, 3]) (mIfS (mB (mOp oEq (mVar 2) (mVar 1))) (mRet (mVar 3)) mNext))
    (mRet (mOp oIx (mVar 0) (mC (.int 3)))))
def m_chosen : MF := mRun 2 4 b_chosen
def b_PlainRun_pass_through : MS := (mIfS (mB (mOp oEq (mVar 2) (mC (.str 245002731)))) (mIfS (mB (mMeth 6 m_PlainRun_step (mVar 0) mNil)) (mExpr (mMeth 6 m_PlainRun_go (mVar 0) (mCons (mOp oIx (mVar 1) (mC (.int 1))) (mCons (mFld (mVar 0) 6 1) mNil)))) mNext) (mIfS (mB (mOp oEq (mVar 2) (mC (.str 27057139961)))) (mExpr (mMeth 6 m_PlainRun_go (mVar 0) (mCons (mOp oIx (mVar 1) (mC (.int 3))) (mCons (mTup (mCons (mOp oIx (mFld (mVar 0) 6 1) (mC (.int 0))) (mCons (mMake 5 m_Link_init (mCons (mOp oIx (mVar 1) (mC (.int 1))) (mCons (mTup (mCons (mOp oIx (mVar 1) (mC (.int 2))) (mCons (mFld (mVar 0) 6 1) mNil))) (mCons (mOp oIx (mFld (mVar 0) 6 1) (mC (.int 1))) mNil)))) mNil))) mNil)))) (mIfS (mB (mOp oEq (mVar 2) (mC (.str 27615080933)))) (mSeq (mUnp [3, 4] (mCall m_find (mCons (mOp oIx (mFld (mVar 0) 6 1) (mC (.int 1))) (mCons (mOp oIx (mVar 1) (mC (.int 1))) mNil))))
    (mExpr (mMeth 6 m_PlainRun_go (mVar 0) (mCons (mVar 3) (mCons (mVar 4) mNil))))) (mIfS (mB (mOp oEq (mVar 2) (mC (.str 3983535845864)))) (mExpr (mMeth 6 m_PlainRun_go (mVar 0) (mCons (mCall m_chosen (mCons (mVar 1) (mCons (mDGet2 (mFld (mVar 0) 6 4) (mOp oIx (mVar 1) (mC (.int 1))) (mC (.int 0))) mNil))) (mCons (mFld (mVar 0) 6 1) mNil)))) (mSeq (mExpr (mMeth 6 m_PlainRun_wait (mVar 0) (mCons (mTup (mCons (mC (.str 1897204)) (mCons (mOp oIx (mVar 1) (mC (.int 1))) (mCons (mDGet2 (mFld (mVar 0) 6 4) (mOp oIx (mVar 1) (mC (.int 1))) (mC (.int 0))) mNil)))) mNil)))
    (mSeq (mDPut (mFld (mVar 0) 6 4) (mOp oIx (mVar 1) (mC (.int 1))) (mOp oIx (mVar 1) (mC (.int 2))))
    (mExpr (mMeth 6 m_PlainRun_go (mVar 0) (mCons (mOp oIx (mVar 1) (mC (.int 3))) (mCons (mFld (mVar 0) 6 1) mNil))))))))))
def m_PlainRun_pass_through : MF := mRun 3 5 b_PlainRun_pass_through
def b_PlainRun_begin : MS := (mSeq (mSet 1 (mFld (mVar 0) 6 0))
    (mSeq (mSet 2 (mOp oIx (mVar 1) (mC (.int 0))))
    (mSeq (mIfS (mB (mOp oEq (mVar 2) (mC (.str 1817325)))) (mRet (mOp oIx (mVar 1) (mC (.int 1)))) mNext)
    (mSeq (mIfS (mB (mOp oEq (mVar 2) (mC (.str 232290021)))) (mRet (mCall m_find (mCons (mOp oIx (mFld (mVar 0) 6 1) (mC (.int 0))) (mCons (mOp oIx (mVar 1) (mC (.int 1))) mNil)))) mNext)
    (mSeq (mIfS (mB (mOp oEq (mVar 2) (mC (.str 13166)))) (mRet (mTup (mCons (mC (.str 13166)) (mCons (mOp oIx (mVar 1) (mC (.int 1))) (mCons (mOp oIx (mVar 1) (mC (.int 2))) (mCons (mOp oIx (mVar 1) (mC (.int 3))) (mCons (mFld (mVar 0) 6 1) mNil))))))) mNext)
    (mSeq (mIfS (mB (mOp oEq (mVar 2) (mC (.str 1850100)))) (mSeq (mDPut (mFld (mVar 0) 6 4) (mOp oIx (mVar 1) (mC (.int 1))) (mOp oIx (mVar 1) (mC (.int 2))))
    (mRet (mC (.int 0)))) mNext)
    (mSeq (mIfS (mB (mOp oInS (mVar 2) (mTup (mCons (mC (.str 209221228)) (mCons (mC (.str 1899245)) (mCons (mC (.str 228162035)) (mCons (mC (.str 13542)) (mCons (mC (.str 1896697)) (mCons (mC (.str 1782516)) mNil))))))))) (mSeq (mExpr (mMeth 6 m_PlainRun_wait (mVar 0) (mCons (mTup (mCons (mVar 2) (mCons (mVar 1) (mCons (mFld (mVar 0) 6 1) mNil)))) mNil)))
    (mExpr (mMeth 6 m_PlainRun_go (mVar 0) (mCons (mOp oIx (mVar 1) (mC (.int 2))) (mCons (mFld (mVar 0) 6 1) mNil))))) (mExpr (mMeth 6 m_PlainRun_pass_through (mVar 0) (mCons (mVar 1) (mCons (mVar 2) mNil)))))
    (mRet (mC .non)))))))))
def m_PlainRun_begin : MF := mRun 1 3 b_PlainRun_begin
def b_PlainRun_stick : MS := (mSetF (mVar 0) 6 6 (mTup (mCons (mC (.str 31115276779)) (mCons (mVar 1) mNil))))
def m_PlainRun_stick : MF := mRun 2 2 b_PlainRun_stick
def b_PlainRun_decide : MS := (mIfS (mNot (mB (mUn uIsInt (mVar 3)))) (mExpr (mMeth 6 m_PlainRun_stick (mVar 0) (mCons (mOp oIx (mVar 1) (mC (.int 1))) mNil))) (mExpr (mMeth 6 m_PlainRun_go (mVar 0) (mCons (mIfE (mB (mOp oNe (mVar 3) (mC (.int 0)))) (mOp oIx (mVar 1) (mC (.int 3))) (mOp oIx (mVar 1) (mC (.int 4)))) (mCons (mVar 2) mNil)))))
def m_PlainRun_decide : MF := mRun 4 4 b_PlainRun_decide
def b_with_name_plain : MS := (mRet (mTup (mCons (mMake 5 m_Link_init (mCons (mVar 1) (mCons (mVar 2) (mCons (mOp oIx (mVar 0) (mC (.int 0))) mNil)))) (mCons (mOp oIx (mVar 0) (mC (.int 1))) mNil))))
def m_with_name_plain : MF := mRun 3 3 b_with_name_plain
def b_PlainRun_enter : MS := (mIfS (mOr (mB (mUn uIsInt (mVar 2))) (mB (mOp oNe (mOp oIx (mVar 2) (mC (.int 1))) (mVar 1)))) (mExpr (mMeth 6 m_PlainRun_stick (mVar 0) (mCons (mVar 1) mNil))) (mIfS (mB (mMeth 6 m_PlainRun_step (mVar 0) mNil)) (mExpr (mMeth 6 m_PlainRun_go (mVar 0) (mCons (mOp oIx (mVar 2) (mC (.int 3))) (mCons (mCall m_with_name_plain (mCons (mOp oIx (mVar 2) (mC (.int 4))) (mCons (mOp oIx (mVar 2) (mC (.int 2))) (mCons (mVar 3) mNil)))) mNil)))) mNext))
def m_PlainRun_enter : MF := mRun 4 4 b_PlainRun_enter
def b_PlainRun_operate : MS := (mSeq (mIfS (mB (mOp oEq (mOp oIx (mVar 1) (mC (.int 0))) (mC (.str 209221228)))) (mSeq (mExpr (mMeth 6 m_PlainRun_enter (mVar 0) (mCons (mOp oIx (mVar 1) (mC (.int 1))) (mCons (mVar 2) (mCons (mVar 3) mNil)))))
    (mRet (mC .non))) mNext)
    (mSeq (mIfS (mOr (mNot (mB (mUn uIsInt (mVar 2)))) (mNot (mB (mUn uIsInt (mVar 3))))) (mSeq (mExpr (mMeth 6 m_PlainRun_stick (mVar 0) (mCons (mOp oIx (mVar 1) (mC (.int 1))) mNil)))
    (mRet (mC .non))) mNext)
    (mRet (mIfE (mB (mOp oEq (mOp oIx (mVar 1) (mC (.int 0))) (mC (.str 1899245)))) (mOp oAdd (mVar 2) (mVar 3)) (mCall cInt (mCons (mOp oLt (mVar 2) (mVar 3)) mNil))))))
def m_PlainRun_operate : MF := mRun 4 4 b_PlainRun_operate
def b_PlainRun_resume : MS := (mSeq (mIfS (mNot (mTru (mFld (mVar 0) 6 3))) (mSeq (mSetF (mVar 0) 6 6 (mTup (mCons (mC (.str 31880592101)) (mCons (mCall m_shown_plain (mCons (mVar 1) mNil)) mNil))))
    (mRet (mC .non))) mNext)
    (mSeq (mSet 2 (mBM bPop (mFld (mVar 0) 6 3) mNil))
    (mSeq (mSet 3 (mOp oIx (mVar 2) (mC (.int 0))))
    (mSeq (mIfS (mB (mOp oEq (mVar 3) (mC (.str 1897204)))) (mSeq (mDPut (mFld (mVar 0) 6 4) (mOp oIx (mVar 2) (mC (.int 1))) (mOp oIx (mVar 2) (mC (.int 2))))
    (mRet (mVar 1))) mNext)
    (mSeq (mIfS (mB (mOp oEq (mVar 3) (mC (.str 3978691344228)))) (mRet (mMeth 6 m_PlainRun_operate (mVar 0) (mCons (mOp oIx (mVar 2) (mC (.int 1))) (mCons (mOp oIx (mVar 2) (mC (.int 2))) (mCons (mVar 1) mNil))))) mNext)
    (mSeq (mPar 4 5 (mCons (mOp oIx (mVar 2) (mC (.int 1))) (mCons (mOp oIx (mVar 2) (mC (.int 2))) mNil)))
    (mSeq (mIfS (mB (mOp oEq (mVar 3) (mC (.str 1896697)))) (mSeq (mExpr (mBM bAppend (mFld (mVar 0) 6 5) (mCons (mTup (mCons (mOp oIx (mVar 4) (mC (.int 1))) (mCons (mCall m_shown_plain (mCons (mVar 1) mNil)) mNil))) mNil)))
    (mRet (mVar 1))) mNext)
    (mSeq (mIfS (mB (mOp oEq (mVar 3) (mC (.str 1782516)))) (mExpr (mMeth 6 m_PlainRun_go (mVar 0) (mCons (mOp oIx (mVar 4) (mC (.int 3))) (mCons (mCall m_with_name_plain (mCons (mVar 5) (mCons (mOp oIx (mVar 4) (mC (.int 1))) (mCons (mVar 1) mNil)))) mNil)))) (mIfS (mB (mOp oEq (mVar 3) (mC (.str 13542)))) (mExpr (mMeth 6 m_PlainRun_decide (mVar 0) (mCons (mVar 4) (mCons (mVar 5) (mCons (mVar 1) mNil))))) (mSeq (mExpr (mMeth 6 m_PlainRun_wait (mVar 0) (mCons (mTup (mCons (mC (.str 3978691344228)) (mCons (mVar 4) (mCons (mVar 1) mNil)))) mNil)))
    (mExpr (mMeth 6 m_PlainRun_go (mVar 0) (mCons (mOp oIx (mVar 4) (mC (.int 3))) (mCons (mVar 5) mNil)))))))
    (mRet (mC .non))))))))))
def m_PlainRun_resume : MF := mRun 2 6 b_PlainRun_resume
def b_PlainRun_run : MS := (mWhile (mB (mOp oIsN (mFld (mVar 0) 6 6) (mC .non))) (mSeq (mSet 1 (mMeth 6 m_PlainRun_begin (mVar 0) mNil))
    (mWhile (mAnd (mB (mOp oNotN (mVar 1) (mC .non))) (mB (mOp oIsN (mFld (mVar 0) 6 6) (mC .non)))) (mSet 1 (mMeth 6 m_PlainRun_resume (mVar 0) (mCons (mVar 1) mNil))))))
def m_PlainRun_run : MF := mRun 1 2 b_PlainRun_run
def b_run_plain : MS := (mSeq (mSet 2 (mMake 6 m_PlainRun_init (mCons (mVar 0) (mCons (mVar 1) mNil))))
    (mSeq (mExpr (mMeth 6 m_PlainRun_run (mVar 2) mNil))
    (mRet (mTup (mCons (mCall cTuple (mCons (mFld (mVar 2) 6 5) mNil)) (mCons (mFld (mVar 2) 6 6) mNil))))))
def m_run_plain : MF := mRun 2 3 b_run_plain
def b_bound : MS := (mSeq (mIfS (mB (mOp oEq (mOp oIx (mVar 0) (mC (.int 0))) (mC (.str 1782516)))) (mRet (mTup (mCons (mC (.str 31880592101)) (mCons (mOp oIx (mVar 0) (mC (.int 1))) mNil)))) mNext)
    (mSeq (mIfS (mB (mOp oEq (mOp oIx (mVar 0) (mC (.int 0))) (mC (.str 13166)))) (mRet (mTup (mCons (mC (.str 31880592101)) (mCons (mOp oIx (mVar 0) (mC (.int 2))) mNil)))) mNext)
    (mRet (mIfE (mB (mOp oEq (mOp oIx (mVar 0) (mC (.int 0))) (mC (.str 27057139961)))) (mTup (mCons (mC (.str 27057139961)) (mCons (mOp oIx (mVar 0) (mC (.int 1))) mNil))) (mC .non)))))
def m_bound : MF := mRun 1 1 b_bound
def b_Layout_find_free : MS := (mForR3 (mCons (mOp oSub (mCall cLen (mCons (mFld (mVar 0) 7 0) mNil)) (mC (.int 1))) (mCons (mC (.int (-1))) (mCons (mC (.int (-1))) mNil))) (.one 1) (mSeq (mSet 2 (mOp oIx (mFld (mVar 0) 7 4) (mVar 1)))
    (mSeq (mIfS (mB (mOp oDIn (mVar 1) (mFld (mVar 0) 7 2))) (mDPut (mVar 2) (mOp oDGet (mFld (mVar 0) 7 2) (mVar 1)) (mC (.bl true))) mNext)
    (mForL (mOp oIx (mFld (mVar 0) 7 1) (mVar 1)) (.one 3) (mForK (mOp oIx (mFld (mVar 0) 7 4) (mVar 3)) (.one 4) (mIfS (mB (mOp oNe (mVar 4) (mVar 1))) (mDPut (mVar 2) (mVar 4) (mC (.bl true))) mNext))))))
def m_Layout_find_free : MF := mRun 1 5 b_Layout_find_free
def b_Layout_place : MS := (mSeq (mSet 3 (mCall cLen (mCons (mFld (mVar 0) 7 0) mNil)))
    (mSeq (mExpr (mBM bAppend (mFld (mVar 0) 7 0) (mCons (mVar 1) mNil)))
    (mSeq (mExpr (mBM bAppend (mFld (mVar 0) 7 1) (mCons (mLst mNil) mNil)))
    (mSeq (mIfS (mB (mOp oGe (mVar 2) (mC (.int 0)))) (mExpr (mBM bAppend (mOp oIx (mFld (mVar 0) 7 1) (mVar 2)) (mCons (mVar 3) mNil))) mNext)
    (mSeq (mIfS (mB (mOp oInS (mOp oIx (mVar 1) (mC (.int 0))) (mTup (mCons (mC (.str 232290021)) (mCons (mC (.str 27615080933)) mNil))))) (mSeq (mSet 4 (mDGet2 (mFld (mVar 0) 7 3) (mTup (mCons (mIfE (mB (mOp oEq (mOp oIx (mVar 1) (mC (.int 0))) (mC (.str 232290021)))) (mC (.str 31880592101)) (mC (.str 27057139961))) (mCons (mOp oIx (mVar 1) (mC (.int 1))) mNil))) (mLst mNil)))
    (mIfS (mTru (mVar 4)) (mDPut (mFld (mVar 0) 7 2) (mVar 3) (mOp oIx (mVar 4) (mC (.int (-1))))) mNext)) mNext)
    (mRet (mVar 3)))))))
def m_Layout_place : MF := mRun 3 5 b_Layout_place
def b_Layout_number : MS := (mSeq (mSet 2 (mLst (mCons (mTup (mCons (mC (.str 27344581362)) (mCons (mVar 1) (mCons (mC (.int (-1))) (mCons (mC .non) mNil))))) mNil)))
    (mWhile (mTru (mVar 2)) (mSeq (mUnp [3, 4, 5, 6] (mBM bPop (mVar 2) mNil))
    (mIfS (mB (mOp oEq (mVar 3) (mC (.str 26520188142)))) (mExpr (mBM bAppend (mSetdT (mFld (mVar 0) 7 3) (mVar 6) (mLst mNil)) (mCons (mVar 5) mNil))) (mIfS (mB (mOp oEq (mVar 3) (mC (.str 1668964)))) (mExpr (mBM bPop (mOp oDGet (mFld (mVar 0) 7 3) (mVar 6)) mNil)) (mSeq (mSet 7 (mMeth 7 m_Layout_place (mVar 0) (mCons (mVar 4) (mCons (mVar 5) mNil))))
    (mSeq (mSet 8 (mLcL (mCall m_inner (mCons (mVar 4) mNil)) (.one 9) mYes (mTup (mCons (mC (.str 27344581362)) (mCons (mVar 9) (mCons (mVar 7) (mCons (mC .non) mNil))))) [9]))
    (mSeq (mSet 6 (mCall m_bound (mCons (mVar 4) mNil)))
    (mSeq (mIfS (mB (mOp oNotN (mVar 6) (mC .non))) (mSet 8 (mOp oCatL (mSlL (mVar 8) mNoP (mP (mC (.int (-1))))) (mLst (mCons (mTup (mCons (mC (.str 26520188142)) (mCons (mC .non) (mCons (mVar 7) (mCons (mVar 6) mNil))))) (mCons (mOp oIx (mVar 8) (mC (.int (-1)))) (mCons (mTup (mCons (mC (.str 1668964)) (mCons (mC .non) (mCons (mVar 7) (mCons (mVar 6) mNil))))) mNil)))))) mNext)
    (mExpr (mBM bExtend (mVar 2) (mCons (mUn uRev (mVar 8)) mNil))))))))))))
def m_Layout_number : MF := mRun 2 10 b_Layout_number
def b_Layout_init : MS := (mSeq (mSetF (mVar 0) 7 0 (mLst mNil))
    (mSeq (mSetF (mVar 0) 7 1 (mLst mNil))
    (mSeq (mSetF (mVar 0) 7 2 (mDictK))
    (mSeq (mSetF (mVar 0) 7 3 (mDictT))
    (mSeq (mExpr (mMeth 7 m_Layout_number (mVar 0) (mCons (mVar 1) mNil)))
    (mSeq (mSetF (mVar 0) 7 4 (mLcL (mFld (mVar 0) 7 0) (.one 2) mYes (mDictK) [2]))
    (mExpr (mMeth 7 m_Layout_find_free (mVar 0) mNil))))))))
def m_Layout_init : MF := mRun 2 3 b_Layout_init
def b_Block_init : MS := (mSeq (mSetF (mVar 0) 8 0 (mVar 1))
    (mSeq (mSetF (mVar 0) 8 1 (mFld (mVar 1) 9 0))
    (mSeq (mSetF (mVar 0) 8 2 (mLst mNil))
    (mSeq (mSetF (mVar 0) 8 3 (mDictK))
    (mSeq (mSetF (mVar 0) 8 4 (mOp oAdd (mCall cLen (mCons (mVar 2) mNil)) (mIfE (mB (mOp oIsN (mVar 3) (mC .non))) (mC (.int 0)) (mC (.int 1)))))
    (mSeq (mSetF (mVar 0) 8 5 (mDcE (mVar 2) (.tup [4, 5]) (mVar 5) (mVar 4) [4, 5]))
    (mIfS (mB (mOp oNotN (mVar 3) (mC .non))) (mDPut (mFld (mVar 0) 8 5) (mVar 3) (mCall cLen (mCons (mVar 2) mNil))) mNext)))))))
def m_Block_init : MF := mRun 4 6 b_Block_init
def b_Block_label : MS := (mSeq (mDPut (mFld (mVar 0) 8 3) (mCall cLenD (mCons (mFld (mVar 0) 8 3) mNil)) (mC (.int 0)))
    (mRet (mOp oSub (mCall cLenD (mCons (mFld (mVar 0) 8 3) mNil)) (mC (.int 1)))))
def m_Block_label : MF := mRun 1 1 b_Block_label
def b_Block_slot : MS := (mSeq (mAugF oAdd (mVar 0) 8 4 (mC (.int 1)))
    (mRet (mOp oSub (mFld (mVar 0) 8 4) (mC (.int 1)))))
def m_Block_slot : MF := mRun 1 1 b_Block_slot
def b_Compiler_add : MS := (mSeq (mExpr (mBM bAppend (mFld (mVar 0) 9 1) (mCons (mTup (mCons (mVar 1) (mCons (mVar 2) (mCons (mVar 3) mNil)))) mNil)))
    (mRet (mOp oSub (mCall cLen (mCons (mFld (mVar 0) 9 1) mNil)) (mC (.int 1)))))
def m_Compiler_add : MF := mRun 4 4 b_Compiler_add
def b_Block_captured : MS := (mSeq (mSet 4 (mCall cSorted (mCons (mLcK (mOp oIx (mFld (mFld (mVar 0) 8 1) 7 4) (mVar 1)) (.one 5) (mB (mOp oNe (mVar 5) (mVar 2))) (mVar 5) [5]) mNil)))
    (mSeq (mSet 6 (mMeth 9 m_Compiler_add (mFld (mVar 0) 8 0) (mCons (mVar 1) (mCons (mVar 4) (mCons (mVar 3) mNil)))))
    (mRet (mTup (mCons (mVar 6) (mCons (mCall cTuple (mCons (mLcL (mVar 4) (.one 5) mYes (mOp oDGet (mFld (mVar 0) 8 5) (mVar 5)) [5]) mNil)) mNil))))))
def m_Block_captured : MF := mRun 4 7 b_Block_captured
def b_Block_binding : MS := (mSeq (mSet 4 (mMeth 8 m_Block_slot (mVar 0) mNil))
    (mSeq (mIfS (mB (mOp oEq (mOp oIx (mVar 1) (mC (.int 0))) (mC (.str 1782516)))) (mSeq (mDPut (mFld (mVar 0) 8 5) (mVar 2) (mVar 4))
    (mRet (mLst (mCons (mTup (mCons (mC (.str 101)) (mCons (mOp oIx (mVar 3) (mC (.int 0))) mNil))) (mCons (mTup (mCons (mC (.str 105)) (mCons (mTup (mCons (mC (.str 31115180389)) (mCons (mVar 4) mNil))) mNil))) (mCons (mTup (mCons (mC (.str 101)) (mCons (mOp oIx (mVar 3) (mC (.int 1))) mNil))) mNil)))))) mNext)
    (mSeq (mUnp [5, 6] (mMeth 8 m_Block_captured (mVar 0) (mCons (mOp oIx (mVar 3) (mC (.int 0))) (mCons (mC (.int (-1))) (mCons (mC .non) mNil)))))
    (mSeq (mDPut (mFld (mVar 0) 8 5) (mVar 2) (mVar 4))
    (mRet (mLst (mCons (mTup (mCons (mC (.str 105)) (mCons (mTup (mCons (mC (.str 31358547819)) (mCons (mVar 5) (mCons (mVar 6) mNil)))) mNil))) (mCons (mTup (mCons (mC (.str 105)) (mCons (mTup (mCons (mC (.str 31115180389)) (mCons (mVar 4) mNil))) mNil))) (mCons (mTup (mCons (mC (.str 101)) (mCons (mOp oIx (mVar 3) (mC (.int 1))) mNil))) mNil)))))))))
def m_Block_binding : MF := mRun 4 7 b_Block_binding
def b_Block_branching : MS := (mSeq (mSet 3 (mMeth 8 m_Block_label (mVar 0) mNil))
    (mSeq (mIfS (mB (mOp oEq (mOp oIx (mVar 1) (mC (.int 0))) (mC (.str 13542)))) (mSeq (mSet 4 (mMeth 8 m_Block_label (mVar 0) mNil))
    (mSeq (mSet 5 (mLst (mCons (mTup (mCons (mC (.str 101)) (mCons (mOp oIx (mVar 2) (mC (.int 0))) mNil))) (mCons (mTup (mCons (mC (.str 105)) (mCons (mTup (mCons (mC (.str 244939252)) (mCons (mOp oIx (mVar 1) (mC (.int 1))) (mCons (mVar 4) mNil)))) mNil))) (mCons (mTup (mCons (mC (.str 101)) (mCons (mOp oIx (mVar 2) (mC (.int 1))) mNil))) (mCons (mTup (mCons (mC (.str 105)) (mCons (mTup (mCons (mC (.str 224229104)) (mCons (mVar 3) mNil))) mNil))) mNil))))))
    (mRet (mOp oCatL (mVar 5) (mLst (mCons (mTup (mCons (mC (.str 29196071660)) (mCons (mVar 4) mNil))) (mCons (mTup (mCons (mC (.str 101)) (mCons (mOp oIx (mVar 2) (mC (.int 2))) mNil))) (mCons (mTup (mCons (mC (.str 29196071660)) (mCons (mVar 3) mNil))) mNil)))))))) mNext)
    (mSeq (mSet 6 (mLcL (mVar 2) (.one 7) mYes (mMeth 8 m_Block_label (mVar 0) mNil) [7]))
    (mSeq (mSet 8 (mCall cTuple (mCons (mLcE (mOp oIx (mVar 1) (mC (.int 2))) (.tup [9, 10]) mYes (mTup (mCons (mOp oIx (mVar 10) (mC (.int 0))) (mCons (mOp oIx (mVar 6) (mVar 9)) mNil))) [9, 10]) mNil)))
    (mSeq (mSet 11 (mLst (mCons (mTup (mCons (mC (.str 105)) (mCons (mTup (mCons (mC (.str 3983535845864)) (mCons (mOp oIx (mVar 1) (mC (.int 1))) (mCons (mVar 8) (mCons (mOp oIx (mVar 6) (mC (.int (-1)))) mNil))))) mNil))) mNil)))
    (mSeq (mForEL (mVar 2) (.tup [9, 7]) (mSet 11 (mOp oCatL (mVar 11) (mLst (mCons (mTup (mCons (mC (.str 29196071660)) (mCons (mOp oIx (mVar 6) (mVar 9)) mNil))) (mCons (mTup (mCons (mC (.str 101)) (mCons (mVar 7) mNil))) (mCons (mTup (mCons (mC (.str 105)) (mCons (mTup (mCons (mC (.str 224229104)) (mCons (mVar 3) mNil))) mNil))) mNil)))))))
    (mRet (mOp oCatL (mVar 11) (mLst (mCons (mTup (mCons (mC (.str 29196071660)) (mCons (mVar 3) mNil))) mNil))))))))))
def m_Block_branching : MF := mRun 3 12 b_Block_branching
def b_Block_tasks : MS := (mSeq (mSet 2 (mOp oIx (mFld (mFld (mVar 0) 8 1) 7 0) (mVar 1)))
    (mSeq (mSet 3 (mOp oIx (mFld (mFld (mVar 0) 8 1) 7 1) (mVar 1)))
    (mSeq (mSet 4 (mOp oIx (mVar 2) (mC (.int 0))))
    (mSeq (mIfS (mB (mOp oEq (mVar 4) (mC (.str 1817325)))) (mRet (mLst (mCons (mTup (mCons (mC (.str 105)) (mCons (mTup (mCons (mC (.str 1734516)) (mCons (mOp oIx (mVar 2) (mC (.int 1))) mNil))) mNil))) mNil))) mNext)
    (mSeq (mIfS (mOr (mB (mOp oEq (mVar 4) (mC (.str 232290021)))) (mB (mOp oEq (mVar 4) (mC (.str 27615080933))))) (mSeq (mSet 5 (mDGet2 (mFld (mVar 0) 8 5) (mDGet2 (mFld (mFld (mVar 0) 8 1) 7 2) (mVar 1) (mC (.int (-1)))) (mC (.int 0))))
    (mRet (mLst (mCons (mTup (mCons (mC (.str 105)) (mCons (mTup (mCons (mIfE (mB (mOp oEq (mVar 4) (mC (.str 232290021)))) (mC (.str 228323556)) (mC (.str 27615080933))) (mCons (mVar 5) mNil))) mNil))) mNil)))) mNext)
    (mSeq (mIfS (mB (mOp oEq (mVar 4) (mC (.str 1850100)))) (mRet (mLst (mCons (mTup (mCons (mC (.str 105)) (mCons (mVar 2) mNil))) mNil))) mNext)
    (mSeq (mIfS (mB (mOp oEq (mVar 4) (mC (.str 13166)))) (mSeq (mUnp [6, 7] (mMeth 8 m_Block_captured (mVar 0) (mCons (mOp oIx (mVar 3) (mC (.int 0))) (mCons (mVar 1) (mCons (mVar 1) mNil)))))
    (mRet (mLst (mCons (mTup (mCons (mC (.str 105)) (mCons (mTup (mCons (mC (.str 26803436005)) (mCons (mVar 6) (mCons (mOp oIx (mVar 2) (mC (.int 1))) (mCons (mVar 7) mNil))))) mNil))) mNil)))) mNext)
    (mSeq (mIfS (mB (mOp oInS (mVar 4) (mTup (mCons (mC (.str 209221228)) (mCons (mC (.str 1899245)) (mCons (mC (.str 228162035)) mNil)))))) (mRet (mLst (mCons (mTup (mCons (mC (.str 101)) (mCons (mOp oIx (mVar 3) (mC (.int 0))) mNil))) (mCons (mTup (mCons (mC (.str 101)) (mCons (mOp oIx (mVar 3) (mC (.int 1))) mNil))) (mCons (mTup (mCons (mC (.str 105)) (mCons (mTup (mCons (mVar 4) (mCons (mOp oIx (mVar 2) (mC (.int 1))) mNil))) mNil))) mNil))))) mNext)
    (mSeq (mIfS (mB (mOp oEq (mVar 4) (mC (.str 1896697)))) (mRet (mLst (mCons (mTup (mCons (mC (.str 101)) (mCons (mOp oIx (mVar 3) (mC (.int 0))) mNil))) (mCons (mTup (mCons (mC (.str 105)) (mCons (mTup (mCons (mVar 4) (mCons (mOp oIx (mVar 2) (mC (.int 1))) mNil))) mNil))) mNil)))) mNext)
    (mSeq (mIfS (mB (mOp oEq (mVar 4) (mC (.str 245002731)))) (mRet (mLst (mCons (mTup (mCons (mC (.str 105)) (mCons (mTup (mCons (mC (.str 245002731)) mNil)) mNil))) (mCons (mTup (mCons (mC (.str 101)) (mCons (mOp oIx (mVar 3) (mC (.int 0))) mNil))) mNil)))) mNext)
    (mSeq (mIfS (mB (mOp oEq (mVar 4) (mC (.str 1897204)))) (mRet (mLst (mCons (mTup (mCons (mC (.str 105)) (mCons (mTup (mCons (mC (.str 27344581362)) (mCons (mOp oIx (mVar 2) (mC (.int 1))) (mCons (mOp oIx (mVar 2) (mC (.int 2))) mNil)))) mNil))) (mCons (mTup (mCons (mC (.str 101)) (mCons (mOp oIx (mVar 3) (mC (.int 0))) mNil))) (mCons (mTup (mCons (mC (.str 105)) (mCons (mTup (mCons (mC (.str 29204446053)) (mCons (mOp oIx (mVar 2) (mC (.int 1))) mNil))) mNil))) mNil))))) mNext)
    (mRet (mIfE (mB (mOp oInS (mVar 4) (mTup (mCons (mC (.str 13542)) (mCons (mC (.str 3983535845864)) mNil))))) (mMeth 8 m_Block_branching (mVar 0) (mCons (mVar 2) (mCons (mVar 3) mNil))) (mMeth 8 m_Block_binding (mVar 0) (mCons (mVar 2) (mCons (mVar 1) (mCons (mVar 3) mNil)))))))))))))))))
def m_Block_tasks : MF := mRun 2 8 b_Block_tasks
def b_Block_fill : MS := (mSeq (mSet 2 (mLst (mCons (mTup (mCons (mC (.str 105)) (mCons (mTup (mCons (mC (.str 3944367356270)) mNil)) mNil))) (mCons (mTup (mCons (mC (.str 101)) (mCons (mVar 1) mNil))) mNil))))
    (mWhile (mTru (mVar 2)) (mSeq (mUnp [3, 4] (mBM bPop (mVar 2) mNil))
    (mIfS (mB (mOp oEq (mVar 3) (mC (.str 105)))) (mExpr (mBM bAppend (mFld (mVar 0) 8 2) (mCons (mVar 4) mNil))) (mIfS (mB (mOp oEq (mVar 3) (mC (.str 29196071660)))) (mDPut (mFld (mVar 0) 8 3) (mVar 4) (mCall cLen (mCons (mFld (mVar 0) 8 2) mNil))) (mExpr (mBM bExtend (mVar 2) (mCons (mUn uRev (mMeth 8 m_Block_tasks (mVar 0) (mCons (mVar 4) mNil))) mNil))))))))
def m_Block_fill : MF := mRun 2 5 b_Block_fill
def b_Block_linked : MS := (mSeq (mIfS (mB (mOp oEq (mOp oIx (mVar 1) (mC (.int 0))) (mC (.str 244939252)))) (mRet (mTup (mCons (mC (.str 244939252)) (mCons (mOp oIx (mVar 1) (mC (.int 1))) (mCons (mOp oDGet (mFld (mVar 0) 8 3) (mOp oIx (mVar 1) (mC (.int 2)))) mNil))))) mNext)
    (mSeq (mIfS (mB (mOp oEq (mOp oIx (mVar 1) (mC (.int 0))) (mC (.str 224229104)))) (mRet (mTup (mCons (mC (.str 224229104)) (mCons (mOp oDGet (mFld (mVar 0) 8 3) (mOp oIx (mVar 1) (mC (.int 1)))) mNil)))) mNext)
    (mSeq (mIfS (mB (mOp oEq (mOp oIx (mVar 1) (mC (.int 0))) (mC (.str 3983535845864)))) (mSeq (mSet 2 (mCall cTuple (mCons (mLcT (mOp oIx (mVar 1) (mC (.int 2))) (.tup [3, 4]) mYes (mTup (mCons (mVar 3) (mCons (mOp oDGet (mFld (mVar 0) 8 3) (mVar 4)) mNil))) [3, 4]) mNil)))
    (mRet (mTup (mCons (mC (.str 3983535845864)) (mCons (mOp oIx (mVar 1) (mC (.int 1))) (mCons (mVar 2) (mCons (mOp oDGet (mFld (mVar 0) 8 3) (mOp oIx (mVar 1) (mC (.int 3)))) mNil))))))) mNext)
    (mRet (mVar 1)))))
def m_Block_linked : MF := mRun 2 5 b_Block_linked
def b_Block_made : MS := (mRet (mTup (mCons (mFld (mVar 0) 8 4) (mCons (mCall cTuple (mCons (mLcL (mFld (mVar 0) 8 2) (.one 1) mYes (mMeth 8 m_Block_linked (mVar 0) (mCons (mVar 1) mNil)) [1]) mNil)) mNil))))
def m_Block_made : MF := mRun 1 2 b_Block_made
def b_Compiler_init : MS := (mSeq (mSetF (mVar 0) 9 0 (mVar 1))
    (mSetF (mVar 0) 9 1 (mLst mNil)))
def m_Compiler_init : MF := mRun 2 2 b_Compiler_init
def b_compile_plain : MS := (mSeq (mSet 1 (mMake 9 m_Compiler_init (mCons (mMake 7 m_Layout_init (mCons (mVar 0) mNil)) mNil)))
    (mSeq (mExpr (mMeth 9 m_Compiler_add (mVar 1) (mCons (mC (.int 0)) (mCons (mLst mNil) (mCons (mC .non) mNil)))))
    (mSeq (mSet 2 (mLst mNil))
    (mSeq (mWhile (mB (mOp oLt (mCall cLen (mCons (mVar 2) mNil)) (mCall cLen (mCons (mFld (mVar 1) 9 1) mNil)))) (mSeq (mUnp [3, 4, 5] (mOp oIx (mFld (mVar 1) 9 1) (mCall cLen (mCons (mVar 2) mNil))))
    (mSeq (mSet 6 (mMake 8 m_Block_init (mCons (mVar 1) (mCons (mVar 4) (mCons (mVar 5) mNil)))))
    (mSeq (mExpr (mMeth 8 m_Block_fill (mVar 6) (mCons (mVar 3) mNil)))
    (mExpr (mBM bAppend (mVar 2) (mCons (mMeth 8 m_Block_made (mVar 6) mNil) mNil)))))))
    (mRet (mCall cTuple (mCons (mVar 2) mNil)))))))
def m_compile_plain : MF := mRun 1 7 b_compile_plain
def b_parts_of : MS := (mSeq (mIfS (mB (mOp oInS (mOp oIx (mVar 0) (mC (.int 0))) (mTup (mCons (mC (.str 209221228)) (mCons (mC (.str 1899245)) (mCons (mC (.str 228162035)) (mCons (mC (.str 13542)) (mCons (mC (.str 1896697)) mNil)))))))) (mRet (mSlT (mVar 0) (mP (mC (.int 1))) mNoP)) mNext)
    (mRet (mIfE (mB (mOp oEq (mOp oIx (mVar 0) (mC (.int 0))) (mC (.str 1782516)))) (mTup (mCons (mOp oIx (mVar 0) (mC (.int 2))) mNil)) (mTup mNil))))
def m_parts_of : MF := mRun 1 1 b_parts_of
def b_shown_tower : MS := (mRet (mIfE (mB (mUn uIsInt (mVar 0))) (mVar 0) (mTup (mCons (mC (.str 13166)) (mCons (mOp oIx (mVar 0) (mC (.int 1))) mNil)))))
def m_shown_tower : MF := mRun 1 1 b_shown_tower
def b_Setting_init : MS := (mSeq (mSetF (mVar 0) 10 0 (mVar 1))
    (mSeq (mSetF (mVar 0) 10 1 (mVar 2))
    (mSetF (mVar 0) 10 2 (mVar 3))))
def m_Setting_init : MF := mRun 4 4 b_Setting_init
def b_Setting_with_name : MS := (mSeq (mSet 3 (mCall cDict (mCons (mFld (mVar 0) 10 1) mNil)))
    (mSeq (mDPut (mVar 3) (mVar 1) (mVar 2))
    (mRet (mMake 10 m_Setting_init (mCons (mFld (mVar 0) 10 0) (mCons (mVar 3) (mCons (mFld (mVar 0) 10 2) mNil)))))))
def m_Setting_with_name : MF := mRun 3 4 b_Setting_with_name
def b_Tower_init : MS := (mSeq (mSetF (mVar 0) 11 0 (mVar 1))
    (mSeq (mSetF (mVar 0) 11 1 (mMake 10 m_Setting_init (mCons (mC (.int 0)) (mCons (mDictK) (mCons (mC .non) mNil)))))
    (mSeq (mSetF (mVar 0) 11 2 (mC (.bl false)))
    (mSeq (mSetF (mVar 0) 11 3 (mVar 2))
    (mSeq (mSetF (mVar 0) 11 4 (mDictT))
    (mSeq (mSetF (mVar 0) 11 5 (mLst mNil))
    (mSeq (mSetF (mVar 0) 11 6 (mLst mNil))
    (mSetF (mVar 0) 11 7 (mC .non)))))))))
def m_Tower_init : MF := mRun 3 3 b_Tower_init
def b_Tower_go : MS := (mSeq (mSetF (mVar 0) 11 0 (mVar 1))
    (mSeq (mSetF (mVar 0) 11 1 (mVar 2))
    (mSetF (mVar 0) 11 2 (mC (.bl false)))))
def m_Tower_go : MF := mRun 3 3 b_Tower_go
def b_Tower_go_built_in : MS := (mSeq (mExpr (mMeth 11 m_Tower_go (mVar 0) (mCons (mVar 1) (mCons (mVar 2) mNil))))
    (mSetF (mVar 0) 11 2 (mC (.bl true))))
def m_Tower_go_built_in : MF := mRun 3 3 b_Tower_go_built_in
def b_Tower_step : MS := (mSeq (mIfS (mB (mOp oEq (mFld (mVar 0) 11 3) (mC (.int 0)))) (mSeq (mSetF (mVar 0) 11 7 (mTup (mCons (mC (.str 230422885)) mNil)))
    (mRet (mC (.bl false)))) mNext)
    (mSeq (mAugF oSub (mVar 0) 11 3 (mC (.int 1)))
    (mRet (mC (.bl true)))))
def m_Tower_step : MF := mRun 1 1 b_Tower_step
def b_Tower_change_or_ask : MS := (mSeq (mSet 3 (mOp oIx (mVar 1) (mC (.int 0))))
    (mIfS (mB (mOp oEq (mVar 3) (mC (.str 241006181)))) (mSeq (mSet 4 (mTup (mCons (mFld (mVar 2) 10 0) (mCons (mOp oIx (mVar 1) (mC (.int 1))) mNil))))
    (mSeq (mExpr (mBM bAppend (mFld (mVar 0) 11 5) (mCons (mTup (mCons (mC (.str 207122923)) (mCons (mVar 4) (mCons (mDGet1 (mFld (mVar 0) 11 4) (mVar 4)) mNil)))) mNil)))
    (mSeq (mDPut (mFld (mVar 0) 11 4) (mVar 4) (mOp oIx (mVar 1) (mC (.int 2))))
    (mExpr (mMeth 11 m_Tower_go (mVar 0) (mCons (mOp oIx (mVar 1) (mC (.int 3))) (mCons (mVar 2) mNil))))))) (mIfS (mB (mOp oEq (mVar 3) (mC (.str 251296360)))) (mSeq (mExpr (mBM bAppend (mFld (mVar 0) 11 5) (mCons (mTup (mCons (mC (.str 251296360)) (mCons (mVar 1) (mCons (mVar 2) mNil)))) mNil)))
    (mExpr (mMeth 11 m_Tower_go (mVar 0) (mCons (mOp oIx (mVar 1) (mC (.int 1))) (mCons (mVar 2) mNil))))) (mIfS (mB (mOp oEq (mVar 3) (mC (.str 12911)))) (mSeq (mExpr (mBM bAppend (mFld (mVar 0) 11 5) (mCons (mTup (mCons (mC (.str 12911)) (mCons (mVar 1) (mCons (mVar 2) (mCons (mTup mNil) mNil))))) mNil)))
    (mExpr (mMeth 11 m_Tower_go (mVar 0) (mCons (mOp oIx (mOp oIx (mVar 1) (mC (.int 1))) (mC (.int 0))) (mCons (mVar 2) mNil))))) (mIfS (mB (mMeth 11 m_Tower_step (mVar 0) mNil)) (mSeq (mUnp [5, 6] (mFld (mVar 2) 10 2))
    (mIfS (mB (mOp oEq (mVar 3) (mC (.str 236484980)))) (mExpr (mMeth 11 m_Tower_go (mVar 0) (mCons (mOp oIx (mCall m_parts_of (mCons (mVar 5) mNil)) (mOp oIx (mVar 1) (mC (.int 1)))) (mCons (mVar 6) mNil)))) (mExpr (mMeth 11 m_Tower_go_built_in (mVar 0) (mCons (mVar 5) (mCons (mVar 6) mNil)))))) mNext)))))
def m_Tower_change_or_ask : MF := mRun 3 7 b_Tower_change_or_ask
def b_Tower_begin : MS := (mSeq (mSet 1 (mFld (mVar 0) 11 0))
    (mSeq (mSet 2 (mFld (mVar 0) 11 1))
    (mSeq (mIfS (mAnd (mB (mOp oInS (mOp oIx (mVar 1) (mC (.int 0))) (mC g_CHANGEABLE))) (mNot (mB (mFld (mVar 0) 11 2)))) (mSeq (mSet 3 (mDGet1 (mFld (mVar 0) 11 4) (mTup (mCons (mFld (mVar 2) 10 0) (mCons (mOp oIx (mVar 1) (mC (.int 0))) mNil)))))
    (mIfS (mB (mOp oNotN (mVar 3) (mC .non))) (mSeq (mExpr (mMeth 11 m_Tower_go (mVar 0) (mCons (mVar 3) (mCons (mMake 10 m_Setting_init (mCons (mOp oAdd (mFld (mVar 2) 10 0) (mC (.int 1))) (mCons (mDictK) (mCons (mTup (mCons (mVar 1) (mCons (mVar 2) mNil))) mNil)))) mNil))))
    (mRet (mC .non))) mNext)) mNext)
    (mSeq (mIfS (mB (mOp oEq (mOp oIx (mVar 1) (mC (.int 0))) (mC (.str 1817325)))) (mRet (mOp oIx (mVar 1) (mC (.int 1)))) mNext)
    (mSeq (mIfS (mB (mOp oEq (mOp oIx (mVar 1) (mC (.int 0))) (mC (.str 232290021)))) (mRet (mOp oDGet (mFld (mVar 2) 10 1) (mOp oIx (mVar 1) (mC (.int 1))))) mNext)
    (mSeq (mIfS (mB (mOp oEq (mOp oIx (mVar 1) (mC (.int 0))) (mC (.str 13166)))) (mRet (mTup (mCons (mC (.str 13166)) (mCons (mFld (mVar 2) 10 0) (mCons (mOp oIx (mVar 1) (mC (.int 1))) (mCons (mOp oIx (mVar 1) (mC (.int 2))) (mCons (mVar 2) mNil))))))) mNext)
    (mSeq (mIfS (mB (mOp oInS (mOp oIx (mVar 1) (mC (.int 0))) (mC g_CHANGEABLE))) (mSeq (mExpr (mBM bAppend (mFld (mVar 0) 11 5) (mCons (mTup (mCons (mOp oIx (mVar 1) (mC (.int 0))) (mCons (mVar 1) (mCons (mVar 2) mNil)))) mNil)))
    (mSeq (mExpr (mMeth 11 m_Tower_go (mVar 0) (mCons (mOp oIx (mCall m_parts_of (mCons (mVar 1) mNil)) (mC (.int 0))) (mCons (mVar 2) mNil))))
    (mRet (mC .non)))) mNext)
    (mSeq (mIfS (mB (mOp oEq (mOp oIx (mVar 1) (mC (.int 0))) (mC (.str 226063088)))) (mSeq (mDPut (mFld (mVar 0) 11 4) (mTup (mCons (mFld (mVar 2) 10 0) (mCons (mOp oIx (mVar 1) (mC (.int 1))) mNil))) (mOp oIx (mVar 1) (mC (.int 2))))
    (mRet (mC (.int 0)))) mNext)
    (mSeq (mExpr (mMeth 11 m_Tower_change_or_ask (mVar 0) (mCons (mVar 1) (mCons (mVar 2) mNil))))
    (mRet (mC .non)))))))))))
def m_Tower_begin : MF := mRun 1 4 b_Tower_begin
def b_Tower_bind_let : MS := (mIfS (mB (mMeth 11 m_Tower_step (mVar 0) mNil)) (mSeq (mUnp [3, 4] (mVar 1))
    (mExpr (mMeth 11 m_Tower_go (mVar 0) (mCons (mOp oIx (mVar 3) (mC (.int 3))) (mCons (mMeth 10 m_Setting_with_name (mVar 4) (mCons (mOp oIx (mVar 3) (mC (.int 1))) (mCons (mVar 2) mNil))) mNil))))) mNext)
def m_Tower_bind_let : MF := mRun 3 5 b_Tower_bind_let
def b_Tower_stick : MS := (mSetF (mVar 0) 11 7 (mTup (mCons (mC (.str 31115276779)) (mCons (mVar 1) mNil))))
def m_Tower_stick : MF := mRun 2 2 b_Tower_stick
def b_Tower_decide : MS := (mIfS (mNot (mB (mUn uIsInt (mVar 3)))) (mExpr (mMeth 11 m_Tower_stick (mVar 0) (mCons (mFld (mVar 2) 10 0) mNil))) (mExpr (mMeth 11 m_Tower_go (mVar 0) (mCons (mIfE (mB (mOp oNe (mVar 3) (mC (.int 0)))) (mOp oIx (mVar 1) (mC (.int 2))) (mOp oIx (mVar 1) (mC (.int 3)))) (mCons (mVar 2) mNil)))))
def m_Tower_decide : MF := mRun 4 4 b_Tower_decide
def b_Tower_enter : MS := (mIfS (mOr (mB (mUn uIsInt (mVar 2))) (mB (mOp oNe (mOp oIx (mVar 2) (mC (.int 1))) (mVar 1)))) (mExpr (mMeth 11 m_Tower_stick (mVar 0) (mCons (mVar 1) mNil))) (mIfS (mB (mMeth 11 m_Tower_step (mVar 0) mNil)) (mExpr (mMeth 11 m_Tower_go (mVar 0) (mCons (mOp oIx (mVar 2) (mC (.int 3))) (mCons (mMeth 10 m_Setting_with_name (mOp oIx (mVar 2) (mC (.int 4))) (mCons (mOp oIx (mVar 2) (mC (.int 2))) (mCons (mVar 3) mNil))) mNil)))) mNext))
def m_Tower_enter : MF := mRun 4 4 b_Tower_enter
def b_Tower_operate : MS := (mSeq (mIfS (mB (mOp oEq (mVar 1) (mC (.str 1896697)))) (mSeq (mExpr (mBM bAppend (mFld (mVar 0) 11 6) (mCons (mTup (mCons (mVar 2) (mCons (mCall m_shown_tower (mCons (mOp oIx (mVar 3) (mC (.int 0))) mNil)) mNil))) mNil)))
    (mRet (mOp oIx (mVar 3) (mC (.int 0))))) mNext)
    (mSeq (mUnp [4, 5] (mVar 3))
    (mSeq (mIfS (mB (mOp oEq (mVar 1) (mC (.str 209221228)))) (mSeq (mExpr (mMeth 11 m_Tower_enter (mVar 0) (mCons (mVar 2) (mCons (mVar 4) (mCons (mVar 5) mNil)))))
    (mRet (mC .non))) mNext)
    (mSeq (mIfS (mOr (mNot (mB (mUn uIsInt (mVar 4)))) (mNot (mB (mUn uIsInt (mVar 5))))) (mSeq (mExpr (mMeth 11 m_Tower_stick (mVar 0) (mCons (mVar 2) mNil)))
    (mRet (mC .non))) mNext)
    (mRet (mIfE (mB (mOp oEq (mVar 1) (mC (.str 1899245)))) (mOp oAdd (mVar 4) (mVar 5)) (mCall cInt (mCons (mOp oLt (mVar 4) (mVar 5)) mNil))))))))
def m_Tower_operate : MF := mRun 4 6 b_Tower_operate
def b_Tower_gathered : MS := (mSeq (mIfS (mB (mOp oLt (mCall cLen (mCons (mVar 3) mNil)) (mCall cLen (mCons (mOp oIx (mVar 1) (mC (.int 1))) mNil)))) (mSeq (mExpr (mBM bAppend (mFld (mVar 0) 11 5) (mCons (mTup (mCons (mC (.str 12911)) (mCons (mVar 1) (mCons (mVar 2) (mCons (mVar 3) mNil))))) mNil)))
    (mSeq (mExpr (mMeth 11 m_Tower_go (mVar 0) (mCons (mOp oIx (mOp oIx (mVar 1) (mC (.int 1))) (mCall cLen (mCons (mVar 3) mNil))) (mCons (mVar 2) mNil))))
    (mRet (mC .non)))) mNext)
    (mSeq (mIfS (mNot (mB (mMeth 11 m_Tower_step (mVar 0) mNil))) (mRet (mC .non)) mNext)
    (mSeq (mUnp [4, 5] (mFld (mVar 2) 10 2))
    (mRet (mMeth 11 m_Tower_operate (mVar 0) (mCons (mOp oIx (mVar 4) (mC (.int 0))) (mCons (mFld (mVar 5) 10 0) (mCons (mVar 3) mNil))))))))
def m_Tower_gathered : MF := mRun 4 6 b_Tower_gathered
def b_Tower_put_back : MS := (mIfS (mB (mOp oIsN (mVar 2) (mC .non))) (mExpr (mDPopT (mFld (mVar 0) 11 4) (mVar 1) (mC .non))) (mDPut (mFld (mVar 0) 11 4) (mVar 1) (mVar 2)))
def m_Tower_put_back : MF := mRun 3 3 b_Tower_put_back
def b_Tower_resume : MS := (mSeq (mIfS (mNot (mTru (mFld (mVar 0) 11 5))) (mSeq (mSetF (mVar 0) 11 7 (mTup (mCons (mC (.str 31880592101)) (mCons (mCall m_shown_tower (mCons (mVar 1) mNil)) mNil))))
    (mRet (mC .non))) mNext)
    (mSeq (mSet 2 (mBM bPop (mFld (mVar 0) 11 5) mNil))
    (mSeq (mSet 3 (mOp oIx (mVar 2) (mC (.int 0))))
    (mSeq (mIfS (mB (mOp oEq (mVar 3) (mC (.str 207122923)))) (mSeq (mExpr (mMeth 11 m_Tower_put_back (mVar 0) (mCons (mOp oIx (mVar 2) (mC (.int 1))) (mCons (mOp oIx (mVar 2) (mC (.int 2))) mNil))))
    (mRet (mVar 1))) mNext)
    (mSeq (mIfS (mB (mOp oEq (mVar 3) (mC (.str 3978691344228)))) (mRet (mMeth 11 m_Tower_operate (mVar 0) (mCons (mOp oIx (mVar 2) (mC (.int 1))) (mCons (mOp oIx (mVar 2) (mC (.int 2))) (mCons (mTup (mCons (mOp oIx (mVar 2) (mC (.int 3))) (mCons (mVar 1) mNil))) mNil))))) mNext)
    (mSeq (mPar 4 5 (mCons (mOp oIx (mVar 2) (mC (.int 1))) (mCons (mOp oIx (mVar 2) (mC (.int 2))) mNil)))
    (mSeq (mIfS (mB (mOp oEq (mVar 3) (mC (.str 12911)))) (mRet (mMeth 11 m_Tower_gathered (mVar 0) (mCons (mVar 4) (mCons (mVar 5) (mCons (mOp oCatT (mOp oIx (mVar 2) (mC (.int 3))) (mTup (mCons (mVar 1) mNil))) mNil))))) mNext)
    (mSeq (mIfS (mB (mOp oEq (mVar 3) (mC (.str 1896697)))) (mRet (mMeth 11 m_Tower_operate (mVar 0) (mCons (mC (.str 1896697)) (mCons (mFld (mVar 5) 10 0) (mCons (mTup (mCons (mVar 1) mNil)) mNil))))) mNext)
    (mSeq (mIfS (mB (mOp oEq (mVar 3) (mC (.str 1782516)))) (mExpr (mMeth 11 m_Tower_go (mVar 0) (mCons (mOp oIx (mVar 4) (mC (.int 3))) (mCons (mMeth 10 m_Setting_with_name (mVar 5) (mCons (mOp oIx (mVar 4) (mC (.int 1))) (mCons (mVar 1) mNil))) mNil)))) (mIfS (mB (mOp oEq (mVar 3) (mC (.str 251296360)))) (mExpr (mMeth 11 m_Tower_bind_let (mVar 0) (mCons (mFld (mVar 5) 10 2) (mCons (mVar 1) mNil)))) (mIfS (mB (mOp oEq (mVar 3) (mC (.str 13542)))) (mExpr (mMeth 11 m_Tower_decide (mVar 0) (mCons (mVar 4) (mCons (mVar 5) (mCons (mVar 1) mNil))))) (mSeq (mExpr (mBM bAppend (mFld (mVar 0) 11 5) (mCons (mTup (mCons (mC (.str 3978691344228)) (mCons (mVar 3) (mCons (mFld (mVar 5) 10 0) (mCons (mVar 1) mNil))))) mNil)))
    (mExpr (mMeth 11 m_Tower_go (mVar 0) (mCons (mOp oIx (mVar 4) (mC (.int 2))) (mCons (mVar 5) mNil))))))))
    (mRet (mC .non)))))))))))
def m_Tower_resume : MF := mRun 2 6 b_Tower_resume
def b_Tower_run : MS := (mWhile (mB (mOp oIsN (mFld (mVar 0) 11 7) (mC .non))) (mSeq (mSet 1 (mMeth 11 m_Tower_begin (mVar 0) mNil))
    (mWhile (mAnd (mB (mOp oNotN (mVar 1) (mC .non))) (mB (mOp oIsN (mFld (mVar 0) 11 7) (mC .non)))) (mSet 1 (mMeth 11 m_Tower_resume (mVar 0) (mCons (mVar 1) mNil))))))
def m_Tower_run : MF := mRun 1 2 b_Tower_run
def b_run : MS := (mSeq (mSet 2 (mMake 11 m_Tower_init (mCons (mVar 0) (mCons (mVar 1) mNil))))
    (mSeq (mExpr (mMeth 11 m_Tower_run (mVar 2) mNil))
    (mRet (mTup (mCons (mCall cTuple (mCons (mFld (mVar 2) 11 6) mNil)) (mCons (mFld (mVar 2) 11 7) mNil))))))
def m_run : MF := mRun 2 3 b_run
def b__law_start : MS := (mRet (mLst (mCons (mLcL (mSlL (mVar 0) mNoP (mP (mC (.int 63)))) (.one 1) mYes (mCall cInt (mCons (mVar 1) mNil)) [1]) (mCons (mC (.int 0)) (mCons (mC (.int 0)) (mCons (mC (.int 0)) (mCons (mC (.int 20)) (mCons (mLst mNil) mNil))))))))
def m__law_start : MF := mRun 1 2 b__law_start
def b__law_fill : MS := (mSeq (mLPut (mVar 0) (mC (.int 3)) (mOp oAdd (mOp oIx (mVar 0) (mC (.int 3))) (mC (.int 1))))
    (mSeq (mSet 1 (mOp oAdd (mOp oMul (mOp oIx (mVar 0) (mC (.int 3))) (mC (.int 69621))) (mC (.int 12345))))
    (mSeq (mIfS (mB (mOp oLt (mOp oIx (mVar 0) (mC (.int 1))) (mCall cLen (mCons (mOp oIx (mVar 0) (mC (.int 0))) mNil)))) (mSeq (mSet 1 (mOp oIx (mOp oIx (mVar 0) (mC (.int 0))) (mOp oIx (mVar 0) (mC (.int 1)))))
    (mSeq (mLPut (mVar 0) (mC (.int 1)) (mOp oAdd (mOp oIx (mVar 0) (mC (.int 1))) (mC (.int 1))))
    (mSeq (mIfS (mB (mOp oLt (mVar 1) (mC (.int 0)))) (mSet 1 (mOp oSub (mOp oSub (mC (.int 0)) (mC (.int 1))) (mVar 1))) mNext)
    (mIfS (mB (mOp oGe (mVar 1) (mOp oPow (mC (.int 10)) (mC (.int 18))))) (mRet (mVar 1)) mNext)))) mNext)
    (mSeq (mIfS (mAnd (mTru (mOp oIx (mVar 0) (mC (.int 0)))) (mB (mOp oGe (mOp oIx (mVar 0) (mC (.int 1))) (mCall cLen (mCons (mOp oIx (mVar 0) (mC (.int 0))) mNil))))) (mSet 1 (mOp oAdd (mVar 1) (mOp oMod (mCall cInt (mCons (mOp oIx (mOp oIx (mVar 0) (mC (.int 0))) (mC (.int (-1)))) mNil)) (mC (.int 1000003))))) mNext)
    (mSeq (mSet 1 (mOp oMod (mCall cInt (mCons (mOp oAdd (mOp oMul (mVar 1) (mC (.int 48271))) (mOp oMul (mOp oIx (mVar 0) (mC (.int 3))) (mC (.int 69621)))) mNil)) (mC (.int 2147483647))))
    (mRet (mOp oAdd (mOp oMod (mCall cInt (mCons (mOp oAdd (mOp oAdd (mOp oMul (mVar 1) (mVar 1)) (mOp oMul (mOp oIx (mVar 0) (mC (.int 3))) (mC (.int 7919)))) (mC (.int 11))) mNil)) (mC (.int 2305843009213693951))) (mC (.int 2305843009213693951)))))))))
def m__law_fill : MF := mRun 1 2 b__law_fill
def b__law_take : MS := (mSeq (mIfS (mB (mOp oLt (mOp oIx (mVar 0) (mC (.int 2))) (mVar 1))) (mLPut (mVar 0) (mC (.int 2)) (mCall m__law_fill (mCons (mVar 0) mNil))) mNext)
    (mSeq (mSet 2 (mOp oMod (mCall cInt (mCons (mOp oIx (mVar 0) (mC (.int 2))) mNil)) (mVar 1)))
    (mSeq (mLPut (mVar 0) (mC (.int 2)) (mOp oFdiv (mOp oIx (mVar 0) (mC (.int 2))) (mVar 1)))
    (mRet (mVar 2)))))
def m__law_take : MF := mRun 2 3 b__law_take
def b__law_turn : MS := (mRet (mTup (mCons (mC (.str 209221228)) (mCons (mTup (mCons (mC (.str 209221228)) (mCons (mTup (mCons (mC (.str 232290021)) (mCons (mC (.str 102)) mNil))) (mCons (mTup (mCons (mC (.str 232290021)) (mCons (mC (.str 102)) mNil))) mNil)))) (mCons (mTup (mCons (mC (.str 1899245)) (mCons (mTup (mCons (mC (.str 232290021)) (mCons (mC (.str 110)) mNil))) (mCons (mTup (mCons (mC (.str 1817325)) (mCons (mOp oSub (mC (.int 0)) (mC (.int 1))) mNil))) mNil)))) mNil)))))
def m__law_turn : MF := mRun 0 0 b__law_turn
def b__law_started : MS := (mRet (mTup (mCons (mC (.str 1782516)) (mCons (mC (.str 13295)) (mCons (mTup (mCons (mC (.str 13166)) (mCons (mC (.str 102)) (mCons (mTup (mCons (mC (.str 13166)) (mCons (mC (.str 110)) (mCons (mVar 0) mNil)))) mNil)))) (mCons (mTup (mCons (mC (.str 209221228)) (mCons (mTup (mCons (mC (.str 209221228)) (mCons (mTup (mCons (mC (.str 232290021)) (mCons (mC (.str 13295)) mNil))) (mCons (mTup (mCons (mC (.str 232290021)) (mCons (mC (.str 13295)) mNil))) mNil)))) (mCons (mTup (mCons (mC (.str 1817325)) (mCons (mVar 1) mNil))) mNil)))) mNil))))))
def m__law_started : MF := mRun 2 2 b__law_started
def b__law_doubled : MS := (mSeq (mSet 1 (mCall m__law_take (mCons (mVar 0) (mCons (mC (.int 660)) mNil))))
    (mSeq (mSet 2 (mOp oSub (mCall m__law_take (mCons (mVar 0) (mCons (mC (.int 9)) mNil))) (mC (.int 4))))
    (mSeq (mSet 3 (mTup (mCons (mC (.str 209221228)) (mCons (mCall m__law_turn mNil) (mCons (mTup (mCons (mC (.str 1899245)) (mCons (mTup (mCons (mC (.str 232290021)) (mCons (mC (.str 120)) mNil))) (mCons (mTup (mCons (mC (.str 232290021)) (mCons (mC (.str 120)) mNil))) mNil)))) mNil)))))
    (mSeq (mSet 4 (mTup (mCons (mC (.str 13166)) (mCons (mC (.str 120)) (mCons (mTup (mCons (mC (.str 13542)) (mCons (mTup (mCons (mC (.str 228162035)) (mCons (mTup (mCons (mC (.str 1817325)) (mCons (mC (.int 0)) mNil))) (mCons (mTup (mCons (mC (.str 232290021)) (mCons (mC (.str 110)) mNil))) mNil)))) (mCons (mVar 3) (mCons (mTup (mCons (mC (.str 232290021)) (mCons (mC (.str 120)) mNil))) mNil))))) mNil)))))
    (mSeq (mSet 5 (mTup (mCons (mC (.str 13166)) (mCons (mC (.str 102)) (mCons (mTup (mCons (mC (.str 13166)) (mCons (mC (.str 110)) (mCons (mVar 4) mNil)))) mNil)))))
    (mSeq (mSet 6 (mTup (mCons (mC (.str 1782516)) (mCons (mC (.str 13295)) (mCons (mVar 5) (mCons (mTup (mCons (mC (.str 209221228)) (mCons (mTup (mCons (mC (.str 209221228)) (mCons (mTup (mCons (mC (.str 209221228)) (mCons (mTup (mCons (mC (.str 232290021)) (mCons (mC (.str 13295)) mNil))) (mCons (mTup (mCons (mC (.str 232290021)) (mCons (mC (.str 13295)) mNil))) mNil)))) (mCons (mTup (mCons (mC (.str 1817325)) (mCons (mVar 1) mNil))) mNil)))) (mCons (mTup (mCons (mC (.str 1817325)) (mCons (mVar 2) mNil))) mNil)))) mNil))))))
    (mSeq (mSet 7 (mVar 2))
    (mSeq (mForR1 (mVar 1) (.one 8) (mSet 7 (mOp oAdd (mVar 7) (mVar 7))))
    (mRet (mLst (mCons (mVar 6) (mCons (mTup mNil) (mCons (mVar 7) (mCons (mOp oAdd (mOp oMul (mC (.int 3)) (mVar 1)) (mC (.int 3))) mNil))))))))))))))
def m__law_doubled : MF := mRun 1 9 b__law_doubled
def b__law_counted : MS := (mSeq (mSet 1 (mCall m__law_take (mCons (mVar 0) (mCons (mOp oIx (mLst (mCons (mC (.int 40)) (mCons (mC (.int 490)) mNil))) (mCall cInt (mCons (mOp oEq (mCall m__law_take (mCons (mVar 0) (mCons (mC (.int 3)) mNil))) (mC (.int 0))) mNil))) mNil))))
    (mSeq (mSet 2 (mCall m__law_turn mNil))
    (mSeq (mSet 3 (mC (.int 7)))
    (mSeq (mIfS (mB (mOp oEq (mCall m__law_take (mCons (mVar 0) (mCons (mC (.int 2)) mNil))) (mC (.int 0)))) (mSeq (mSet 2 (mTup (mCons (mC (.str 1899245)) (mCons (mTup (mCons (mC (.str 1817325)) (mCons (mC (.int 2)) mNil))) (mCons (mVar 2) mNil)))))
    (mSet 3 (mOp oAdd (mC (.int 7)) (mOp oMul (mC (.int 2)) (mVar 1))))) mNext)
    (mSeq (mSet 4 (mTup (mCons (mC (.str 232290021)) (mCons (mC (.str 110)) mNil))))
    (mSeq (mSet 5 (mOp oEq (mCall m__law_take (mCons (mVar 0) (mCons (mC (.int 2)) mNil))) (mC (.int 0))))
    (mSeq (mIfS (mB (mVar 5)) (mSet 4 (mTup (mCons (mC (.str 1896697)) (mCons (mVar 4) mNil)))) mNext)
    (mSeq (mSet 6 (mCall m__law_started (mCons (mTup (mCons (mC (.str 13542)) (mCons (mTup (mCons (mC (.str 228162035)) (mCons (mTup (mCons (mC (.str 1817325)) (mCons (mC (.int 0)) mNil))) (mCons (mVar 4) mNil)))) (mCons (mVar 2) (mCons (mTup (mCons (mC (.str 1817325)) (mCons (mC (.int 7)) mNil))) mNil))))) (mCons (mVar 1) mNil))))
    (mSeq (mSet 7 (mLst mNil))
    (mSeq (mSet 8 (mCall m__law_take (mCons (mVar 0) (mCons (mC (.int 4)) mNil))))
    (mSeq (mSet 9 (mOp oAdd (mOp oMul (mC (.int 2)) (mVar 1)) (mC (.int 2))))
    (mSeq (mForR3 (mCons (mVar 1) (mCons (mOp oSub (mC (.int 0)) (mC (.int 1))) (mCons (mOp oSub (mC (.int 0)) (mC (.int 1))) mNil))) (.one 10) (mSeq (mIfS (mAnd (mB (mVar 5)) (mB (mOp oEq (mVar 8) (mC (.int 2))))) (mSet 7 (mOp oCatL (mVar 7) (mLst (mCons (mTup (mCons (mC (.int 1)) (mCons (mC (.int 5)) mNil))) mNil)))) mNext)
    (mIfS (mB (mVar 5)) (mExpr (mBM bAppend (mVar 7) (mCons (mTup (mCons (mC (.int 0)) (mCons (mVar 10) mNil))) mNil))) mNext)))
    (mSeq (mIfS (mB (mOp oEq (mVar 8) (mC (.int 1)))) (mSeq (mSet 6 (mTup (mCons (mC (.str 241006181)) (mCons (mC (.str 228162035)) (mCons (mTup (mCons (mC (.str 1782516)) (mCons (mC (.str 118)) (mCons (mTup (mCons (mC (.str 31650050284)) mNil)) (mCons (mTup (mCons (mC (.str 232290021)) (mCons (mC (.str 118)) mNil))) mNil))))) (mCons (mVar 6) mNil))))))
    (mSet 9 (mOp oAdd (mOp oAdd (mVar 9) (mVar 1)) (mC (.int 1))))) mNext)
    (mSeq (mIfS (mB (mOp oEq (mVar 8) (mC (.int 2)))) (mSeq (mSet 6 (mTup (mCons (mC (.str 241006181)) (mCons (mC (.str 1896697)) (mCons (mTup (mCons (mC (.str 1782516)) (mCons (mC (.str 118)) (mCons (mTup (mCons (mC (.str 1896697)) (mCons (mTup (mCons (mC (.str 1817325)) (mCons (mC (.int 5)) mNil))) mNil))) (mCons (mTup (mCons (mC (.str 31650050284)) mNil)) mNil))))) (mCons (mVar 6) mNil))))))
    (mSet 9 (mOp oAdd (mVar 9) (mOp oIx (mLst (mCons (mC (.int 0)) (mCons (mOp oAdd (mVar 1) (mC (.int 1))) mNil))) (mCall cInt (mCons (mVar 5) mNil)))))) mNext)
    (mSeq (mIfS (mB (mOp oEq (mVar 8) (mC (.int 3)))) (mSeq (mSet 11 (mTup (mCons (mC (.str 241006181)) (mCons (mC (.str 228162035)) (mCons (mTup (mCons (mC (.str 228162035)) (mCons (mTup (mCons (mC (.str 236484980)) (mCons (mC (.int 0)) mNil))) (mCons (mTup (mCons (mC (.str 236484980)) (mCons (mC (.int 1)) mNil))) mNil)))) (mCons (mTup (mCons (mC (.str 13542)) (mCons (mTup (mCons (mC (.str 228162035)) (mCons (mTup (mCons (mC (.str 1817325)) (mCons (mC (.int 0)) mNil))) (mCons (mVar 4) mNil)))) (mCons (mVar 2) (mCons (mTup (mCons (mC (.str 1817325)) (mCons (mC (.int 7)) mNil))) mNil))))) mNil))))))
    (mSeq (mSet 6 (mCall m__law_started (mCons (mVar 11) (mCons (mVar 1) mNil))))
    (mSet 9 (mOp oAdd (mOp oAdd (mVar 9) (mOp oMul (mC (.int 2)) (mVar 1))) (mC (.int 2)))))) mNext)
    (mRet (mLst (mCons (mVar 6) (mCons (mCall cTuple (mCons (mVar 7) mNil)) (mCons (mVar 3) (mCons (mVar 9) mNil)))))))))))))))))))))
def m__law_counted : MF := mRun 1 12 b__law_counted
def b_law : MS := (mSeq (mSet 1 (mCall m__law_start (mCons (mVar 0) mNil)))
    (mSeq (mIfS (mB (mOp oEq (mCall m__law_take (mCons (mVar 1) (mCons (mC (.int 3)) mNil))) (mC (.int 0)))) (mUnpL [2, 3, 4, 5] (mCall m__law_doubled (mCons (mVar 1) mNil))) (mUnpL [2, 3, 4, 5] (mCall m__law_counted (mCons (mVar 1) mNil))))
    (mSeq (mIfS (mB (mOp oGt (mVar 5) (mC (.int 2000)))) (mRet (mC (.bl true))) mNext)
    (mSeq (mSet 6 (mCall m_collapse (mCons (mVar 2) mNil)))
    (mSeq (mSet 7 (mCall m_compile_plain (mCons (mVar 6) mNil)))
    (mSeq (mSet 8 (mTup (mCons (mVar 3) (mCons (mTup (mCons (mC (.str 31880592101)) (mCons (mVar 4) mNil))) mNil))))
    (mSeq (mIfS (mOr (mB (mOp oNeD (mCall m_run (mCons (mVar 2) (mCons (mVar 5) mNil))) (mVar 8))) (mOr (mB (mOp oNeD (mCall m_run_plain (mCons (mVar 6) (mCons (mVar 5) mNil))) (mVar 8))) (mB (mOp oNeD (mCall m_run_code (mCons (mVar 7) (mCons (mVar 5) mNil))) (mVar 8))))) (mRet (mC (.bl false))) mNext)
    (mSeq (mSet 9 (mCall m_run (mCons (mVar 2) (mCons (mOp oSub (mVar 5) (mC (.int 1))) mNil))))
    (mSeq (mIfS (mOr (mB (mOp oNeD (mOp oIx (mVar 9) (mC (.int 1))) (mTup (mCons (mC (.str 230422885)) mNil)))) (mB (mOp oNeD (mOp oIx (mVar 9) (mC (.int 0))) (mSlT (mVar 3) mNoP (mP (mCall cLen (mCons (mOp oIx (mVar 9) (mC (.int 0))) mNil))))))) (mRet (mC (.bl false))) mNext)
    (mRet (mAndV (mOp oEqD (mCall m_run_plain (mCons (mVar 6) (mCons (mOp oSub (mVar 5) (mC (.int 1))) mNil))) (mVar 9)) (mOp oEqD (mCall m_run_code (mCons (mVar 7) (mCons (mOp oSub (mVar 5) (mC (.int 1))) mNil))) (mVar 9)))))))))))))
def m_law : MF := mRun 1 10 b_law
end Zg
set_option Elab.async false
set_option maxRecDepth 100000
set_option maxHeartbeats 4000000
set_option linter.all false
/-! ZS1: what an abstract heap says of the tracked one. -/
namespace Zg
open PySem L2

/-- the text of a code -/
def dS (c : Nat) : Str := ⟨(dgs c).toArray⟩
theorem dS_inj {a b : Nat} (h : dS a = dS b) : a = b := by
  have h1 : (dgs a).toArray = (dgs b).toArray := congrArg Str.cps h
  exact dgs_inj (by simpa using congrArg Array.toList h1)
theorem dS_iff {a b : Nat} : dS a = dS b ↔ a = b := ⟨dS_inj, fun e => by rw [e]⟩

/-- the fields of a class, in the order of their first store -/
def fieldN : Nat → List Str
  | 0 => ["instructions", "slots", "at"]
  | 1 => ["code", "fuel", "stack", "frames", "switches", "outputs", "end"]
  | 2 => ["many", "rules"]
  | 3 => ["e", "level", "names", "about", "parts", "usual"]
  | 4 => ["rules", "many", "nodes"]
  | 5 => ["name", "value", "outer"]
  | 6 => ["e", "names", "fuel", "waiting", "switches", "outputs", "end"]
  | 7 => ["nodes", "kids", "binders", "scopes", "free"]
  | 8 => ["compiler", "layout", "code", "targets", "many", "slots"]
  | 9 => ["layout", "left"]
  | 10 => ["level", "names", "about"]
  | 11 => ["e", "setting", "built_in", "fuel", "rules", "waiting", "outputs", "end"]
  | _ => []
/-- the classes -/
def clsN : List Str := ["Frame", "Machine", "Numbering", "About", "Collapser", "Link", "PlainRun", "Layout", "Block", "Compiler", "Setting", "Tower"]
structure Gm where
  P : Program
  w : World
  K : PySem.W.Frag
  mg : Str → Option Value
  base : Heap
  ca : Nat → Addr
  ev : Nat → Int
  ev0 : ev 0 = 1
  evp : ∀ i, 3 ≤ i → 0 ≤ ev i
  st : Nat → List V
  stl : ∀ i, (st i).length ≤ 5000000
  stn : st 1 ≠ []
/-- the value of a linear form -/
def lv (ev : Nat → Int) : Nat → List Int → Int
  | _, [] => 0
  | i, c :: r => c * ev i + lv ev (i + 1) r

mutual
inductive RV (G : Gm) (ρ : Nat → Addr) (n : Nat) (H : Hp) : AV → V → Prop
  | non : RV G ρ n H .non .non
  | bl (b : Bool) : RV G ρ n H (.bl b) (.bl b)
  | int (i : Int) : RV G ρ n H (.int i) (.int i)
  | sym (k : List Int) : RV G ρ n H (.sym k) (.int (lv G.ev 0 k))
  | str (c : Nat) : RV G ρ n H (.str c) (.str (dS c))
  | ref {i : Nat} : i < n → RV G ρ n H (.ref i) (.ref (ρ i))
  | any (v : V) : RV G ρ n H .any v
  | tup {ts : List AV} {a : Addr} {vs : List V} : H a = some (.tup vs) → RVs G ρ n H ts vs → RV G ρ n H (.tup ts) (.ref a)
  | ktup {ts : List AV} {a : Addr} {vs : List V} : (∀ H0, SqT G.K H0 a vs) → RVs G ρ n H ts vs → RV G ρ n H (.ktup ts) (.ref a)
inductive RVs (G : Gm) (ρ : Nat → Addr) (n : Nat) (H : Hp) : List AV → List V → Prop
  | nil : RVs G ρ n H [] []
  | cons {x : AV} {v : V} {xs : List AV} {vs : List V} : RV G ρ n H x v → RVs G ρ n H xs vs → RVs G ρ n H (x :: xs) (v :: vs)
end

section
variable {G : Gm} {ρ ρ' : Nat → Addr} {n n' : Nat} {H H' : Hp}
mutual
theorem RV.mono (h1 : ∀ i, i < n → ρ' i = ρ i) (h2 : n ≤ n') (h3 : ∀ (a : Addr) (vs : List V), H a = some (.tup vs) → H' a = some (.tup vs)) : ∀ {x : AV} {v : V}, RV G ρ n H x v → RV G ρ' n' H' x v
  | _, _, .non => .non
  | _, _, .bl b => .bl b
  | _, _, .int i => .int i
  | _, _, .sym k => .sym k
  | _, _, .str c => .str c
  | _, _, .any v => .any v
  | _, _, .ref hi => by rw [← h1 _ hi]; exact .ref (Nat.lt_of_lt_of_le hi h2)
  | _, _, .tup hs r => .tup (h3 _ _ hs) (RVs.mono h1 h2 h3 r)
  | _, _, .ktup hs r => .ktup hs (RVs.mono h1 h2 h3 r)
theorem RVs.mono (h1 : ∀ i, i < n → ρ' i = ρ i) (h2 : n ≤ n') (h3 : ∀ (a : Addr) (vs : List V), H a = some (.tup vs) → H' a = some (.tup vs)) : ∀ {xs : List AV} {vs : List V}, RVs G ρ n H xs vs → RVs G ρ' n' H' xs vs
  | _, _, .nil => .nil
  | _, _, .cons r s => .cons (RV.mono h1 h2 h3 r) (RVs.mono h1 h2 h3 s)
end
theorem RVs.length : ∀ {xs : List AV} {vs : List V}, RVs G ρ n H xs vs → xs.length = vs.length
  | _, _, .nil => rfl
  | _, _, .cons _ s => congrArg Nat.succ (RVs.length s)
theorem RVs.get : ∀ {xs : List AV} {vs : List V} {i : Nat} {x : AV}, RVs G ρ n H xs vs → xs[i]? = some x → ∃ v, vs[i]? = some v ∧ RV G ρ n H x v
  | _, _, _, _, .nil, e => by simp at e
  | _, _, 0, _, .cons r _, e => by
    simp at e
    subst e
    exact ⟨_, rfl, r⟩
  | _, _, i + 1, x, .cons _ s, e => by
    obtain ⟨v, h1, h2⟩ := RVs.get (i := i) (x := x) s (by simpa using e)
    exact ⟨v, by simpa using h1, h2⟩
theorem RVs.none : ∀ {xs : List AV} {vs : List V} {i : Nat}, RVs G ρ n H xs vs → xs[i]? = .none → vs[i]? = .none := fun {xs vs i} r e => by
  have h := List.getElem?_eq_none_iff.mp e
  exact List.getElem?_eq_none_iff.mpr (by rw [← r.length]; exact h)
theorem RVs.append : ∀ {xs ys : List AV} {vs ws : List V}, RVs G ρ n H xs vs → RVs G ρ n H ys ws → RVs G ρ n H (xs ++ ys) (vs ++ ws)
  | _, _, _, _, .nil, s => s
  | _, _, _, _, .cons r t, s => .cons r (RVs.append t s)
theorem RVs.one {x : AV} {v : V} (r : RV G ρ n H x v) : RVs G ρ n H [x] [v] := .cons r .nil
theorem RVs.take : ∀ {xs : List AV} {vs : List V} (k : Nat), RVs G ρ n H xs vs → RVs G ρ n H (xs.take k) (vs.take k)
  | _, _, 0, _ => .nil
  | _, _, _ + 1, .nil => .nil
  | _, _, k + 1, .cons r s => .cons r (RVs.take k s)
theorem RVs.drop : ∀ {xs : List AV} {vs : List V} (k : Nat), RVs G ρ n H xs vs → RVs G ρ n H (xs.drop k) (vs.drop k)
  | _, _, 0, r => r
  | _, _, _ + 1, .nil => .nil
  | _, _, k + 1, .cons _ s => RVs.drop k s
theorem RVs.reverse {xs : List AV} {vs : List V} (r : RVs G ρ n H xs vs) : RVs G ρ n H xs.reverse vs.reverse := by
  induction xs generalizing vs with
  | nil =>
    cases r
    exact .nil
  | cons x xs ih =>
    cases r with
    | cons r s =>
      rw [List.reverse_cons, List.reverse_cons]
      exact (ih s).append (.one r)
theorem RVs.dropLast {xs : List AV} {vs : List V} (r : RVs G ρ n H xs vs) : RVs G ρ n H xs.dropLast vs.dropLast := by
  rw [List.dropLast_eq_take, List.dropLast_eq_take, ← r.length]
  exact r.take _
theorem RVs.set : ∀ {xs : List AV} {vs : List V} {x : AV} {v : V} (k : Nat), RVs G ρ n H xs vs → RV G ρ n H x v → RVs G ρ n H (xs.set k x) (vs.set k v)
  | _, _, _, _, _, .nil, _ => .nil
  | _, _, _, _, 0, .cons _ s, q => .cons q s
  | _, _, _, _, k + 1, .cons r s, q => .cons r (RVs.set k s q)
end

/-- a key of a dict -/
def kd : AKey → Key
  | .inl i => .inl i
  | .inr c => .inr (dS c)
theorem kd_inj {a b : AKey} (h : kd a = kd b) : a = b := by
  cases a with
  | inl i => cases b with
    | inl j => exact congrArg Sum.inl (Sum.inl.inj h)
    | inr _ => cases h
  | inr c => cases b with
    | inl _ => cases h
    | inr d => exact congrArg Sum.inr (dS_inj (Sum.inr.inj h))
theorem kds_inj : ∀ {a b : List AKey}, a.map kd = b.map kd → a = b
  | [], [], _ => rfl
  | [], _ :: _, h => by cases h
  | _ :: _, [], h => by cases h
  | x :: r, y :: s, h => by
    simp only [List.map_cons, List.cons.injEq] at h
    rw [kd_inj h.1, kds_inj h.2]
abbrev RKs (G : Gm) (ρ : Nat → Addr) (n : Nat) (H : Hp) : List (AKey × AV) → List (Key × V) → Prop := Paired fun p q => q.1 = kd p.1 ∧ RV G ρ n H p.2 q.2
abbrev RTs (G : Gm) (ρ : Nat → Addr) (n : Nat) (H : Hp) : List (List AKey × AV) → List (List Key × V) → Prop := Paired fun p q => q.1 = p.1.map kd ∧ RV G ρ n H p.2 q.2

/-- the object at a, as the abstract one says -/
def RO (G : Gm) (ρ : Nat → Addr) (n : Nat) (H : Hp) (a : Addr) : AO → Prop
  | .lst xs => ∃ vs, H a = some (.lst vs) ∧ RVs G ρ n H xs vs
  | .dK kvs => ∃ ks, H a = some (.dK ks) ∧ RKs G ρ n H kvs ks
  | .dT kvs => ∃ ks, H a = some (.dT ks) ∧ RTs G ρ n H kvs ks
  | .ins c vs => ∃ dx ws, H a = some (.ins (G.ca c) dx ((fieldN c).zip ws)) ∧ RVs G ρ n H vs ws ∧ vs.length ≤ (fieldN c).length
  | .fz xs => ∃ o vs, H a = some (.frz o (.lst vs)) ∧ RVs G ρ n H xs vs
  | .stk k xs => ∃ vs, H a = some (.lst (G.st k ++ vs)) ∧ RVs G ρ n H xs vs
theorem paired_mono {α β : Type} {F F' : α → β → Prop} (h : ∀ a b, F a b → F' a b) : ∀ {l : List α} {m : List β}, Paired F l m → Paired F' l m
  | _, _, .nil => .nil
  | _, _, .cons r s => .cons (h _ _ r) (paired_mono h s)
section
variable {G : Gm} {ρ ρ' : Nat → Addr} {n n' : Nat} {H H' : Hp} {a : Addr} {o : AO}
theorem RO.mono (h1 : ∀ i, i < n → ρ' i = ρ i) (h2 : n ≤ n') (h3 : ∀ (a : Addr) (vs : List V), H a = some (.tup vs) → H' a = some (.tup vs)) (ha : H' a = H a) (r : RO G ρ n H a o) : RO G ρ' n' H' a o := by
  cases o with
  | lst xs =>
    obtain ⟨vs, e, q⟩ := r
    exact ⟨vs, ha.trans e, q.mono h1 h2 h3⟩
  | dK kvs =>
    obtain ⟨ks, e, q⟩ := r
    exact ⟨ks, ha.trans e, paired_mono (fun _ _ z => ⟨z.1, z.2.mono h1 h2 h3⟩) q⟩
  | dT kvs =>
    obtain ⟨ks, e, q⟩ := r
    exact ⟨ks, ha.trans e, paired_mono (fun _ _ z => ⟨z.1, z.2.mono h1 h2 h3⟩) q⟩
  | ins c vs =>
    obtain ⟨dx, ws, e, q, l⟩ := r
    exact ⟨dx, ws, ha.trans e, q.mono h1 h2 h3, l⟩
  | fz xs =>
    obtain ⟨o, vs, e, q⟩ := r
    exact ⟨o, vs, ha.trans e, q.mono h1 h2 h3⟩
  | stk k xs =>
    obtain ⟨vs, e, q⟩ := r
    exact ⟨vs, ha.trans e, q.mono h1 h2 h3⟩
theorem RO.some (r : RO G ρ n H a o) : ∃ u, H a = some u ∧ ∀ xs, u ≠ .tup xs := by
  cases o with
  | lst xs =>
    obtain ⟨vs, e, q⟩ := r
    exact ⟨_, e, fun _ z => by cases z⟩
  | dK kvs =>
    obtain ⟨ks, e, q⟩ := r
    exact ⟨_, e, fun _ z => by cases z⟩
  | dT kvs =>
    obtain ⟨ks, e, q⟩ := r
    exact ⟨_, e, fun _ z => by cases z⟩
  | ins c vs =>
    obtain ⟨dx, ws, e, q, l⟩ := r
    exact ⟨_, e, fun _ z => by cases z⟩
  | fz xs =>
    obtain ⟨o, vs, e, q⟩ := r
    exact ⟨_, e, fun _ z => by cases z⟩
  | stk k xs =>
    obtain ⟨vs, e, q⟩ := r
    exact ⟨_, e, fun _ z => by cases z⟩
end

structure Rel (G : Gm) (ρ : Nat → Addr) (A : AH) (H : Hp) : Prop where
  lt : ∀ i o, A.get i = some o → i < A.n
  ob : ∀ i o, A.get i = some o → RO G ρ A.n H (ρ i) o
  inj : ∀ i j o u, A.get i = some o → A.get j = some u → ρ i = ρ j → i = j
def Img (ρ : Nat → Addr) (A : AH) (b : Addr) : Prop := ∃ i o, A.get i = some o ∧ ρ i = b
structure Ext (G : Gm) (ρ : Nat → Addr) (A : AH) (H : Hp) (ρ' : Nat → Addr) (A' : AH) (H' : Hp) : Prop where
  ag : ∀ i, i < A.n → ρ' i = ρ i
  le : A.n ≤ A'.n
  fr : ∀ b o, H b = some o → ¬ Img ρ A b → H' b = some o ∧ ¬ Img ρ' A' b
  tu : ∀ (a : Addr) (vs : List V), H a = some (.tup vs) → H' a = some (.tup vs)
section
variable {G : Gm} {ρ ρ' ρ1 ρ2 : Nat → Addr} {A A' A1 A2 : AH} {H H' H1 H2 : Hp}
theorem Ext.refl : Ext G ρ A H ρ A H := ⟨fun _ _ => rfl, Nat.le_refl _, fun _ _ h k => ⟨h, k⟩, fun _ _ h => h⟩
theorem Ext.trans (a : Ext G ρ A H ρ1 A1 H1) (b : Ext G ρ1 A1 H1 ρ2 A2 H2) : Ext G ρ A H ρ2 A2 H2 :=
  ⟨fun i h => (b.ag i (Nat.lt_of_lt_of_le h a.le)).trans (a.ag i h), Nat.le_trans a.le b.le, fun c o h k => let ⟨h1, k1⟩ := a.fr c o h k; b.fr c o h1 k1, fun c vs h => b.tu c vs (a.tu c vs h)⟩
theorem RV.ext (e : Ext G ρ A H ρ' A' H') {x : AV} {v : V} (r : RV G ρ A.n H x v) : RV G ρ' A'.n H' x v := r.mono e.ag e.le e.tu
theorem RVs.ext (e : Ext G ρ A H ρ' A' H') {x : List AV} {v : List V} (r : RVs G ρ A.n H x v) : RVs G ρ' A'.n H' x v := r.mono e.ag e.le e.tu
theorem RO.ext (e : Ext G ρ A H ρ' A' H') {a : Addr} {o : AO} (ha : H' a = H a) (r : RO G ρ A.n H a o) : RO G ρ' A'.n H' a o := r.mono e.ag e.le e.tu ha
end

/-! ### the trie -/
theorem get_one : ∀ (f k : Nat) (o : AO), k ≤ f → (Tr.one f k o).get k = some o
  | 0, k, o, h => by
    have e : k = 0 := by omega
    subst e
    rfl
  | f + 1, 0, o, _ => rfl
  | f + 1, j + 1, o, h => by
    unfold Tr.one
    cases e : odd j with
    | true =>
      show (Tr.nd none .nil (Tr.one f (j / 2) o)).get (j + 1) = _
      unfold Tr.get
      rw [e]
      exact get_one f (j / 2) o (by omega)
    | false =>
      show (Tr.nd none (Tr.one f (j / 2) o) .nil).get (j + 1) = _
      unfold Tr.get
      rw [e]
      exact get_one f (j / 2) o (by omega)
theorem odd_ne {j k : Nat} (h : j ≠ k) (e : odd j = odd k) : j / 2 ≠ k / 2 := fun z => by
  have e1 : ((j % 2).beq 1) = ((k % 2).beq 1) := e
  have h1 := Nat.mod_two_eq_zero_or_one j
  have h2 := Nat.mod_two_eq_zero_or_one k
  rcases h1 with h1 | h1 <;> rcases h2 with h2 | h2 <;> rw [h1, h2] at e1
  · omega
  · cases e1
  · cases e1
  · omega
theorem get_one_ne : ∀ (f k : Nat) (o : AO) (i : Nat), k ≤ f → i ≠ k → (Tr.one f k o).get i = none
  | 0, k, o, i, h, hi => by
    have e : k = 0 := by omega
    subst e
    cases i with
    | zero => exact absurd rfl hi
    | succ i =>
      show (Tr.nd (some o) .nil .nil).get (i + 1) = none
      unfold Tr.get
      cases odd i <;> rfl
  | f + 1, 0, o, i, _, hi => by
    cases i with
    | zero => exact absurd rfl hi
    | succ i =>
      show (Tr.nd (some o) .nil .nil).get (i + 1) = none
      unfold Tr.get
      cases odd i <;> rfl
  | f + 1, j + 1, o, i, h, hi => by
    unfold Tr.one
    cases e : odd j with
    | true =>
      show (Tr.nd none .nil (Tr.one f (j / 2) o)).get i = none
      cases i with
      | zero => rfl
      | succ i =>
        unfold Tr.get
        cases e2 : odd i with
        | true => exact get_one_ne f (j / 2) o (i / 2) (by omega) (odd_ne (by omega) (e2.trans e.symm))
        | false => rfl
    | false =>
      show (Tr.nd none (Tr.one f (j / 2) o) .nil).get i = none
      cases i with
      | zero => rfl
      | succ i =>
        unfold Tr.get
        cases e2 : odd i with
        | true => rfl
        | false => exact get_one_ne f (j / 2) o (i / 2) (by omega) (odd_ne (by omega) (e2.trans e.symm))
theorem tget_set : ∀ (t : Tr) (k : Nat) (o : AO), (t.set k o).get k = some o
  | .nil, k, o => get_one k k o (Nat.le_refl k)
  | .nd v l r, 0, o => rfl
  | .nd v l r, j + 1, o => by
    unfold Tr.set
    cases e : odd j with
    | true =>
      show (Tr.nd v l (r.set (j / 2) o)).get (j + 1) = _
      unfold Tr.get
      rw [e]
      exact tget_set r (j / 2) o
    | false =>
      show (Tr.nd v (l.set (j / 2) o) r).get (j + 1) = _
      unfold Tr.get
      rw [e]
      exact tget_set l (j / 2) o
theorem tget_set_ne : ∀ (t : Tr) (k : Nat) (o : AO) (i : Nat), i ≠ k → (t.set k o).get i = t.get i
  | .nil, k, o, i, h => get_one_ne k k o i (Nat.le_refl k) h
  | .nd v l r, 0, o, i, h => by
    cases i with
    | zero => exact absurd rfl h
    | succ i => rfl
  | .nd v l r, j + 1, o, i, h => by
    unfold Tr.set
    cases e : odd j with
    | true =>
      show (Tr.nd v l (r.set (j / 2) o)).get i = _
      cases i with
      | zero => rfl
      | succ i =>
        unfold Tr.get
        cases e2 : odd i with
        | true => exact tget_set_ne r (j / 2) o (i / 2) (odd_ne (by omega) (e2.trans e.symm))
        | false => rfl
    | false =>
      show (Tr.nd v (l.set (j / 2) o) r).get i = _
      cases i with
      | zero => rfl
      | succ i =>
        unfold Tr.get
        cases e2 : odd i with
        | true => rfl
        | false => exact tget_set_ne l (j / 2) o (i / 2) (odd_ne (by omega) (e2.trans e.symm))
theorem tget_del : ∀ (t : Tr) (k : Nat), (t.del k).get k = none
  | .nil, k => rfl
  | .nd v l r, 0 => rfl
  | .nd v l r, j + 1 => by
    unfold Tr.del
    cases e : odd j with
    | true =>
      show (Tr.nd v l (r.del (j / 2))).get (j + 1) = _
      unfold Tr.get
      rw [e]
      exact tget_del r (j / 2)
    | false =>
      show (Tr.nd v (l.del (j / 2)) r).get (j + 1) = _
      unfold Tr.get
      rw [e]
      exact tget_del l (j / 2)
theorem tget_del_ne : ∀ (t : Tr) (k i : Nat), i ≠ k → (t.del k).get i = t.get i
  | .nil, k, i, h => rfl
  | .nd v l r, 0, i, h => by
    cases i with
    | zero => exact absurd rfl h
    | succ i => rfl
  | .nd v l r, j + 1, i, h => by
    unfold Tr.del
    cases e : odd j with
    | true =>
      show (Tr.nd v l (r.del (j / 2))).get i = _
      cases i with
      | zero => rfl
      | succ i =>
        unfold Tr.get
        cases e2 : odd i with
        | true => exact tget_del_ne r (j / 2) (i / 2) (odd_ne (by omega) (e2.trans e.symm))
        | false => rfl
    | false =>
      show (Tr.nd v (l.del (j / 2)) r).get i = _
      cases i with
      | zero => rfl
      | succ i =>
        unfold Tr.get
        cases e2 : odd i with
        | true => rfl
        | false => exact tget_del_ne l (j / 2) (i / 2) (odd_ne (by omega) (e2.trans e.symm))
section
variable {A : AH} {i j : Nat} {o : AO}
theorem get_set : (A.set i o).get i = some o := tget_set ..
theorem get_set_ne (h : j ≠ i) : (A.set i o).get j = A.get j := tget_set_ne _ _ _ _ h
theorem get_new : (A.new o).get A.n = some o := tget_set ..
theorem get_new_ne (h : j ≠ A.n) : (A.new o).get j = A.get j := tget_set_ne _ _ _ _ h
theorem get_del : (A.del i).get i = none := tget_del ..
theorem get_del_ne (h : j ≠ i) : (A.del i).get j = A.get j := tget_del_ne _ _ _ h
end

/-! ### steps -/
section
variable {G : Gm} {ρ ρ1 : Nat → Addr} {A A1 : AH} {H H1 : Hp} {p : Addr} {i : Nat} {o o0 : AO} {ho : HO}
theorem sqt_upd {H : Hp} {p : Addr} {ho : HO} (h : ∀ xs, H p ≠ some (.tup xs)) : ∀ (a : Addr) (vs : List V), H a = some (.tup vs) → (upd H p ho) a = some (.tup vs) := fun a vs q => by
  rw [upd_ne (fun e => h vs (by rw [← e]; exact q))]
  exact q
theorem sqt_new {H : Hp} {p : Addr} {ho : HO} (h : H p = none) : ∀ (a : Addr) (vs : List V), H a = some (.tup vs) → (upd H p ho) a = some (.tup vs) :=
  sqt_upd (fun xs => by rw [h]; exact fun z => nomatch z)
theorem Rel.low (R : Rel G ρ A H) {b : Addr} (h : Img ρ A b) : ∃ u, H b = some u ∧ ∀ xs, u ≠ .tup xs := by
  obtain ⟨i, o, e, rfl⟩ := h
  exact (R.ob i o e).some
/-- a new thing is tracked that the abstract heap does not know -/
theorem Ext.track (R : Rel G ρ A H) (hp : H p = none) : Ext G ρ A H ρ A (upd H p ho) :=
  ⟨fun _ _ => rfl, Nat.le_refl _, fun b u h k => ⟨by rw [upd_ne (ne_of_none h hp)]; exact h, k⟩, sqt_new hp⟩
theorem Rel.track (R : Rel G ρ A H) (hp : H p = none) : Rel G ρ A (upd H p ho) :=
  ⟨R.lt, fun j u e => (R.ob j u e).ext (Ext.track R hp) (by
    obtain ⟨z, hz, _⟩ := (R.ob j u e).some
    exact upd_ne (ne_of_none hz hp)), R.inj⟩
def extR (ρ : Nat → Addr) (n : Nat) (p : Addr) : Nat → Addr := fun i => if i = n then p else ρ i
theorem extR_same {n : Nat} : extR ρ n p n = p := if_pos rfl
theorem extR_ne {n : Nat} (h : i ≠ n) : extR ρ n p i = ρ i := if_neg h
/-- a thing that stands becomes an object of the abstract heap -/
theorem Rel.adopt (R : Rel G ρ1 A1 H1) (hp : ¬ Img ρ1 A1 p) (ro : RO G ρ1 A1.n H1 p o) : Rel G (extR ρ1 A1.n p) (A1.new o) H1 := by
  have ag : ∀ i, i < A1.n → extR ρ1 A1.n p i = ρ1 i := fun i h => extR_ne (Nat.ne_of_lt h)
  have le : A1.n ≤ (A1.new o).n := Nat.le_succ _
  refine ⟨fun j u e => ?_, fun j u e => ?_, fun j k u v e1 e2 z => ?_⟩
  · by_cases h : j = A1.n
    · rw [h]
      exact Nat.lt_succ_self _
    · rw [get_new_ne h] at e
      exact Nat.lt_succ_of_lt (R.lt j u e)
  · by_cases h : j = A1.n
    · subst h
      rw [get_new] at e
      cases e
      rw [extR_same]
      exact ro.mono ag le (fun _ _ q => q) rfl
    · rw [get_new_ne h] at e
      rw [extR_ne h]
      exact (R.ob j u e).mono ag le (fun _ _ q => q) rfl
  · by_cases h : j = A1.n
    · by_cases h2 : k = A1.n
      · rw [h, h2]
      · rw [get_new_ne h2] at e2
        rw [h, extR_same, extR_ne h2] at z
        exact absurd ⟨k, v, e2, z.symm⟩ hp
    · rw [get_new_ne h] at e1
      by_cases h2 : k = A1.n
      · rw [h2, extR_same, extR_ne h] at z
        exact absurd ⟨j, u, e1, z⟩ hp
      · rw [get_new_ne h2] at e2
        rw [extR_ne h, extR_ne h2] at z
        exact R.inj j k u v e1 e2 z
theorem Ext.adopt (e : Ext G ρ A H ρ1 A1 H1) (hp : H p = none) : Ext G ρ A H (extR ρ1 A1.n p) (A1.new o) H1 := by
  refine ⟨fun i h => ?_, Nat.le_succ_of_le e.le, fun b u h k => ?_, e.tu⟩
  · rw [extR_ne (Nat.ne_of_lt (Nat.lt_of_lt_of_le h e.le))]
    exact e.ag i h
  · obtain ⟨h1, k1⟩ := e.fr b u h k
    refine ⟨h1, fun ⟨j, v, e1, e2⟩ => ?_⟩
    by_cases hj : j = A1.n
    · rw [hj, extR_same] at e2
      exact ne_of_none h hp e2.symm
    · rw [get_new_ne hj] at e1
      rw [extR_ne hj] at e2
      exact k1 ⟨j, v, e1, e2⟩
theorem notImg (R : Rel G ρ A H) (hp : H p = none) : ¬ Img ρ A p := fun h => by
  obtain ⟨u, e, _⟩ := R.low h
  rw [hp] at e
  cases e
/-- a new object -/
theorem Rel.new (R : Rel G ρ A H) (hp : H p = none) (ro : RO G ρ A.n (upd H p ho) p o) : Rel G (extR ρ A.n p) (A.new o) (upd H p ho) ∧ Ext G ρ A H (extR ρ A.n p) (A.new o) (upd H p ho) :=
  ⟨(R.track hp).adopt (notImg R hp) ro, (Ext.track R hp).adopt hp⟩
/-- an object is changed -/
theorem Ext.set (R : Rel G ρ A H) (g : A.get i = some o0) : Ext G ρ A H ρ (A.set i o) (upd H (ρ i) ho) := by
  obtain ⟨u, e, h1⟩ := (R.ob i o0 g).some
  refine ⟨fun _ _ => rfl, Nat.le_refl _, fun b v h k => ⟨?_, fun ⟨j, w, e1, e2⟩ => ?_⟩, sqt_upd (fun xs z => h1 xs (Option.some.inj (e.symm.trans z)))⟩
  · rw [upd_ne (fun z => k ⟨i, o0, g, z.symm⟩)]
    exact h
  · by_cases hj : j = i
    · exact k ⟨i, o0, g, by rw [← hj]; exact e2⟩
    · rw [get_set_ne hj] at e1
      exact k ⟨j, w, e1, e2⟩
theorem Rel.set (R : Rel G ρ A H) (g : A.get i = some o0) (ro : RO G ρ A.n (upd H (ρ i) ho) (ρ i) o) : Rel G ρ (A.set i o) (upd H (ρ i) ho) := by
  have E : Ext G ρ A H ρ (A.set i o) (upd H (ρ i) ho) := Ext.set R g
  refine ⟨fun j u e => ?_, fun j u e => ?_, fun j k u v e1 e2 z => ?_⟩
  · by_cases h : j = i
    · rw [h]
      exact R.lt i o0 g
    · rw [get_set_ne h] at e
      exact R.lt j u e
  · by_cases h : j = i
    · subst h
      rw [get_set] at e
      cases e
      exact ro
    · rw [get_set_ne h] at e
      refine (R.ob j u e).ext E (upd_ne fun z => h (R.inj j i u o0 e g z))
  · have back : ∀ {m : Nat} {w : AO}, (A.set i o).get m = some w → ∃ w', A.get m = some w' := fun {m w} q => by
      by_cases h : m = i
      · rw [h]
        exact ⟨o0, g⟩
      · rw [get_set_ne h] at q
        exact ⟨w, q⟩
    obtain ⟨u', e1⟩ := back e1
    obtain ⟨v', e2⟩ := back e2
    exact R.inj j k u' v' e1 e2 z
end
end Zg
set_option Elab.async false
set_option maxRecDepth 100000
set_option maxHeartbeats 4000000
set_option linter.all false
/-! ZS2: expressions. -/
namespace Zg
open PySem L2

/-! ### slots -/
structure RSt (G : Gm) (ρ : Nat → Addr) (n : Nat) (H : Hp) (s : SA) (σ : St) : Prop where
  len : s.length = σ.length
  at_ : ∀ (i : Nat) (v : AV), s[i]? = some (some v) → ∃ u, σ[i]? = some (some u) ∧ RV G ρ n H v u
section
variable {G : Gm} {ρ ρ' : Nat → Addr} {A A' : AH} {n : Nat} {H H' : Hp} {s : SA} {σ : St} {v : AV} {u : V} {i : Nat}
theorem RSt.ext (e : Ext G ρ A H ρ' A' H') (r : RSt G ρ A.n H s σ) : RSt G ρ' A'.n H' s σ :=
  ⟨r.len, fun i v h => let ⟨u, a, b⟩ := r.at_ i v h; ⟨u, a, b.ext e⟩⟩
theorem RSt.set (r : RSt G ρ n H s σ) (q : RV G ρ n H v u) : RSt G ρ n H (s.set i (some v)) (σ.set i (some u)) := by
  refine ⟨by rw [List.length_set, List.length_set, r.len], fun j w h => ?_⟩
  rw [List.getElem?_set] at h ⊢
  by_cases e : i = j
  · rw [if_pos e] at h ⊢
    rw [← r.len]
    by_cases l : i < s.length
    · rw [if_pos (e ▸ l)] at h ⊢
      cases h
      exact ⟨u, rfl, q⟩
    · rw [if_neg (e ▸ l)] at h
      cases h
  · rw [if_neg e] at h ⊢
    exact r.at_ j w h
theorem RSt.clear (r : RSt G ρ n H s σ) : RSt G ρ n H (s.set i none) (σ.set i none) := by
  refine ⟨by rw [List.length_set, List.length_set, r.len], fun j w h => ?_⟩
  rw [List.getElem?_set] at h ⊢
  by_cases e : i = j
  · rw [if_pos e] at h
    by_cases l : i < s.length
    · rw [if_pos (e ▸ l)] at h
      cases h
    · rw [if_neg (e ▸ l)] at h
      cases h
  · rw [if_neg e] at h ⊢
    exact r.at_ j w h
theorem RSt.wipe (r : RSt G ρ n H s σ) : ∀ vs : List Nat, RSt G ρ n H (wipeA s vs) (wipe σ vs)
  | [] => r
  | v :: vs => (RSt.wipe r vs).clear
end
/-- where one stands -/
structure Cf (G : Gm) (ρ : Nat → Addr) (A : AH) (s : SA) (σ : St) (H : Hp) : Prop where
  st : RSt G ρ A.n H s σ
  rel : Rel G ρ A H
theorem Cf.ext {G : Gm} {ρ ρ' : Nat → Addr} {A A' : AH} {H H' : Hp} {s : SA} {σ : St} (c : Cf G ρ A s σ H) (e : Ext G ρ A H ρ' A' H') (r : Rel G ρ' A' H') : Cf G ρ' A' s σ H' := ⟨c.st.ext e, r⟩

/-! ### readings by functions of the abstract machine -/
def Out (G : Gm) (ρ : Nat → Addr) (A : AH) (H : Hp) (v : AV) (A' : AH) (Q : VK) : Prop := ∀ ρ' H' u, Ext G ρ A H ρ' A' H' → Rel G ρ' A' H' → RV G ρ' A'.n H' v u → Q u H'
def DE (G : Gm) (m : ME) : TE := fun σ H Q => ∃ ρ A s v A', Cf G ρ A s σ H ∧ m s A = some (v, A') ∧ Out G ρ A H v A' Q
def DT (G : Gm) (m : MT) : TT := fun σ H Q => ∃ ρ A s b A', Cf G ρ A s σ H ∧ m s A = some (b, A') ∧ ∀ ρ' H', Ext G ρ A H ρ' A' H' → Rel G ρ' A' H' → Q b H'
def DA (G : Gm) (m : MA) : TA := fun σ H Q => ∃ ρ A s vs A', Cf G ρ A s σ H ∧ m s A = some (vs, A') ∧ ∀ ρ' H' us, Ext G ρ A H ρ' A' H' → Rel G ρ' A' H' → RVs G ρ' A'.n H' vs us → Q us H'
def DO (G : Gm) (m : MO) : TO := fun σ H Q => ∃ ρ A s o A', Cf G ρ A s σ H ∧ m s A = some (o, A') ∧ ∀ ρ' H', Ext G ρ A H ρ' A' H' → Rel G ρ' A' H' → Q o H'
theorem bnd_some {α β : Type} {o : Option (α × AH)} {f : α → AH → Option β} {b : β} (h : bnd o f = some b) : ∃ a A, o = some (a, A) ∧ f a A = some b := by
  cases o with
  | none => cases h
  | some p => exact ⟨p.1, p.2, rfl, h⟩
theorem cond_some {α : Type} {b : Bool} {x y : Option α} {r : α} (h : cond b x y = some r) : (b = true ∧ x = some r) ∨ (b = false ∧ y = some r) := by
  cases b with
  | true => exact .inl ⟨rfl, h⟩
  | false => exact .inr ⟨rfl, h⟩
theorem cond_yes {α : Type} {b : Bool} {x : Option α} {r : α} (h : cond b x none = some r) : b = true ∧ x = some r := by
  cases b with
  | true => exact ⟨rfl, h⟩
  | false => cases h
theorem and_yes {a b : Bool} (h : (a && b) = true) : a = true ∧ b = true := Bool.and_eq_true_iff.mp h

/-- what a context is -/
structure Cok (G : Gm) (X : Cx) (k : Nat) : Prop where
  hP : X.prog = G.P
  hw : X.w = G.w
  hK : X.K = G.K
  hm : X.mg = G.mg
  hb : X.base = G.base
  calm : X.calm = true
  room : Room k X.A
  nd : X.N.Nodup
theorem _root_.L2.PE.imp {X : Cx} {e : Expr} {t t' : TE} (h : PE X e t) (hm : ∀ σ H Q, t' σ H Q → t σ H Q) : PE X e t' := ⟨fun pins s σ H Q I q => h.run pins s σ H Q I (hm σ H Q q)⟩
theorem _root_.L2.PT.imp {X : Cx} {e : Expr} {t t' : TT} (h : PT X e t) (hm : ∀ σ H Q, t' σ H Q → t σ H Q) : PT X e t' := ⟨fun pins s σ H Q I q => h.run pins s σ H Q I (hm σ H Q q)⟩
theorem _root_.L2.PW.imp {X : Cx} {e : Expr} {t t' : TT} (h : PW X e t) (hm : ∀ σ H Q, t' σ H Q → t σ H Q) : PW X e t' := ⟨fun wh pins s σ H Q I q => h.run wh pins s σ H Q I (hm σ H Q q)⟩
theorem _root_.L2.PA.imp {X : Cx} {e : List Expr} {t t' : TA} (h : PA X e t) (hm : ∀ σ H Q, t' σ H Q → t σ H Q) : PA X e t' := ⟨fun pos pins s σ H Q I q => h.run pos pins s σ H Q I (hm σ H Q q)⟩
theorem _root_.L2.PS.imp {X : Cx} {e : Stmt} {t t' : TS} (h : PS X e t) (hm : ∀ D σ H, t' D σ H → t D σ H) : PS X e t' := ⟨fun pins s σ H D I q => h.run pins s σ H D I (hm D σ H q)⟩
theorem _root_.L2.PSs.imp {X : Cx} {e : List Stmt} {t t' : TS} (h : PSs X e t) (hm : ∀ D σ H, t' D σ H → t D σ H) : PSs X e t' := ⟨fun pins s σ H D I q => h.run pins s σ H D I (hm D σ H q)⟩

section
variable {G : Gm} {X : Cx} {k : Nat} {a b : Expr} {es : List Expr} {pos : Pos} {ma mb : ME} {mr : MA} {ta tb : MT} {i : Nat}
/-! ### names, constants -/
theorem d_var : ∀ σ H Q, DE G (mVar i) σ H Q → tVar i σ H Q := fun σ H Q ⟨ρ, A, s, v, A', c, h, o⟩ => by
  unfold mVar at h
  cases e : s[i]? with
  | none =>
    rw [e] at h
    cases h
  | some w =>
    rw [e] at h
    cases w with
    | none => cases h
    | some w =>
      cases h
      obtain ⟨u, e2, r⟩ := c.st.at_ i v e
      exact ⟨u, e2, o ρ H u .refl c.rel r⟩
theorem re_var {x : Str} (hN : X.N[i]? = some x := by rfl) (hv : Vis X.env.scope x := by first | exact Or.inl rfl | exact Or.inr (Or.inl rfl) | exact Or.inr (Or.inr rfl)) (hd : (x == ("__debug__" : Str)) = false := by decide)
    (hcd : (x == ("__classdict__" : Str)) = false := by decide) : PE X (.Name x pos) (DE G (mVar i)) := (pe_var hN hv hd hcd).imp d_var
theorem d_c {v : AV} {u : V} (h : ∀ ρ n H, RV G ρ n H v u) : ∀ σ H Q, DE G (mC v) σ H Q → tC u σ H Q := fun σ H Q ⟨ρ, A, s, w, A', c, e, o⟩ => by
  cases e
  exact o ρ H u .refl c.rel (h _ _ _)
theorem re_int {n : Int} {j : Nat} : PE X (.Constant (.int n) j pos) (DE G (mC (.int n))) := pe_int.imp (d_c fun _ _ _ => .int n)
theorem re_bl {n : Bool} {j : Nat} : PE X (.Constant (.bool n) j pos) (DE G (mC (.bl n))) := pe_bl.imp (d_c fun _ _ _ => .bl n)
theorem re_non {j : Nat} : PE X (.Constant .none j pos) (DE G (mC .non)) := pe_non.imp (d_c fun _ _ _ => .non)
theorem re_str {x : Str} {c : Nat} {j : Nat} (h : dS c = x) : PE X (.Constant (.str x) j pos) (DE G (mC (.str c))) := by
  subst h
  exact pe_str.imp (d_c fun _ _ _ => .str c)
/-- a written negative number -/
theorem re_neg {n : Int} {j : Nat} {p2 : Pos} : PE X (.UnaryOp .USub (.Constant (.int n) j p2) pos) (DE G (mC (.int (-n)))) :=
  (pe_un un_neg pe_int).imp fun σ H Q ⟨ρ, A, s, w, A', c, e, o⟩ => by
    cases e
    exact ⟨n, rfl, o ρ H _ .refl c.rel (.int _)⟩
/-- a module's int -/
theorem re_gint {x : Str} {n : Int} {t : Tok} (C : Cok G X k) (hg : Gl X x) (hm : G.mg x = some (.int n t)) (hd : (x == ("__debug__" : Str)) = false := by decide) : PE X (.Name x pos) (DE G (mC (.int n))) :=
  (pe_glob (v := .int n) hg (by rw [C.hm]; exact hm) ⟨t, rfl⟩ hd).imp (d_c fun _ _ _ => .int n)
/-- a module's tuple of written things -/
theorem re_gtup {x : Str} {ts : List AV} {p : Addr} {vs : List V} (C : Cok G X k) (hg : Gl X x) (hm : G.mg x = some (.ref p)) (hs : ∀ H, SqT G.K H p vs) (hr : ∀ ρ n H, RVs G ρ n H ts vs) (hd : (x == ("__debug__" : Str)) = false := by decide) : PE X (.Name x pos) (DE G (mC (.ktup ts))) :=
  (pe_glob (v := .ref p) hg (by rw [C.hm]; exact hm) rfl hd).imp (d_c fun _ _ _ => .ktup hs (hr _ _ _))

/-! ### operators -/
def OS (G : Gm) (r : R2) (f : AV → AV → AH → Option (AV × AH)) : Prop := ∀ ρ A H x y u w v A' Q, Rel G ρ A H → RV G ρ A.n H x u → RV G ρ A.n H y w → f x y A = some (v, A') → Out G ρ A H v A' Q → r u w H Q
def US (G : Gm) (r : V → Hp → VK → Prop) (f : AV → AH → Option (AV × AH)) : Prop := ∀ ρ A H x u v A' Q, Rel G ρ A H → RV G ρ A.n H x u → f x A = some (v, A') → Out G ρ A H v A' Q → r u H Q
theorem d_op {r : R2} {f : AV → AV → AH → Option (AV × AH)} (hs : OS G r f) : ∀ σ H Q, DE G (mOp f ma mb) σ H Q → tOp r (DE G ma) (DE G mb) σ H Q := fun σ H Q ⟨ρ, A, s, v, A', c, h, o⟩ => by
  obtain ⟨x, A1, h1, h⟩ := bnd_some h
  obtain ⟨y, A2, h2, h⟩ := bnd_some h
  refine ⟨ρ, A, s, x, A1, c, h1, fun ρ1 H1 u e1 R1 r1 => ⟨ρ1, A1, s, y, A2, c.ext e1 R1, h2, fun ρ2 H2 w e2 R2 r2 => hs ρ2 A2 H2 x y u w v A' Q R2 (r1.ext e2) r2 h fun ρ3 H3 z e3 R3 r3 => o ρ3 H3 z ((e1.trans e2).trans e3) R3 r3⟩⟩
theorem re_op {op : Operator} {r : R2} {f : AV → AV → AH → Option (AV × AH)} (ho : OpR X (binaryOp op) r) (hs : OS G r f) (ha : PE X a (DE G ma)) (hb : PE X b (DE G mb)) : PE X (.BinOp a op b pos) (DE G (mOp f ma mb)) := (pe_op ho ha hb).imp (d_op hs)
theorem re_cmp {op : CmpOp} {r : R2} {f : AV → AV → AH → Option (AV × AH)} (ho : OpR X (compareOp op) r) (hs : OS G r f) (ha : PE X a (DE G ma)) (hb : PE X b (DE G mb)) (hm : behindInMarks op b = false := by first | exact nomark _ | rfl) : PE X (.Compare a [op] [b] pos) (DE G (mOp f ma mb)) := (pe_cmpR ho ha hb hm).imp (d_op hs)
theorem re_ix {r : R2} {f : AV → AV → AH → Option (AV × AH)} (hr : IxR X r) (hs : OS G r f) (ha : PE X a (DE G ma)) (hb : PE X b (DE G mb)) (hp : PlainIx b := by exact fun _ _ => rfl) : PE X (.Subscript a b pos) (DE G (mOp f ma mb)) := (pe_ix hr ha hb hp).imp (d_op hs)
theorem d_un {r : V → Hp → VK → Prop} {f : AV → AH → Option (AV × AH)} (hs : US G r f) : ∀ σ H Q, DE G (mUn f ma) σ H Q → tUn r (DE G ma) σ H Q := fun σ H Q ⟨ρ, A, s, v, A', c, h, o⟩ => by
  obtain ⟨x, A1, h1, h⟩ := bnd_some h
  exact ⟨ρ, A, s, x, A1, c, h1, fun ρ1 H1 u e1 R1 r1 => hs ρ1 A1 H1 x u v A' Q R1 r1 h fun ρ3 H3 z e3 R3 r3 => o ρ3 H3 z (e1.trans e3) R3 r3⟩

/-! ### arguments, displays -/
theorem ra_nil : PA X [] (DA G mNil) := pa_nil.imp fun σ H Q ⟨ρ, A, s, v, A', c, h, o⟩ => by
  cases h
  exact o ρ H [] .refl c.rel .nil
theorem ra_cons (ha : PE X a (DE G ma)) (hr : PA X es (DA G mr)) (hs : starEach (a :: es) X.env = (false, eval a X.env) :: starEach es X.env := by rfl) : PA X (a :: es) (DA G (mCons ma mr)) :=
  (pa_cons ha hr hs).imp fun σ H Q ⟨ρ, A, s, v, A', c, h, o⟩ => by
    obtain ⟨x, A1, h1, h⟩ := bnd_some h
    obtain ⟨xs, A2, h2, h⟩ := bnd_some h
    cases h
    exact ⟨ρ, A, s, x, A1, c, h1, fun ρ1 H1 u e1 R1 r1 => ⟨ρ1, A1, s, xs, A', c.ext e1 R1, h2, fun ρ2 H2 us e2 R2 r2 => o ρ2 H2 (u :: us) (e1.trans e2) R2 (.cons (r1.ext e2) r2)⟩⟩
def small (xs : List AV) : Bool := xs.length.blt line
theorem line_le {n : Nat} (h : n.blt line = true) : n < sizeLine := by
  have h1 : n < line := by
    have := Nat.le_of_ble_eq_true h
    exact this
  exact Nat.lt_of_lt_of_le h1 (by show line ≤ sizeLine; rw [sizeLine_eq]; decide)
theorem rs_fin {ρ ρ1 : Nat → Addr} {A A1 : AH} {H H1 : Hp} {p : Addr} {ho : HO} (e1 : Ext G ρ A H ρ1 A1 H1) (R1 : Rel G ρ1 A1 H1) (hp : H1 p = none) : Ext G ρ A H ρ1 A1 (upd H1 p ho) ∧ Rel G ρ1 A1 (upd H1 p ho) := ⟨e1.trans (Ext.track R1 hp), R1.track hp⟩
theorem RV.fresh {ρ : Nat → Addr} {n : Nat} {p : Addr} {H : Hp} : RV G (extR ρ n p) (n + 1) H (.ref n) (.ref p) := by
  have h : RV G (extR ρ n p) (n + 1) H (.ref n) (.ref (extR ρ n p n)) := .ref (Nat.lt_succ_self n)
  rw [extR_same] at h
  exact h
theorem re_tup {x1 : Nat} (h : PA X es (DA G mr)) : PE X (.Tuple es x1 pos) (DE G (mTup mr)) :=
  (pe_tup (x1 := x1) h).imp fun σ H Q ⟨ρ, A, s, v, A', c, hm, o⟩ => by
    obtain ⟨xs, A1, h1, hm⟩ := bnd_some hm
    obtain ⟨hz, hm⟩ := cond_yes hm
    cases hm
    refine ⟨ρ, A, s, xs, A', c, h1, fun ρ1 H1 us e1 R1 r1 => ⟨by rw [← r1.length]; exact Nat.le_of_lt (line_le hz), fun p hp => ?_⟩⟩
    obtain ⟨e2, R2⟩ := rs_fin (ho := .tup us) e1 R1 hp
    exact o ρ1 _ (.ref p) e2 R2 (.tup upd_same (r1.ext (Ext.track R1 hp)))
theorem re_lst (h : PA X es (DA G mr)) : PE X (.List es pos) (DE G (mLst mr)) :=
  (pe_lst h).imp fun σ H Q ⟨ρ, A, s, v, A', c, hm, o⟩ => by
    obtain ⟨xs, A1, h1, hm⟩ := bnd_some hm
    obtain ⟨hz, hm⟩ := cond_yes hm
    cases hm
    refine ⟨ρ, A, s, xs, A1, c, h1, fun ρ1 H1 us e1 R1 r1 => ⟨by rw [← r1.length]; exact Nat.le_of_lt (line_le hz), fun p hp => ?_⟩⟩
    obtain ⟨R2, e2⟩ := R1.new (o := .lst xs) (ho := .lst us) hp ⟨us, upd_same, r1.ext (Ext.track R1 hp)⟩
    exact o _ _ (.ref p) (e1.trans e2) R2 RV.fresh
theorem re_dictK : PE X (.Dict [] [] pos) (DE G mDictK) :=
  pe_dnewK.imp fun σ H Q ⟨ρ, A, s, v, A', c, hm, o⟩ => by
    cases hm
    intro p hp
    obtain ⟨R2, e2⟩ := c.rel.new (o := .dK []) (ho := .dK []) hp ⟨[], upd_same, .nil⟩
    exact o _ _ (.ref p) e2 R2 RV.fresh
theorem re_dictT : PE X (.Dict [] [] pos) (DE G mDictT) :=
  pe_dnewT.imp fun σ H Q ⟨ρ, A, s, v, A', c, hm, o⟩ => by
    cases hm
    intro p hp
    obtain ⟨R2, e2⟩ := c.rel.new (o := .dT []) (ho := .dT []) hp ⟨[], upd_same, .nil⟩
    exact o _ _ (.ref p) e2 R2 RV.fresh
end
end Zg
set_option Elab.async false
set_option maxRecDepth 100000
set_option maxHeartbeats 4000000
set_option linter.all false
/-! ZS3: the operators. -/
namespace Zg
open PySem L2
section
variable {G : Gm} {ρ : Nat → Addr} {A : AH} {n : Nat} {H : Hp} {x y : AV} {u w : V}
theorem ieq_dec (i j : Int) : ieq i j = decide (i = j) := by
  cases i with
  | ofNat a => cases j with
    | ofNat b =>
      show a.beq b = _
      by_cases h : a = b
      · subst h
        rw [Nat.beq_refl, decide_eq_true rfl]
      · rw [decide_eq_false (fun z => h (Int.ofNat.inj z))]
        cases e : a.beq b with
        | true => exact absurd (Nat.eq_of_beq_eq_true e) h
        | false => rfl
    | negSucc b => rw [decide_eq_false (fun z => by cases z)]; rfl
  | negSucc a => cases j with
    | ofNat b => rw [decide_eq_false (fun z => by cases z)]; rfl
    | negSucc b =>
      show a.beq b = _
      by_cases h : a = b
      · subst h
        rw [Nat.beq_refl, decide_eq_true rfl]
      · rw [decide_eq_false (fun z => h (Int.negSucc.inj z))]
        cases e : a.beq b with
        | true => exact absurd (Nat.eq_of_beq_eq_true e) h
        | false => rfl
theorem ble_dec (a b : Nat) : a.ble b = decide (a ≤ b) := by
  cases e : a.ble b with
  | true => exact (decide_eq_true (Nat.le_of_ble_eq_true e)).symm
  | false => exact (decide_eq_false (fun h => by rw [Nat.ble_eq_true_of_le h] at e; cases e)).symm
theorem ile_dec (i j : Int) : ile i j = decide (i ≤ j) := by
  cases i with
  | ofNat a => cases j with
    | ofNat b =>
      show a.ble b = _
      rw [ble_dec]
      exact decide_eq_decide.mpr (by simp only [Int.ofNat_eq_natCast]; omega)
    | negSucc b => exact (decide_eq_false (by simp only [Int.ofNat_eq_natCast]; omega)).symm
  | negSucc a => cases j with
    | ofNat b => exact (decide_eq_true (by simp only [Int.ofNat_eq_natCast]; omega)).symm
    | negSucc b =>
      show b.ble a = _
      rw [ble_dec]
      exact decide_eq_decide.mpr (by omega)
theorem ilt_dec (i j : Int) : ilt i j = decide (i < j) := by
  show (!ile j i) = _
  rw [ile_dec]
  by_cases h : j ≤ i
  · rw [decide_eq_true h, decide_eq_false (by omega)]
    rfl
  · rw [decide_eq_false h, decide_eq_true (by omega)]
    rfl
theorem beq_dec (a b : Nat) : a.beq b = decide (a = b) := by
  cases e : a.beq b with
  | true => exact (decide_eq_true (Nat.eq_of_beq_eq_true e)).symm
  | false => exact (decide_eq_false (fun h => by rw [h, Nat.beq_refl] at e; cases e)).symm
theorem blt_lt {a b : Nat} (h : a.blt b = true) : a < b := Nat.le_of_ble_eq_true h

/-! ### ints -/
theorem os_int {g : Int → Int → AV} {gV : Int → Int → V} {f : AV → AV → AH → Option (AV × AH)} (hg : ∀ i j ρ n H, RV G ρ n H (g i j) (gV i j)) (hf : ∀ x y A r, f x y A = some r → ∃ i j, x = .int i ∧ y = .int j ∧ r = (g i j, A)) : OS G (rI0 gV) f :=
  fun ρ A H x y u w v A' Q R rx ry h o => by
    obtain ⟨i, j, rfl, rfl, e⟩ := hf _ _ _ _ h
    cases e
    cases rx
    cases ry
    exact ⟨i, j, rfl, rfl, o ρ H _ .refl R (hg i j _ _ _)⟩
theorem os_intC {C : Int → Int → Prop} {g : Int → Int → AV} {gV : Int → Int → V} {f : AV → AV → AH → Option (AV × AH)} (hg : ∀ i j ρ n H, RV G ρ n H (g i j) (gV i j)) (hf : ∀ x y A r, f x y A = some r → ∃ i j, x = .int i ∧ y = .int j ∧ C i j ∧ r = (g i j, A)) : OS G (rI C gV) f :=
  fun ρ A H x y u w v A' Q R rx ry h o => by
    obtain ⟨i, j, rfl, rfl, hc, e⟩ := hf _ _ _ _ h
    cases e
    cases rx
    cases ry
    exact ⟨i, j, rfl, rfl, hc, o ρ H _ .refl R (hg i j _ _ _)⟩
theorem lv_add (ev : Nat → Int) : ∀ (i : Nat) (a b : List Int), lv ev i (ladd a b) = lv ev i a + lv ev i b
  | i, [], b => by
    cases b <;> exact (Int.zero_add _).symm
  | i, x :: a, [] => (Int.add_zero _).symm
  | i, x :: a, y :: b => by
    show (x + y) * ev i + lv ev (i + 1) (ladd a b) = (x * ev i + lv ev (i + 1) a) + (y * ev i + lv ev (i + 1) b)
    rw [lv_add ev (i + 1) a b, Int.add_mul]
    omega
theorem lv_scl (ev : Nat → Int) (c : Int) : ∀ (i : Nat) (a : List Int), lv ev i (lscl c a) = c * lv ev i a
  | i, [] => (Int.mul_zero c).symm
  | i, x :: a => by
    show (c * x) * ev i + lv ev (i + 1) (lscl c a) = c * (x * ev i + lv ev (i + 1) a)
    rw [lv_scl ev c (i + 1) a, Int.mul_add, Int.mul_assoc]
theorem lv_sub (ev : Nat → Int) (i : Nat) (a b : List Int) : lv ev i (lsub a b) = lv ev i a - lv ev i b := by
  unfold lsub
  rw [lv_add, lv_scl]
  omega
theorem num_ok {l : List Int} (r : RV G ρ n H x u) (h : numL x = some l) : u = .int (lv G.ev 0 l) := by
  cases r <;> first | (cases h; done) | skip
  · cases h
    show V.int _ = .int (_ * G.ev 0 + 0)
    rw [G.ev0, Int.mul_one, Int.add_zero]
  · cases h
    rfl
theorem all_nn (G : Gm) : ∀ (i : Nat) (l : List Int), 3 ≤ i → l.all (ile 0) = true → 0 ≤ lv G.ev i l
  | i, [], _, _ => Int.le_refl 0
  | i, c :: r, hi, h => by
    obtain ⟨h1, h2⟩ := and_yes (show (ile 0 c && r.all (ile 0)) = true from h)
    rw [ile_dec] at h1
    have h1 := of_decide_eq_true h1
    have := all_nn G (i + 1) r (by omega) h2
    have := Int.mul_nonneg h1 (G.evp i hi)
    show 0 ≤ c * G.ev i + lv G.ev (i + 1) r
    omega
theorem tail_nn (G : Gm) {l : List Int} (h : tailL l = true) : 0 ≤ lv G.ev 1 l := by
  cases l with
  | nil => exact Int.le_refl 0
  | cons c r =>
    cases r with
    | nil =>
      obtain ⟨h1, _⟩ := and_yes (show (ieq c 0 && true) = true from h)
      rw [ieq_dec] at h1
      have h1 := of_decide_eq_true h1
      show 0 ≤ c * G.ev 1 + 0
      rw [h1, Int.zero_mul]
      omega
    | cons d r =>
      obtain ⟨h1, h2⟩ := and_yes (show (ieq c 0 && (ieq d 0 && r.all (ile 0))) = true from h)
      obtain ⟨h3, h4⟩ := and_yes h2
      rw [ieq_dec] at h1 h3
      have h1 := of_decide_eq_true h1
      have h3 := of_decide_eq_true h3
      have := all_nn G 3 r (by omega) h4
      show 0 ≤ c * G.ev 1 + (d * G.ev 2 + lv G.ev 3 r)
      rw [h1, h3, Int.zero_mul, Int.zero_mul]
      omega
theorem pos_ok {l : List Int} (h : posL l = true) : 1 ≤ lv G.ev 0 l := by
  cases l with
  | nil => cases h
  | cons c r =>
    obtain ⟨h1, h2⟩ := and_yes (show (ile 1 c && tailL r) = true from h)
    rw [ile_dec] at h1
    have h1 := of_decide_eq_true h1
    have := tail_nn G h2
    show 1 ≤ c * G.ev 0 + lv G.ev 1 r
    rw [G.ev0, Int.mul_one]
    omega
theorem nn_ok {l : List Int} (h : nnL l = true) : 0 ≤ lv G.ev 0 l := by
  cases l with
  | nil => exact Int.le_refl 0
  | cons c r =>
    obtain ⟨h1, h2⟩ := and_yes (show (ile 0 c && tailL r) = true from h)
    rw [ile_dec] at h1
    have h1 := of_decide_eq_true h1
    have := tail_nn G h2
    show 0 ≤ c * G.ev 0 + lv G.ev 1 r
    rw [G.ev0, Int.mul_one]
    omega
theorem os_lin {f : List Int → List Int → List Int} {g : Int → Int → Int} {ff : AV → AV → AH → Option (AV × AH)} (hl : ∀ a b, lv G.ev 0 (f a b) = g (lv G.ev 0 a) (lv G.ev 0 b)) (hf : ∀ x y A, ff x y A = match x, y with
    | .int i, .int j => some (.int (g i j), A)
    | _, _ => linO f x y A) : OS G (rI0 fun i j => .int (g i j)) ff := fun ρ A H x y u w v A' Q R rx ry h o => by
  rw [hf] at h
  split at h
  · cases h
    cases rx
    cases ry
    exact ⟨_, _, rfl, rfl, o ρ H _ .refl R (.int _)⟩
  · unfold linO at h
    split at h
    · rename_i a b ha hb
      cases h
      refine ⟨_, _, num_ok rx ha, num_ok ry hb, o ρ H _ .refl R ?_⟩
      show RV G ρ A.n H (.sym (f a b)) (.int (g (lv G.ev 0 a) (lv G.ev 0 b)))
      rw [← hl]
      exact .sym _
    · cases h
theorem os_add : OS G (rI0 fun i j => .int (i + j)) oAdd := os_lin (g := fun i j => i + j) (lv_add G.ev 0) fun x y A => by
  unfold oAdd
  cases x <;> cases y <;> rfl
theorem os_sub : OS G (rI0 fun i j => .int (i - j)) oSub := os_lin (g := fun i j => i - j) (lv_sub G.ev 0) fun x y A => by
  unfold oSub
  cases x <;> cases y <;> rfl
theorem os_lt : OS G (rI0 fun i j => .bl (decide (i < j))) oLt := fun ρ A H x y u w v A' Q R rx ry h o => by
  unfold oLt at h
  split at h
  · cases h
    cases rx
    cases ry
    rw [ilt_dec] at o
    exact ⟨_, _, rfl, rfl, o ρ H _ .refl R (.bl _)⟩
  · unfold linLt at h
    split at h
    · rename_i a b ha hb
      split at h
      · rename_i k hk
        cases h
        refine ⟨_, _, num_ok rx ha, num_ok ry hb, ?_⟩
        unfold ltL at hk
        rcases cond_some hk with ⟨h1, h2⟩ | ⟨_, h2⟩
        · cases h2
          have := pos_ok (G := G) h1
          rw [lv_sub] at this
          have e : decide (lv G.ev 0 a < lv G.ev 0 b) = true := decide_eq_true (by omega)
          show Q (.bl (decide (lv G.ev 0 a < lv G.ev 0 b))) H
          rw [e]
          exact o ρ H _ .refl R (.bl _)
        · obtain ⟨h3, h4⟩ := cond_yes h2
          cases h4
          have := nn_ok (G := G) h3
          rw [lv_sub] at this
          have e : decide (lv G.ev 0 a < lv G.ev 0 b) = false := decide_eq_false (by omega)
          show Q (.bl (decide (lv G.ev 0 a < lv G.ev 0 b))) H
          rw [e]
          exact o ρ H _ .refl R (.bl _)
      · cases h
    · cases h
theorem os_ge : OS G (rI0 fun i j => .bl (decide (j ≤ i))) oGe := os_int (g := fun i j => .bl (ile j i)) (fun i j _ _ _ => by rw [ile_dec]; exact .bl _) fun x y A r h => by
  unfold oGe at h
  split at h
  · exact ⟨_, _, rfl, rfl, (Option.some.inj h).symm⟩
  · cases h
theorem os_gt : OS G (rI0 fun i j => .bl (decide (j < i))) oGt := os_int (g := fun i j => .bl (ilt j i)) (fun i j _ _ _ => by rw [ilt_dec]; exact .bl _) fun x y A r h => by
  unfold oGt at h
  split at h
  · exact ⟨_, _, rfl, rfl, (Option.some.inj h).symm⟩
  · cases h
theorem os_mul : OS G (rI CMul fun i j => .int (i * j)) oMul := os_intC (g := fun i j => .int (i * j)) (fun i j _ _ _ => .int _) fun x y A r h => by
  unfold oMul at h
  split at h
  · obtain ⟨h1, h⟩ := cond_yes h
    have h2 := blt_lt h1
    exact ⟨_, _, rfl, rfl, .inl ⟨by omega, by omega⟩, (Option.some.inj h).symm⟩
  · cases h
theorem os_fdiv : OS G (rI CDivN fun i j => .int (i.fdiv j)) oFdiv := os_intC (g := fun i j => .int (i.fdiv j)) (fun i j _ _ _ => .int _) fun x y A r h => by
  unfold oFdiv at h
  split at h
  · obtain ⟨h1, h⟩ := cond_yes h
    obtain ⟨h1, h2⟩ := and_yes h1
    have h1 := Nat.le_of_ble_eq_true h1
    have h2 := blt_lt h2
    exact ⟨_, _, rfl, rfl, ⟨by omega, by omega⟩, (Option.some.inj h).symm⟩
  · cases h
theorem os_mod : OS G (rI (fun _ j => j ≠ 0) fun i j => .int (i.fmod j)) oMod := os_intC (g := fun i j => .int (i.fmod j)) (fun i j _ _ _ => .int _) fun x y A r h => by
  unfold oMod at h
  split at h
  · obtain ⟨h1, h⟩ := cond_yes h
    have h1 := Nat.le_of_ble_eq_true h1
    exact ⟨_, _, rfl, rfl, by omega, (Option.some.inj h).symm⟩
  · cases h
theorem os_pow : OS G (rI CPow fun i j => .int (i ^ j.toNat)) oPow := os_intC (g := fun i j => .int (i ^ j.toNat)) (fun i j _ _ _ => .int _) fun x y A r h => by
  unfold oPow at h
  split at h
  · obtain ⟨h1, h⟩ := cond_yes h
    obtain ⟨h1, h3⟩ := and_yes h1
    obtain ⟨h1, h2⟩ := and_yes h1
    rw [ile_dec] at h1 h2
    exact ⟨_, _, rfl, rfl, ⟨of_decide_eq_true h1, of_decide_eq_true h2, blt_lt h3⟩, (Option.some.inj h).symm⟩
  · cases h

/-! ### texts, tuples, lists -/
theorem dS_length (c : Nat) : (dS c).length = codeLen c c := by
  rw [codeLen_eq]
  rfl
theorem dS_cat (a b : Nat) : dS (catC a b) = dS a ++ dS b := by
  show (⟨(dgs (catC a b)).toArray⟩ : Str) = ⟨(dgs a).toArray ++ (dgs b).toArray⟩
  rw [dgs_cat]
  exact congrArg Str.mk (by simp)
theorem os_catS : OS G (fun x y H Q => ∃ i j, x = .str i ∧ y = .str j ∧ i.length + j.length ≤ sizeLine ∧ Q (.str (i ++ j)) H) oCatS := fun ρ A H x y u w v A' Q R rx ry h o => by
  unfold oCatS at h
  split at h
  · rename_i a b
    obtain ⟨h1, h⟩ := cond_yes h
    cases h
    cases rx
    cases ry
    refine ⟨_, _, rfl, rfl, by rw [dS_length, dS_length]; exact Nat.le_of_lt (line_le h1), ?_⟩
    rw [← dS_cat]
    exact o ρ H _ .refl R (.str _)
  · cases h
theorem os_catT : OS G (rCatA G.K) oCatT := fun ρ A H x y u w v A' Q R rx ry h o => by
  unfold oCatT at h
  split at h
  · rename_i a b
    obtain ⟨h1, h⟩ := cond_yes h
    cases h
    cases rx with
    | tup s1 r1 =>
    cases ry with
    | tup s2 r2 =>
    refine ⟨_, _, _, _, rfl, rfl, .of s1, .of s2, by rw [← r1.length, ← r2.length]; exact Nat.le_of_lt (line_le h1), fun e => ?_, fun _ e => ?_, fun _ _ p hp => ?_⟩
    · subst e
      cases r1
      exact o ρ H _ .refl R (.tup s2 r2)
    · subst e
      cases r2
      rw [List.append_nil] at o
      exact o ρ H _ .refl R (.tup s1 r1)
    · exact o ρ _ _ (Ext.track R hp) (R.track hp) (.tup upd_same ((r1.append r2).ext (Ext.track R hp)))
  · cases h
theorem lst_of {A : AH} {a : Nat} (R : Rel G ρ A H) {xs : List AV} (e : A.get a = some (.lst xs)) : ∃ vs, H (ρ a) = some (.lst vs) ∧ RVs G ρ A.n H xs vs := R.ob a _ e
theorem out_lst {Q : VK} {ys : List AV} {vs : List V} {p : Addr} (R : Rel G ρ A H) (hp : H p = none) (r : RVs G ρ A.n H ys vs) (o : Out G ρ A H (.ref A.n) (A.new (.lst ys)) Q) : Q (.ref p) (upd H p (.lst vs)) := by
  obtain ⟨R2, e2⟩ := R.new (o := .lst ys) (ho := .lst vs) hp ⟨vs, upd_same, r.ext (Ext.track R hp)⟩
  exact o _ _ (.ref p) e2 R2 RV.fresh
theorem os_catL : OS G rCat oCatL := fun ρ A H x y u w v A' Q R rx ry h o => by
  unfold oCatL at h
  split at h
  · split at h
    · rename_i h1 h2
      obtain ⟨h3, h⟩ := cond_yes h
      cases h
      cases rx
      cases ry
      obtain ⟨vs, e1, r1⟩ := lst_of R h1
      obtain ⟨ws, e2, r2⟩ := lst_of R h2
      exact ⟨_, _, _, _, rfl, rfl, e1, e2, by rw [← r1.length, ← r2.length]; exact Nat.le_of_lt (line_le h3), fun p hp => out_lst R hp (r1.append r2) o⟩
    · cases h
  · cases h
theorem repA_ok {xs : List AV} {vs : List V} (r : RVs G ρ n H xs vs) : ∀ k : Nat, RVs G ρ n H (repA xs k) (List.replicate k vs).flatten
  | 0 => .nil
  | k + 1 => by
    rw [List.replicate_succ, List.flatten_cons]
    exact r.append (repA_ok r k)
theorem os_rep : OS G rRep oRep := fun ρ A H x y u w v A' Q R rx ry h o => by
  unfold oRep at h
  split at h
  · split at h
    · rename_i h1
      obtain ⟨h3, h⟩ := cond_yes h
      obtain ⟨h2, h3⟩ := and_yes h3
      cases h
      cases rx
      cases ry
      obtain ⟨vs, e1, r1⟩ := lst_of R h1
      have h2 := blt_lt h2
      have h4 : line < 2 ^ 62 := by decide
      exact ⟨_, _, _, rfl, rfl, e1, by omega, by omega, by rw [← r1.length]; exact Nat.le_of_lt (line_le h3), fun p hp => out_lst R hp (repA_ok r1 _) o⟩
    · cases h
  · cases h

/-! ### == of flat values -/
theorem eqS_ok (rx : RV G ρ n H x u) (ry : RV G ρ n H y w) {b : Bool} (h : eqS x y = some b) : scal u w = true ∧ b = decide (u = w) := by
  unfold eqS at h
  split at h <;> first | (cases h; done) | skip
  all_goals cases h
  all_goals cases rx
  all_goals cases ry
  all_goals refine ⟨rfl, ?_⟩
  all_goals first | exact (decide_eq_true rfl).symm | exact (decide_eq_false (fun z => by cases z)).symm | skip
  · rw [ieq_dec]
    exact decide_eq_decide.mpr ⟨fun e => congrArg V.int e, fun e => V.int.inj e⟩
  · rw [Bool.beq_eq_decide_eq]
    exact decide_eq_decide.mpr ⟨fun e => congrArg V.bl e, fun e => V.bl.inj e⟩
  · rw [beq_dec]
    exact decide_eq_decide.mpr ⟨fun e => by rw [e], fun e => dS_inj (V.str.inj e)⟩
theorem linNe_ok (rx : RV G ρ n H x u) (ry : RV G ρ n H y w) (h : linNe x y = true) : ∃ i j, u = .int i ∧ w = .int j ∧ i ≠ j := by
  unfold linNe at h
  split at h
  · rename_i a b ha hb
    refine ⟨_, _, num_ok rx ha, num_ok ry hb, ?_⟩
    unfold neL at h
    rcases Bool.or_eq_true_iff.mp h with h | h
    · have := pos_ok (G := G) h
      rw [lv_sub] at this
      omega
    · have := pos_ok (G := G) h
      rw [lv_sub] at this
      omega
  · cases h
theorem os_eq : OS G rEq oEq := fun ρ A H x y u w v A' Q R rx ry h o => by
  unfold oEq at h
  split at h
  · rename_i b hb
    cases h
    obtain ⟨h1, h2⟩ := eqS_ok rx ry hb
    exact ⟨h1, by rw [← h2]; exact o ρ H _ .refl R (.bl _)⟩
  · obtain ⟨h1, h2⟩ := cond_yes h
    cases h2
    obtain ⟨i, j, rfl, rfl, hn⟩ := linNe_ok rx ry h1
    refine ⟨rfl, ?_⟩
    have e : decide (V.int i = V.int j) = false := decide_eq_false fun z => hn (V.int.inj z)
    rw [e]
    exact o ρ H _ .refl R (.bl _)
theorem os_ne : OS G rNe oNe := fun ρ A H x y u w v A' Q R rx ry h o => by
  unfold oNe at h
  split at h
  · rename_i b hb
    cases h
    obtain ⟨h1, h2⟩ := eqS_ok rx ry hb
    exact ⟨h1, by rw [← h2]; exact o ρ H _ .refl R (.bl _)⟩
  · obtain ⟨h1, h2⟩ := cond_yes h
    cases h2
    obtain ⟨i, j, rfl, rfl, hn⟩ := linNe_ok rx ry h1
    refine ⟨rfl, ?_⟩
    have e : decide (V.int i = V.int j) = false := decide_eq_false fun z => hn (V.int.inj z)
    rw [e]
    exact o ρ H _ .refl R (.bl _)
theorem isN_ok (hk : known x = true) (rx : RV G ρ n H x u) : isN x = decide (u = .non) := by
  cases rx <;> first | exact Bool.noConfusion (show false = true from hk) | rfl | exact (decide_eq_false (fun z => by cases z)).symm
theorem os_isN : OS G (fun x y H Q => y = .non ∧ Q (.bl (decide (x = .non))) H) oIsN := fun ρ A H x y u w v A' Q R rx ry h o => by
  unfold oIsN at h
  split at h
  · obtain ⟨hk, h⟩ := cond_yes h
    cases h
    cases ry
    refine ⟨rfl, ?_⟩
    rw [← isN_ok hk rx]
    exact o ρ H _ .refl R (.bl _)
  · cases h
theorem os_notN : OS G (fun x y H Q => y = .non ∧ Q (.bl (!decide (x = .non))) H) oNotN := fun ρ A H x y u w v A' Q R rx ry h o => by
  unfold oNotN at h
  split at h
  · obtain ⟨hk, h⟩ := cond_yes h
    cases h
    cases ry
    refine ⟨rfl, ?_⟩
    rw [← isN_ok hk rx]
    exact o ρ H _ .refl R (.bl _)
  · cases h
/-! ### in -/
theorem inS_ok {c : Nat} : ∀ {ts : List AV} {vs : List V} {b : Bool}, RVs G ρ n H ts vs → inS c ts = some b → vs.all flatV = true ∧ inV (.str (dS c)) vs = b
  | [], _, b, .nil, h => by
    cases h
    exact ⟨rfl, rfl⟩
  | t :: ts, _, b, .cons r s, h => by
    unfold inS at h
    split at h
    · rename_i e1
      cases e1
    · rename_i d r' e1
      cases e1
      split at h
      · rename_i b1 hb
        obtain ⟨h1, h2⟩ := inS_ok s hb
        cases h
        cases r
        refine ⟨by rw [List.all_cons, h1] <;> rfl, ?_⟩
        show (eqV (.str (dS d)) (.str (dS c)) || inV (.str (dS c)) _) = _
        rw [h2]
        show ((dS d == dS c) || b1) = _
        cases e : d.beq c with
        | true =>
          rw [Nat.eq_of_beq_eq_true e]
          simp
        | false =>
          have hn : (dS d == dS c) = false := by
            rw [beq_eq_false_iff_ne]
            intro z
            rw [dS_inj z, Nat.beq_refl] at e
            cases e
          rw [hn]
          rfl
      · cases h
    · cases h
theorem tsOf_ok {ts : List AV} (r : RV G ρ n H x u) (h : tsOf x = some ts) : ∃ a vs, u = .ref a ∧ SqT G.K H a vs ∧ RVs G ρ n H ts vs := by
  cases r with
  | tup s1 r1 =>
    cases h
    exact ⟨_, _, rfl, .of s1, r1⟩
  | ktup s1 r1 =>
    cases h
    exact ⟨_, _, rfl, s1 _, r1⟩
  | _ => cases h
theorem os_inS : OS G (rIn G.K false) oInS := fun ρ A H x y u w v A' Q R rx ry h o => by
  unfold oInS at h
  split at h
  · rename_i hts
    split at h
    · rename_i b hb
      cases h
      cases rx
      obtain ⟨_, _, rfl, s1, r1⟩ := tsOf_ok ry hts
      obtain ⟨h1, h2⟩ := inS_ok r1 hb
      refine ⟨_, _, rfl, .inr s1, rfl, h1, ?_⟩
      show Q (.bl (inV _ _)) H
      rw [h2]
      exact o ρ H _ .refl R (.bl _)
    · cases h
  · cases h
theorem os_notInS : OS G (rIn G.K true) oNotInS := fun ρ A H x y u w v A' Q R rx ry h o => by
  unfold oNotInS at h
  split at h
  · rename_i hts
    split at h
    · rename_i b hb
      cases h
      cases rx
      obtain ⟨_, _, rfl, s1, r1⟩ := tsOf_ok ry hts
      obtain ⟨h1, h2⟩ := inS_ok r1 hb
      refine ⟨_, _, rfl, .inr s1, rfl, h1, ?_⟩
      show Q (.bl (!inV _ _)) H
      rw [h2]
      exact o ρ H _ .refl R (.bl _)
    · cases h
  · cases h
/-! ### subscripts -/
theorem atA_ok {ts : List AV} {vs : List V} {i : Int} {v : AV} (r : RVs G ρ n H ts vs) (h : atA ts i = some v) : ∃ u, atI vs i = some u ∧ RV G ρ n H v u := by
  cases i with
  | ofNat k =>
    obtain ⟨u, h1, h2⟩ := r.get (show ts[k]? = some v from h)
    exact ⟨u, atI_nat h1, h2⟩
  | negSucc k =>
    have h : (if k < ts.length then ts[ts.length - 1 - k]? else none) = some v := h
    by_cases hk : k < ts.length
    · rw [if_pos hk] at h
      obtain ⟨u, h1, h2⟩ := r.get h
      refine ⟨u, ?_, h2⟩
      unfold atI ixN
      rw [if_neg (by omega), if_pos (by rw [← r.length]; omega)]
      show vs[(Int.negSucc k + (vs.length : Int)).toNat]? = some u
      have e : (Int.negSucc k + (vs.length : Int)).toNat = ts.length - 1 - k := by
        rw [← r.length]
        omega
      rw [e]
      exact h1
    · rw [if_neg hk] at h
      cases h
theorem last_at {ps vs : List V} {u : V} (h : vs[vs.length - 1]? = some u) : atI (ps ++ vs) (-1) = some u := by
  have hl : 0 < vs.length := by
    cases vs with
    | nil => cases h
    | cons _ _ => exact Nat.zero_lt_succ _
  unfold atI ixN
  rw [if_neg (by omega), if_pos (by rw [List.length_append]; omega)]
  show (ps ++ vs)[((-1 : Int) + ((ps ++ vs).length : Int)).toNat]? = some u
  have e : ((-1 : Int) + ((ps ++ vs).length : Int)).toNat = ps.length + (vs.length - 1) := by
    rw [List.length_append]
    omega
  rw [e, List.getElem?_append_right (by omega)]
  have e2 : ps.length + (vs.length - 1) - ps.length = vs.length - 1 := by omega
  rw [e2]
  exact h
theorem os_ix : OS G (fun x y H Q => rIxL G.K x y H Q ∨ rIxT G.K x y H Q) oIx := fun ρ A H x y u w v A' Q R rx ry h o => by
  unfold oIx at h
  split at h
  · rename_i ts i
    cases e : atA ts i with
    | none =>
      rw [e] at h
      cases h
    | some z =>
      rw [e] at h
      cases h
      cases ry
      cases rx with
      | tup s1 r1 =>
      obtain ⟨u1, h1, h2⟩ := atA_ok r1 e
      exact .inr ⟨_, _, _, _, rfl, rfl, .of s1, h1, o ρ H _ .refl R h2⟩
  · rename_i ts i
    cases e : atA ts i with
    | none =>
      rw [e] at h
      cases h
    | some z =>
      rw [e] at h
      cases h
      cases ry
      cases rx with
      | ktup s1 r1 =>
      obtain ⟨u1, h1, h2⟩ := atA_ok r1 e
      exact .inr ⟨_, _, _, _, rfl, rfl, s1 _, h1, o ρ H _ .refl R h2⟩
  · rename_i a i
    split at h
    · rename_i xs hx
      cases e : atA xs i with
      | none =>
        rw [e] at h
        cases h
      | some z =>
        rw [e] at h
        cases h
        cases ry
        cases rx
        obtain ⟨vs, e1, r1⟩ := lst_of R hx
        obtain ⟨u1, h1, h2⟩ := atA_ok r1 e
        exact .inl ⟨_, _, _, _, rfl, rfl, SqL.of e1, h1, o ρ H _ .refl R h2⟩
    · rename_i k xs hx
      obtain ⟨hi, h⟩ := cond_yes h
      rw [ieq_dec] at hi
      have hi := of_decide_eq_true hi
      subst hi
      cases e : xs[xs.length - 1]? with
      | none =>
        rw [e] at h
        cases h
      | some z =>
        rw [e] at h
        cases h
        cases ry
        cases rx
        obtain ⟨vs, e1, r1⟩ := R.ob _ _ hx
        obtain ⟨u1, h1, h2⟩ := r1.get e
        exact .inl ⟨_, _, _, _, rfl, rfl, SqL.of e1, last_at (by rw [← r1.length]; exact h1), o ρ H _ .refl R h2⟩
    · cases h
  · cases h
/-! ### == of data -/
mutual
def toP : AV → PyData
  | .int i => .int i
  | .str c => .str (dS c)
  | .tup ts => .tuple (toPs ts)
  | _ => .none
def toPs : List AV → List PyData
  | [] => []
  | x :: xs => toP x :: toPs xs
end
theorem strOk_dS (c : Nat) : PyData.strOk (dS c) = true := by
  show ((dgs c).toArray).all (fun x => decide (x < 0x110000)) = true
  rw [List.all_toArray, List.all_eq_true]
  intro d hd
  have := dgs_ok _ _ d hd
  exact decide_eq_true (by omega)
mutual
theorem okD_lay : ∀ (k : Nat) (x : AV), okD k x = true → (toP x).canLay0 = true ∧ (toP x).depth ≤ k
  | k, .int i, h => ⟨rfl, by cases k <;> exact Nat.zero_le _⟩
  | k, .str c, h => ⟨strOk_dS c, by cases k <;> exact Nat.zero_le _⟩
  | 0, .tup ts, h => by cases h
  | k + 1, .tup ts, h => by
    obtain ⟨h1, h2⟩ := okDs_lay k ts (show ts.all (okD k) = true from h)
    exact ⟨h1, Nat.succ_le_succ h2⟩
  | 0, .non, h => by cases h
  | 0, .bl _, h => by cases h
  | 0, .sym _, h => by cases h
  | 0, .any, h => by cases h
  | 0, .ref _, h => by cases h
  | 0, .ktup _, h => by cases h
  | _ + 1, .ktup _, h => by cases h
  | _ + 1, .non, h => by cases h
  | _ + 1, .bl _, h => by cases h
  | _ + 1, .sym _, h => by cases h
  | _ + 1, .any, h => by cases h
  | _ + 1, .ref _, h => by cases h
theorem okDs_lay : ∀ (k : Nat) (xs : List AV), xs.all (okD k) = true → PyData.canLayAll0 (toPs xs) = true ∧ PyData.depthAll (toPs xs) ≤ k
  | k, [], _ => ⟨rfl, Nat.zero_le _⟩
  | k, x :: xs, h => by
    rw [List.all_cons] at h
    obtain ⟨h1, h2⟩ := and_yes h
    obtain ⟨a1, a2⟩ := okD_lay k x h1
    obtain ⟨b1, b2⟩ := okDs_lay k xs h2
    exact ⟨by show (_ && _) = true; rw [a1, b1] <;> rfl, Nat.max_le.mpr ⟨a2, b2⟩⟩
end
mutual
theorem toP_dp : ∀ (k : Nat) (x : AV) (v : V), okD k x = true → RV G ρ n H x v → Dp G.K H v (toP x)
  | _, .int i, _, h, r => by
    cases r
    exact .int i
  | _, .str c, _, h, r => by
    cases r
    exact .str _
  | 0, .tup ts, _, h, r => by cases h
  | k + 1, .tup ts, _, h, r => by
    cases r with
    | tup s1 r1 => exact .tup (.of s1) (toPs_dp k ts _ (show ts.all (okD k) = true from h) r1)
  | 0, .non, _, h, _ => by cases h
  | 0, .bl _, _, h, _ => by cases h
  | 0, .sym _, _, h, _ => by cases h
  | 0, .any, _, h, _ => by cases h
  | 0, .ref _, _, h, _ => by cases h
  | 0, .ktup _, _, h, _ => by cases h
  | _ + 1, .ktup _, _, h, _ => by cases h
  | _ + 1, .non, _, h, _ => by cases h
  | _ + 1, .bl _, _, h, _ => by cases h
  | _ + 1, .sym _, _, h, _ => by cases h
  | _ + 1, .any, _, h, _ => by cases h
  | _ + 1, .ref _, _, h, _ => by cases h
theorem toPs_dp : ∀ (k : Nat) (xs : List AV) (vs : List V), xs.all (okD k) = true → RVs G ρ n H xs vs → DpAll G.K H vs (toPs xs)
  | k, [], _, _, r => by
    cases r
    exact .nil
  | k, x :: xs, _, h, r => by
    rw [List.all_cons] at h
    obtain ⟨h1, h2⟩ := and_yes h
    cases r with
    | cons r1 r2 => exact .cons (toP_dp k x _ h1 r1) (toPs_dp k xs _ h2 r2)
end
theorem str_beq (a b : Nat) : (dS a == dS b) = a.beq b := by
  cases e : a.beq b with
  | true => rw [Nat.eq_of_beq_eq_true e]; simp
  | false =>
    rw [beq_eq_false_iff_ne]
    intro z
    rw [dS_inj z, Nat.beq_refl] at e
    cases e
theorem ieq_beq (a b : Int) : (a == b) = ieq a b := by
  rw [ieq_dec, Bool.beq_eq_decide_eq]
mutual
theorem beqD_ok : ∀ (k j : Nat) (x y : AV), okD k x = true → okD j y = true → PyData.eqv (toP x) (toP y) = beqD x y
  | _, _, .int a, .int b, _, _ => ieq_beq a b
  | _, _, .str a, .str b, _, _ => str_beq a b
  | _, _, .int _, .str _, _, _ => rfl
  | _, _, .int _, .tup _, _, _ => rfl
  | _, _, .str _, .int _, _, _ => rfl
  | _, _, .str _, .tup _, _, _ => rfl
  | _, _, .tup _, .int _, _, _ => rfl
  | _, _, .tup _, .str _, _, _ => rfl
  | k + 1, j + 1, .tup xs, .tup ys, h, g => beqDs_ok k j xs ys h g
  | 0, _, .tup _, .tup _, h, _ => by cases h
  | _, 0, .tup _, .tup _, _, h => by cases h
  | 0, _, .non, _, h, _ => by cases h
  | 0, _, .bl _, _, h, _ => by cases h
  | 0, _, .sym _, _, h, _ => by cases h
  | 0, _, .any, _, h, _ => by cases h
  | 0, _, .ref _, _, h, _ => by cases h
  | 0, _, .ktup _, _, h, _ => by cases h
  | _ + 1, _, .ktup _, _, h, _ => by cases h
  | _ + 1, _, .non, _, h, _ => by cases h
  | _ + 1, _, .bl _, _, h, _ => by cases h
  | _ + 1, _, .sym _, _, h, _ => by cases h
  | _ + 1, _, .any, _, h, _ => by cases h
  | _ + 1, _, .ref _, _, h, _ => by cases h
  | _, 0, _, .non, _, h => by cases h
  | _, 0, _, .bl _, _, h => by cases h
  | _, 0, _, .sym _, _, h => by cases h
  | _, 0, _, .any, _, h => by cases h
  | _, 0, _, .ref _, _, h => by cases h
  | _, 0, _, .ktup _, _, h => by cases h
  | _, _ + 1, _, .ktup _, _, h => by cases h
  | _, _ + 1, _, .non, _, h => by cases h
  | _, _ + 1, _, .bl _, _, h => by cases h
  | _, _ + 1, _, .sym _, _, h => by cases h
  | _, _ + 1, _, .any, _, h => by cases h
  | _, _ + 1, _, .ref _, _, h => by cases h
theorem beqDs_ok : ∀ (k j : Nat) (xs ys : List AV), xs.all (okD k) = true → ys.all (okD j) = true → PyData.eqvAll (toPs xs) (toPs ys) = beqDs xs ys
  | _, _, [], [], _, _ => rfl
  | _, _, [], _ :: _, _, _ => rfl
  | _, _, _ :: _, [], _, _ => rfl
  | k, j, x :: xs, y :: ys, h, g => by
    rw [List.all_cons] at h g
    obtain ⟨h1, h2⟩ := and_yes h
    obtain ⟨g1, g2⟩ := and_yes g
    show (PyData.eqv (toP x) (toP y) && PyData.eqvAll (toPs xs) (toPs ys)) = (beqD x y && beqDs xs ys)
    rw [beqD_ok k j x y h1 g1, beqDs_ok k j xs ys h2 g2]
end
theorem shaped_of {x : AV} (h : okD 60 x = true) : SeqAt.shaped (toP x) = true := by
  obtain ⟨h1, h2⟩ := okD_lay 60 x h
  show ((toP x).canLay0 && decide ((toP x).depth ≤ 64)) = true
  rw [h1, decide_eq_true (Nat.le_trans h2 (by decide))]
  rfl
theorem eqD_ok (rx : RV G ρ n H x u) (ry : RV G ρ n H y w) {b : Bool} (h : eqD x y = some b) : Dp G.K H u (toP x) ∧ Dp G.K H w (toP y) ∧ SeqAt.shaped (toP x) = true ∧ SeqAt.shaped (toP y) = true ∧ PyData.eqv (toP x) (toP y) = b := by
  obtain ⟨h1, h2⟩ := cond_yes h
  obtain ⟨a, b'⟩ := and_yes h1
  cases h2
  exact ⟨toP_dp 60 x u a rx, toP_dp 60 y w b' ry, shaped_of a, shaped_of b', beqD_ok 60 60 x y a b'⟩
theorem os_eqD : OS G (rEqD G.K) oEqD := fun ρ A H x y u w v A' Q R rx ry h o => by
  unfold oEqD at h
  split at h
  · rename_i b hb
    cases h
    obtain ⟨h1, h2, h3, h4, h5⟩ := eqD_ok rx ry hb
    exact ⟨_, _, h1, h2, h3, h4, by rw [h5]; exact o ρ H _ .refl R (.bl _)⟩
  · cases h
theorem os_neD : OS G (rNeD G.K) oNeD := fun ρ A H x y u w v A' Q R rx ry h o => by
  unfold oNeD at h
  split at h
  · rename_i b hb
    cases h
    obtain ⟨h1, h2, h3, h4, h5⟩ := eqD_ok rx ry hb
    exact ⟨_, _, h1, h2, h3, h4, by rw [h5]; exact o ρ H _ .refl R (.bl _)⟩
  · cases h
end
end Zg
set_option Elab.async false
set_option maxRecDepth 100000
set_option maxHeartbeats 4000000
set_option linter.all false
/-! ZS4: dicts, fields, calls, built-ins, slices, tests. -/
namespace Zg
open PySem L2
section
variable {G : Gm} {ρ : Nat → Addr} {A : AH} {n : Nat} {H : Hp} {x y : AV} {u w : V}
/-! ### dicts -/
theorem keyA_ok {k : AKey} (r : RV G ρ n H y w) (h : keyA y = some k) : w = kV (kd k) := by
  cases r <;> first | (cases h; done) | skip
  · cases h
    rfl
  · cases h
    rfl
theorem keysA_ok : ∀ {ts : List AV} {vs : List V} {ks : List AKey}, RVs G ρ n H ts vs → keysA ts = some ks → vs = (ks.map kd).map kV
  | [], _, ks, .nil, h => by
    cases h
    rfl
  | t :: ts, _, ks, .cons r s, h => by
    unfold keysA at h
    split at h
    · rename_i k ks' h1 h2
      cases h
      rw [keyA_ok r h1, keysA_ok s h2]
      rfl
    · cases h
theorem keq_dec (a b : AKey) : keq a b = decide (a = b) := by
  cases a with
  | inl i => cases b with
    | inl j =>
      show ieq i j = _
      rw [ieq_dec]
      exact decide_eq_decide.mpr ⟨fun e => by rw [e], fun e => Sum.inl.inj e⟩
    | inr _ => exact (decide_eq_false (fun z => by cases z)).symm
  | inr c => cases b with
    | inl _ => exact (decide_eq_false (fun z => by cases z)).symm
    | inr d =>
      show c.beq d = _
      rw [beq_dec]
      exact decide_eq_decide.mpr ⟨fun e => by rw [e], fun e => Sum.inr.inj e⟩
theorem kseq_dec : ∀ a b : List AKey, kseq a b = decide (a = b)
  | [], [] => rfl
  | [], _ :: _ => (decide_eq_false (fun z => by cases z)).symm
  | _ :: _, [] => (decide_eq_false (fun z => by cases z)).symm
  | x :: r, y :: s => by
    show (keq x y && kseq r s) = _
    rw [keq_dec, kseq_dec r s, ← Bool.decide_and]
    exact decide_eq_decide.mpr (by rw [List.cons.injEq])
theorem kdd (a b : AKey) : decide (kd a = kd b) = keq a b := by
  rw [keq_dec]
  exact decide_eq_decide.mpr ⟨kd_inj, fun e => by rw [e]⟩
theorem kdds (a b : List AKey) : decide (a.map kd = b.map kd) = kseq a b := by
  rw [kseq_dec]
  exact decide_eq_decide.mpr ⟨kds_inj, fun e => by rw [e]⟩
def ORV (G : Gm) (ρ : Nat → Addr) (n : Nat) (H : Hp) : Option AV → Option V → Prop
  | none, none => True
  | some v, some u => RV G ρ n H v u
  | _, _ => False
theorem lookK_ok {k : AKey} : ∀ {kvs : List (AKey × AV)} {ks : List (Key × V)}, RKs G ρ n H kvs ks → ORV G ρ n H (lookK kvs k) (valV ks (kd k))
  | [], _, .nil => trivial
  | (j, v) :: r, _, .cons (b := q) h t => by
    obtain ⟨qk, qv⟩ := q
    obtain ⟨h1, h2⟩ := h
    cases h1
    unfold lookK
    cases e : keq j k with
    | true =>
      rw [← kdd] at e
      rw [valV_pos (of_decide_eq_true e)]
      exact h2
    | false =>
      rw [← kdd] at e
      rw [valV_neg (of_decide_eq_false e)]
      exact lookK_ok t
theorem lookT_ok {k : List AKey} : ∀ {kvs : List (List AKey × AV)} {ks : List (List Key × V)}, RTs G ρ n H kvs ks → ORV G ρ n H (lookT kvs k) (valV ks (k.map kd))
  | [], _, .nil => trivial
  | (j, v) :: r, _, .cons (b := q) h t => by
    obtain ⟨qk, qv⟩ := q
    obtain ⟨h1, h2⟩ := h
    cases h1
    unfold lookT
    cases e : kseq j k with
    | true =>
      rw [← kdds] at e
      rw [valV_pos (of_decide_eq_true e)]
      exact h2
    | false =>
      rw [← kdds] at e
      rw [valV_neg (of_decide_eq_false e)]
      exact lookT_ok t
theorem ORV.some_iff {o : Option AV} {p : Option V} (h : ORV G ρ n H o p) : o.isSome = p.isSome := by
  cases o <;> cases p <;> first | rfl | exact h.elim
theorem pair_len {α β : Type} {F : α → β → Prop} : ∀ {l : List α} {m : List β}, Paired F l m → l.length = m.length
  | _, _, .nil => rfl
  | _, _, .cons _ t => congrArg Nat.succ (pair_len t)
theorem pair_app {α β : Type} {F : α → β → Prop} : ∀ {l l2 : List α} {m m2 : List β}, Paired F l m → Paired F l2 m2 → Paired F (l ++ l2) (m ++ m2)
  | _, _, _, _, .nil, s => s
  | _, _, _, _, .cons r t, s => .cons r (pair_app t s)
theorem replK_ok {k : AKey} {v : AV} {u : V} (r : RV G ρ n H v u) : ∀ {kvs : List (AKey × AV)} {ks : List (Key × V)}, RKs G ρ n H kvs ks → RKs G ρ n H (replK k v kvs) (ks.map fun q => if q.1 = kd k then (q.1, u) else q)
  | [], _, .nil => .nil
  | (j, z) :: t, _, .cons (b := q) h s => by
    obtain ⟨qk, qv⟩ := q
    obtain ⟨h1, h2⟩ := h
    have h1 : qk = kd j := h1
    subst h1
    show RKs G ρ n H (cond (keq j k) ((j, v) :: replK k v t) ((j, z) :: replK k v t)) ((if kd j = kd k then (kd j, u) else (kd j, qv)) :: _)
    cases e : keq j k with
    | true =>
      rw [← kdd] at e
      rw [if_pos (of_decide_eq_true e)]
      exact .cons ⟨rfl, r⟩ (replK_ok r s)
    | false =>
      rw [← kdd] at e
      rw [if_neg (of_decide_eq_false e)]
      exact .cons ⟨rfl, h2⟩ (replK_ok r s)
theorem putA_ok {k : AKey} {v : AV} {u : V} {kvs : List (AKey × AV)} {ks : List (Key × V)} (r : RV G ρ n H v u) (t : RKs G ρ n H kvs ks) : RKs G ρ n H (putA kvs k v) (putK ks (kd k) u) := by
  have e : hasK kvs k = (ks.any fun kv => decide (kv.1 = kd k)) := by
    rw [valV_any]
    exact (lookK_ok t).some_iff
  unfold putA putK
  rw [e]
  cases hq : (ks.any fun kv => decide (kv.1 = kd k)) with
  | true =>
    rw [if_pos rfl]
    exact replK_ok r t
  | false =>
    rw [if_neg (by decide)]
    exact pair_app t (.cons ⟨rfl, r⟩ .nil)
theorem replT_ok {k : List AKey} {v : AV} {u : V} (r : RV G ρ n H v u) : ∀ {kvs : List (List AKey × AV)} {ks : List (List Key × V)}, RTs G ρ n H kvs ks → RTs G ρ n H (replT k v kvs) (ks.map fun q => if q.1 = k.map kd then (q.1, u) else q)
  | [], _, .nil => .nil
  | (j, z) :: t, _, .cons (b := q) h s => by
    obtain ⟨qk, qv⟩ := q
    obtain ⟨h1, h2⟩ := h
    cases h1
    unfold replT
    rw [List.map_cons]
    cases e : kseq j k with
    | true =>
      rw [← kdds] at e
      rw [if_pos (of_decide_eq_true e)]
      exact .cons ⟨rfl, r⟩ (replT_ok r s)
    | false =>
      rw [← kdds] at e
      rw [if_neg (of_decide_eq_false e)]
      exact .cons ⟨rfl, h2⟩ (replT_ok r s)
theorem putT_ok {k : List AKey} {v : AV} {u : V} {kvs : List (List AKey × AV)} {ks : List (List Key × V)} (r : RV G ρ n H v u) (t : RTs G ρ n H kvs ks) : RTs G ρ n H (putT kvs k v) (putK ks (k.map kd) u) := by
  have e : hasT kvs k = (ks.any fun kv => decide (kv.1 = k.map kd)) := by
    rw [valV_any]
    exact (lookT_ok t).some_iff
  unfold putT putK
  rw [e]
  cases hq : (ks.any fun kv => decide (kv.1 = k.map kd)) with
  | true =>
    rw [if_pos rfl]
    exact replT_ok r t
  | false =>
    rw [if_neg (by decide)]
    exact pair_app t (.cons ⟨rfl, r⟩ .nil)
theorem dropT_ok {k : List AKey} : ∀ {kvs : List (List AKey × AV)} {ks : List (List Key × V)}, RTs G ρ n H kvs ks → RTs G ρ n H (dropT kvs k) (dropK ks (k.map kd))
  | [], _, .nil => .nil
  | (j, z) :: t, _, .cons (b := q) h s => by
    obtain ⟨qk, qv⟩ := q
    obtain ⟨h1, h2⟩ := h
    cases h1
    show RTs G ρ n H (((j, z) :: t).filter fun q => !kseq q.1 k) (((j.map kd, qv) :: _).filter fun kv => decide (kv.1 ≠ k.map kd))
    have e2 : decide (j.map kd ≠ k.map kd) = !kseq j k := by
      rw [← kdds]
      exact decide_not
    cases e : kseq j k with
    | true =>
      rw [List.filter_cons_of_neg (by simp [e]), List.filter_cons_of_neg (by rw [e2, e]; decide)]
      exact dropT_ok s
    | false =>
      rw [List.filter_cons_of_pos (by simp [e]), List.filter_cons_of_pos (by rw [e2, e]; rfl)]
      exact .cons ⟨rfl, h2⟩ (dropT_ok s)
theorem getD_ok {o : Option AV} (R : Rel G ρ A H) (rx : RV G ρ A.n H x u) (ry : RV G ρ A.n H y w) (h : getD A x y = some o) : ∃ a p, u = .ref a ∧ DGet H a w p ∧ ORV G ρ A.n H o p := by
  unfold getD at h
  split at h
  · rename_i a
    split at h
    · rename_i kvs hk
      split at h
      · rename_i k he
        cases h
        cases rx
        obtain ⟨ks, e1, r1⟩ := R.ob _ _ hk
        rw [keyA_ok ry he]
        exact ⟨_, _, rfl, DGet.k e1, lookK_ok r1⟩
      · cases h
    · rename_i kvs hk
      split at h
      · rename_i ts
        split at h
        · rename_i k he
          cases h
          cases rx
          obtain ⟨ks, e1, r1⟩ := R.ob _ _ hk
          cases ry with
          | tup s1 rr =>
          refine ⟨_, _, rfl, DGet.t (k := k.map kd) e1 ?_, lookT_ok r1⟩
          rw [s1, keysA_ok rr he]
        · cases h
      · cases h
    · cases h
  · cases h
theorem os_dget : OS G (fun x y H Q => ∃ a v, x = .ref a ∧ DGet H a y (some v) ∧ Q v H) oDGet := fun ρ A H x y u w v A' Q R rx ry h o => by
  unfold oDGet at h
  split at h
  · rename_i z hz
    cases h
    obtain ⟨a, p, rfl, g, r⟩ := getD_ok R rx ry hz
    cases p with
    | none => exact r.elim
    | some p => exact ⟨a, p, rfl, g, o ρ H _ .refl R r⟩
  · cases h
theorem os_din : OS G (fun y x H Q => ∃ a o, x = .ref a ∧ DGet H a y o ∧ Q (.bl o.isSome) H) oDIn := fun ρ A H y x w u v A' Q R ry rx h o => by
  unfold oDIn at h
  split at h
  · rename_i z hz
    cases h
    obtain ⟨a, p, rfl, g, r⟩ := getD_ok R rx ry hz
    refine ⟨a, p, rfl, g, ?_⟩
    rw [← r.some_iff]
    exact o ρ H _ .refl R (.bl _)
  · cases h
theorem os_dnotin : OS G (fun y x H Q => ∃ a o, x = .ref a ∧ DGet H a y o ∧ Q (.bl (!o.isSome)) H) oDNotIn := fun ρ A H y x w u v A' Q R ry rx h o => by
  unfold oDNotIn at h
  split at h
  · rename_i z hz
    cases h
    obtain ⟨a, p, rfl, g, r⟩ := getD_ok R rx ry hz
    refine ⟨a, p, rfl, g, ?_⟩
    rw [← r.some_iff]
    exact o ρ H _ .refl R (.bl _)
  · cases h
theorem isDict_ok (R : Rel G ρ A H) (rx : RV G ρ A.n H x u) (h : isDict A x = true) : ∃ a, u = .ref a ∧ IsD H a := by
  unfold isDict at h
  split at h
  · split at h
    · rename_i hk
      cases rx
      obtain ⟨ks, e1, r1⟩ := R.ob _ _ hk
      exact ⟨_, rfl, .inl ⟨_, .of e1⟩⟩
    · rename_i hk
      cases rx
      obtain ⟨ks, e1, r1⟩ := R.ob _ _ hk
      exact ⟨_, rfl, .inr ⟨_, .of e1⟩⟩
    · cases h
  · cases h
theorem orN_ok {o : Option AV} {p : Option V} {d : AV} {e : V} (h : ORV G ρ n H o p) (r : RV G ρ n H d e) : RV G ρ n H (orN o d) (p.getD e) := by
  cases o <;> cases p <;> first | exact h.elim | exact r | exact h
variable {md mk me ma mb : ME} {mr : MA} {t : TA} {ta tb : MT}
theorem d_dget1 : ∀ σ H Q, DE G (mDGet1 md mk) σ H Q → tDGet1 (DE G md) (DE G mk) σ H Q := fun σ H Q ⟨ρ, A, s, v, A', c, h, o⟩ => by
  obtain ⟨x, A1, h1, h⟩ := bnd_some h
  obtain ⟨hd, h⟩ := cond_yes h
  obtain ⟨y, A2, h2, h⟩ := bnd_some h
  refine ⟨ρ, A, s, x, A1, c, h1, fun ρ1 H1 u e1 R1 r1 => ?_⟩
  obtain ⟨a, rfl, ia⟩ := isDict_ok R1 r1 hd
  refine ⟨a, rfl, ia, ρ1, A1, s, y, A2, c.ext e1 R1, h2, fun ρ2 H2 w e2 R2 r2 => ?_⟩
  split at h
  · rename_i z hz
    cases h
    obtain ⟨a', p, ea, g, r⟩ := getD_ok R2 (r1.ext e2) r2 hz
    cases ea
    exact ⟨p, g, o ρ2 H2 _ (e1.trans e2) R2 (orN_ok r .non)⟩
  · cases h
theorem d_dget2 : ∀ σ H Q, DE G (mDGet2 md mk me) σ H Q → tDGet2 (DE G md) (DE G mk) (DE G me) σ H Q := fun σ H Q ⟨ρ, A, s, v, A', c, h, o⟩ => by
  obtain ⟨x, A1, h1, h⟩ := bnd_some h
  obtain ⟨hd, h⟩ := cond_yes h
  obtain ⟨y, A2, h2, h⟩ := bnd_some h
  obtain ⟨z, A3, h3, h⟩ := bnd_some h
  refine ⟨ρ, A, s, x, A1, c, h1, fun ρ1 H1 u e1 R1 r1 => ?_⟩
  obtain ⟨a, rfl, ia⟩ := isDict_ok R1 r1 hd
  refine ⟨a, rfl, ia, ρ1, A1, s, y, A2, c.ext e1 R1, h2, fun ρ2 H2 w e2 R2 r2 => ⟨ρ2, A2, s, z, A3, (c.ext e1 R1).ext e2 R2, h3, fun ρ3 H3 q e3 R3 r3 => ?_⟩⟩
  split at h
  · rename_i z hz
    cases h
    obtain ⟨a', p, ea, g, r⟩ := getD_ok R3 (r1.ext (e2.trans e3)) (r2.ext e3) hz
    cases ea
    exact ⟨p, g, o ρ3 H3 _ ((e1.trans e2).trans e3) R3 (orN_ok r r3)⟩
  · cases h
end
end Zg
set_option Elab.async false
set_option maxRecDepth 100000
set_option maxHeartbeats 4000000
set_option linter.all false
/-! ZS5: fields, calls, built-ins, methods, slices, tests. -/
namespace Zg
open PySem L2
/-! ### fields -/
structure Cl (G : Gm) (c : Nat) : Prop where
  cl : Cls G.K (G.ca c)
  na : ∀ f ∈ fieldN c, NoAttr G.K (G.ca c) f
  nd : (fieldN c).Nodup
  le : (fieldN c).length ≤ 100
theorem zip_look : ∀ {ns : List Str} {ws : List V} {i : Nat} {f : Str} {v : V}, ns.Nodup → ns[i]? = some f → ws[i]? = some v → (ns.zip ws).lookup f = some v
  | [], _, _, _, _, _, h, _ => by simp at h
  | _ :: _, [], _, _, _, _, _, h => by simp at h
  | n :: ns, w :: ws, 0, f, v, _, h1, h2 => by
    simp at h1 h2
    subst h1 h2
    show (List.lookup n ((n, w) :: ns.zip ws)) = some w
    rw [List.lookup_cons_self]
  | n :: ns, w :: ws, i + 1, f, v, hd, h1, h2 => by
    have hd2 := List.nodup_cons.mp hd
    have h1 : ns[i]? = some f := by simpa using h1
    have h2 : ws[i]? = some v := by simpa using h2
    have hne : (f == n) = false := by
      rw [beq_eq_false_iff_ne]
      intro e
      rw [e] at h1
      exact hd2.1 (List.mem_of_getElem? h1)
    show (List.lookup f ((n, w) :: ns.zip ws)) = some v
    rw [List.lookup_cons, hne]
    exact zip_look hd2.2 h1 h2
theorem zip_none : ∀ {ns : List Str} {ws : List V} {f : Str}, f ∉ ns → (ns.zip ws).lookup f = none
  | [], _, _, _ => by simp
  | _ :: _, [], _, _ => by simp
  | n :: ns, w :: ws, f, h => by
    have hne : (f == n) = false := by
      rw [beq_eq_false_iff_ne]
      intro e
      rw [e] at h
      exact h (List.mem_cons_self ..)
    show (List.lookup f ((n, w) :: ns.zip ws)) = none
    rw [List.lookup_cons, hne]
    exact zip_none (fun q => h (List.mem_cons_of_mem _ q))
theorem zip_put : ∀ {ns : List Str} {ws : List V} {i : Nat} {f : Str} {v : V}, ns.Nodup → ns[i]? = some f → i < ws.length → putF f v (ns.zip ws) = ns.zip (ws.set i v)
  | [], _, _, _, _, _, h, _ => by simp at h
  | _ :: _, [], _, _, _, _, _, h => by simp at h
  | n :: ns, w :: ws, 0, f, v, _, h1, _ => by
    simp at h1
    subst h1
    show (if n = n then _ else _) = _
    rw [if_pos rfl]
    rfl
  | n :: ns, w :: ws, i + 1, f, v, hd, h1, h2 => by
    have hd2 := List.nodup_cons.mp hd
    have h1 : ns[i]? = some f := by simpa using h1
    have hne : ¬ n = f := fun e => by
      rw [e] at hd2
      exact hd2.1 (List.mem_of_getElem? h1)
    show (if n = f then _ else (n, w) :: putF f v (ns.zip ws)) = _
    rw [if_neg hne, zip_put hd2.2 h1 (by simpa using h2)]
    rfl
theorem zip_add : ∀ {ns : List Str} {ws : List V} {f : Str} {v : V}, ns.Nodup → ns[ws.length]? = some f → putF f v (ns.zip ws) = ns.zip (ws ++ [v])
  | [], _, _, _, _, h => by simp at h
  | n :: ns, [], f, v, _, h => by
    simp at h
    subst h
    show [(n, v)] = (n, v) :: ns.zip []
    rw [List.zip_nil_right]
  | n :: ns, w :: ws, f, v, hd, h1 => by
    have hd2 := List.nodup_cons.mp hd
    have h1 : ns[ws.length]? = some f := by simpa using h1
    have hne : ¬ n = f := fun e => by
      rw [e] at hd2
      exact hd2.1 (List.mem_of_getElem? h1)
    show (if n = f then _ else (n, w) :: putF f v (ns.zip ws)) = _
    rw [if_neg hne, zip_add hd2.2 h1]
    rfl
section
variable {G : Gm} {ρ : Nat → Addr} {A : AH} {n : Nat} {H : Hp} {x y : AV} {u w : V}
variable {md mk me ma mb mo : ME} {mr : MA} {t : TA} {ta tb : MT} {c i k : Nat} {f nm : Str} {m : MF}
theorem ins_of {a d : Nat} {vs : List AV} (R : Rel G ρ A H) (h : A.get a = some (.ins d vs)) : ∃ dx ws, H (ρ a) = some (.ins (G.ca d) dx ((fieldN d).zip ws)) ∧ RVs G ρ A.n H vs ws ∧ vs.length ≤ (fieldN d).length := R.ob a _ h
theorem d_fld (L : Cl G c) (hf : (fieldN c)[i]? = some f) : ∀ σ H Q, DE G (mFld ma c i) σ H Q → tFld G.K (DE G ma) f σ H Q := fun σ H Q ⟨ρ, A, s, v, A', cf, h, o⟩ => by
  obtain ⟨x, A1, h1, h⟩ := bnd_some h
  refine ⟨ρ, A, s, x, A1, cf, h1, fun ρ1 H1 u e1 R1 r1 => ?_⟩
  split at h
  · split at h
    · rename_i a d vs ha
      obtain ⟨hd, h5⟩ := cond_yes h
      clear h
      have hd := Nat.eq_of_beq_eq_true hd
      subst hd
      split at h5
      · rename_i z hz
        cases h5
        cases r1
        obtain ⟨dx, ws, e2, r2, _⟩ := ins_of R1 ha
        obtain ⟨uz, e3, r3⟩ := r2.get hz
        exact ⟨_, _, dx, _, uz, rfl, e2, L.cl, L.na f (List.mem_of_getElem? hf), zip_look L.nd hf e3, o ρ1 H1 _ e1 R1 r3⟩
      · cases h5
    · cases h
  · cases h
/-! ### calls -/
def SpF (G : Gm) (m : MF) (k : Nat) : Sp := fun vs H Q _ => vs.length = k ∧ ∃ ρ A avs v A', Rel G ρ A H ∧ RVs G ρ A.n H avs vs ∧ m avs A = some (v, A') ∧ Out G ρ A H v A' Q
/-- the function object at f -/
def FdAt (K : PySem.W.Frag) (f : Addr) (fd : FuncData) : Prop := ∃ (oc : Value) (od : Option Addr) (osl : Array (Option Value)), K.lookup f = some ⟨oc, od, .func fd, osl⟩
theorem FdAt.uniq {K : PySem.W.Frag} {f : Addr} {a b : FuncData} (h : FdAt K f a) (k : FdAt K f b) : a = b := by
  obtain ⟨_, _, _, h⟩ := h
  obtain ⟨_, _, _, k⟩ := k
  rw [h] at k
  cases k
  rfl
structure Fo (G : Gm) (lv : Nat) (f : Addr) (ps : List Str) (m : MF) : Prop where
  ex : ∃ fd, FnOk G.P G.w G.K G.mg G.base CX0 lv f fd ps (SpF G m ps.length) ∧ Binds G.K fd ps [] ∧ FdAt G.K f fd
  kp : PySem.W.keepIn G.K (.ref f) = true
  ar : ∀ avs A r, m avs A = some r → avs.length = ps.length
theorem d_nil : ∀ σ H Q, DA G mNil σ H Q → tNil σ H Q := fun σ H Q ⟨ρ, A, s, v, A', c, h, o⟩ => by
  cases h
  exact o ρ H [] .refl c.rel .nil
theorem d_call (ar : ∀ avs A r, m avs A = some r → avs.length = k) (ht : ∀ σ H Q, DA G mr σ H Q → t σ H Q) : ∀ σ H Q, DE G (mCall m mr) σ H Q → tCall (SpF G m k) [] E0 t σ H Q := fun σ H Q ⟨ρ, A, s, v, A', cf, h, o⟩ => by
  obtain ⟨xs, A1, h1, h⟩ := bnd_some h
  refine ht σ H _ ⟨ρ, A, s, xs, A1, cf, h1, fun ρ1 H1 us e1 R1 r1 => ?_⟩
  show SpF G m k (us ++ []) H1 Q E0
  rw [List.append_nil]
  exact ⟨by rw [← r1.length]; exact ar _ _ _ h, ρ1, A1, xs, v, A', R1, r1, h, fun ρ2 H2 u e2 R2 r2 => o ρ2 H2 u (e1.trans e2) R2 r2⟩
theorem d_meth (L : Cl G c) (hn : nm ∉ fieldN c) (ar : ∀ avs A r, m avs A = some r → avs.length = k) (ht : ∀ σ H Q, DA G mr σ H Q → t σ H Q) : ∀ σ H Q, DE G (mMeth c m mo mr) σ H Q → tMeth (G.ca c) nm (SpF G m k) [] E0 (DE G mo) t σ H Q := fun σ H Q ⟨ρ, A, s, v, A', cf, h, o⟩ => by
  obtain ⟨x, A1, h1, h⟩ := bnd_some h
  refine ⟨ρ, A, s, x, A1, cf, h1, fun ρ1 H1 u e1 R1 r1 => ?_⟩
  split at h
  · split at h
    · rename_i a d vs ha
      obtain ⟨hd, h5⟩ := cond_yes h
      clear h
      have hd := Nat.eq_of_beq_eq_true hd
      subst hd
      obtain ⟨xs, A2, h2, h6⟩ := bnd_some h5
      have r1' := r1
      cases r1
      obtain ⟨dx, ws, e2, r2, _⟩ := ins_of R1 ha
      refine ⟨_, dx, _, rfl, e2, zip_none hn, ht σ H1 _ ⟨ρ1, A1, s, xs, A2, cf.ext e1 R1, h2, fun ρ2 H2 us e3 R2 r3 => ?_⟩⟩
      show SpF G m k (_ :: (us ++ [])) H2 Q E0
      rw [List.append_nil]
      have rr := RVs.cons (r1'.ext e3) r3
      exact ⟨by rw [← rr.length]; exact ar _ _ _ h6, ρ2, A2, _, v, A', R2, rr, h6, fun ρ4 H4 u e4 R4 r4 => o ρ4 H4 u ((e1.trans e3).trans e4) R4 r4⟩
    · cases h
  · cases h
theorem d_make (ar : ∀ avs A r, m avs A = some r → avs.length = k) (ht : ∀ σ H Q, DA G mr σ H Q → t σ H Q) : ∀ σ H Q, DE G (mMake c m mr) σ H Q → tMake (G.ca c) (SpF G m k) [] E0 t σ H Q := fun σ H Q ⟨ρ, A, s, v, A', cf, h, o⟩ => by
  obtain ⟨xs, A1, h1, h⟩ := bnd_some h
  obtain ⟨v2, A2, h2, h⟩ := bnd_some h
  refine ht σ H _ ⟨ρ, A, s, xs, A1, cf, h1, fun ρ1 H1 us e1 R1 r1 p dx hp hdx hne => ?_⟩
  show SpF G m k (_ :: (us ++ [])) _ _ E0
  rw [List.append_nil]
  have Rt : Rel G ρ1 A1 (upd H1 dx (.own p)) := R1.track hdx
  have et : Ext G ρ1 A1 H1 ρ1 A1 (upd H1 dx (.own p)) := Ext.track R1 hdx
  have hp2 : (upd H1 dx (.own p)) p = none := by
    rw [upd_ne (Ne.symm hne)]
    exact hp
  obtain ⟨R2, e2⟩ := Rt.new (o := .ins c []) (ho := .ins (G.ca c) dx []) hp2 ⟨dx, [], by rw [upd_same, List.zip_nil_right], .nil, Nat.zero_le _⟩
  have rr := RVs.cons (RV.fresh (G := G) (ρ := ρ1) (n := A1.n) (p := p) (H := upd (upd H1 dx (.own p)) p (.ins (G.ca c) dx []))) (r1.ext (et.trans e2))
  refine ⟨by rw [← rr.length]; exact ar _ _ _ h2, _, _, _, v2, A2, R2, rr, h2, fun ρ3 H3 u3 e3 R3 r3 => ?_⟩
  cases v2 <;> first | (cases h; done) | skip
  cases h
  cases r3
  refine ⟨rfl, o ρ3 H3 _ (((e1.trans et).trans e2).trans e3) R3 ?_⟩
  exact (RV.fresh (G := G) (ρ := ρ1) (n := A1.n) (p := p)).ext e3
/-! ### built-ins -/
def CS (G : Gm) (r : List V → Hp → VK → Prop) (f : List AV → AH → Option (AV × AH)) : Prop := ∀ ρ A H xs us v A' Q, Rel G ρ A H → RVs G ρ A.n H xs us → f xs A = some (v, A') → Out G ρ A H v A' Q → r us H Q
theorem d_cb {r : List V → Hp → VK → Prop} {f : List AV → AH → Option (AV × AH)} (hs : CS G r f) : ∀ σ H Q, DE G (mCall f mr) σ H Q → tCB r (DA G mr) σ H Q := fun σ H Q ⟨ρ, A, s, v, A', cf, h, o⟩ => by
  obtain ⟨xs, A1, h1, h⟩ := bnd_some h
  exact ⟨ρ, A, s, xs, A1, cf, h1, fun ρ1 H1 us e1 R1 r1 => hs ρ1 A1 H1 xs us v A' Q R1 r1 h fun ρ2 H2 u e2 R2 r2 => o ρ2 H2 u (e1.trans e2) R2 r2⟩
theorem one_of {x : AV} {us : List V} (r : RVs G ρ n H [x] us) : ∃ u, us = [u] ∧ RV G ρ n H x u := by
  cases r with
  | cons r s =>
    cases s
    exact ⟨_, rfl, r⟩
theorem cs_len : CS G (fun xs H Q => ∃ p ys, xs = [.ref p] ∧ (SqL G.K H p ys ∨ SqT G.K H p ys) ∧ Q (.int ys.length) H) cLen := fun ρ A H xs us v A' Q R r h o => by
  unfold cLen at h
  split at h
  · cases h
    obtain ⟨u, rfl, q⟩ := one_of r
    cases q with
    | tup s1 r1 =>
    exact ⟨_, _, rfl, .inr (.of s1), by rw [← r1.length]; exact o ρ H _ .refl R (.int _)⟩
  · split at h
    · rename_i hk
      cases h
      obtain ⟨u, rfl, q⟩ := one_of r
      cases q
      obtain ⟨vs, e1, r1⟩ := lst_of R hk
      exact ⟨_, _, rfl, .inl (SqL.of e1), by rw [← r1.length]; exact o ρ H _ .refl R (.int _)⟩
    · cases h
  · cases h
theorem cs_lenD : CS G (fun xs H Q => ∃ d kvs, xs = [.ref d] ∧ H d = some (.dK kvs) ∧ Q (.int kvs.length) H) cLenD := fun ρ A H xs us v A' Q R r h o => by
  unfold cLenD at h
  split at h
  · split at h
    · rename_i hk
      cases h
      obtain ⟨u, rfl, q⟩ := one_of r
      cases q
      obtain ⟨ks, e1, r1⟩ := R.ob _ _ hk
      exact ⟨_, _, rfl, e1, by rw [← pair_len r1]; exact o ρ H _ .refl R (.int _)⟩
    · cases h
  · cases h
theorem cs_int : CS G (fun xs H Q => (∃ i, xs = [.int i] ∧ Q (.int i) H) ∨ ∃ k, xs = [.bl k] ∧ Q (.int (if k then 1 else 0)) H) cInt := fun ρ A H xs us v A' Q R r h o => by
  unfold cInt at h
  split at h
  · cases h
    obtain ⟨u, rfl, q⟩ := one_of r
    cases q
    exact .inl ⟨_, rfl, o ρ H _ .refl R (.int _)⟩
  · rename_i b
    cases h
    obtain ⟨u, rfl, q⟩ := one_of r
    cases q
    refine .inr ⟨_, rfl, ?_⟩
    have e : (if b = true then (1 : Int) else 0) = cond b 1 0 := by cases b <;> rfl
    rw [e]
    exact o ρ H _ .refl R (.int _)
  · cases h
theorem cs_list : CS G (fun xs H Q => ∃ p ys, xs = [.ref p] ∧ (SqL G.K H p ys ∨ SqT G.K H p ys) ∧ ∀ l, H l = none → Q (.ref l) (upd H l (.lst ys))) cList := fun ρ A H xs us v A' Q R r h o => by
  unfold cList at h
  split at h
  · cases h
    obtain ⟨u, rfl, q⟩ := one_of r
    cases q with
    | tup s1 r1 =>
    exact ⟨_, _, rfl, .inr (.of s1), fun p hp => out_lst R hp r1 o⟩
  · cases h
theorem cs_tuple : CS G (fun xs H Q => ∃ p ys, xs = [.ref p] ∧ ((SqL G.K H p ys ∧ ∀ l, H l = none → Q (.ref l) (upd H l (.tup ys))) ∨ (SqT G.K H p ys ∧ Q (.ref p) H))) cTuple := fun ρ A H xs us v A' Q R r h o => by
  unfold cTuple at h
  split at h
  · split at h
    · rename_i hk
      cases h
      obtain ⟨u, rfl, q⟩ := one_of r
      cases q
      obtain ⟨vs, e1, r1⟩ := lst_of R hk
      exact ⟨_, _, rfl, .inl ⟨SqL.of e1, fun p hp => o ρ _ _ (Ext.track R hp) (R.track hp) (.tup upd_same (r1.ext (Ext.track R hp)))⟩⟩
    · cases h
  · cases h
/-- dict(d) -/
theorem call_dcopy {X : Cx} : CallR X (.type "dict") (fun xs H Q => ∃ a kvs, xs = [.ref a] ∧ H a = some (.dK kvs) ∧ ∀ p, H p = none → Q (.ref p) (upd H p (.dK kvs))) := by
  intro pins s σ H xs us Q I r h
  obtain ⟨a, kvs, rfl, ha, q⟩ := h
  obtain ⟨u, rfl, ru⟩ := vals1 r
  cases ru
  exact d_copyOf I (.inl ha) fun p s' hp I' => ⟨.ref p, _, I', rfl, q p hp⟩
theorem cs_dict : CS G (fun xs H Q => ∃ a kvs, xs = [.ref a] ∧ H a = some (.dK kvs) ∧ ∀ p, H p = none → Q (.ref p) (upd H p (.dK kvs))) cDict := fun ρ A H xs us v A' Q R r h o => by
  unfold cDict at h
  split at h
  · split at h
    · rename_i kvs hk
      cases h
      obtain ⟨u, rfl, q⟩ := one_of r
      cases q
      obtain ⟨ks, e1, r1⟩ := R.ob _ _ hk
      refine ⟨_, _, rfl, e1, fun p hp => ?_⟩
      obtain ⟨R2, e2⟩ := R.new (o := .dK kvs) (ho := .dK ks) hp ⟨ks, upd_same, paired_mono (fun _ _ z => ⟨z.1, z.2.ext (Ext.track R hp)⟩) r1⟩
      exact o _ _ (.ref p) e2 R2 RV.fresh
    · cases h
  · cases h
theorem intsA_ok : ∀ {ts : List AV} {vs : List V} {is : List Int}, RVs G ρ n H ts vs → intsA ts = some is → vs = is.map V.int
  | [], _, is, .nil, h => by
    cases h
    rfl
  | t :: ts, _, is, .cons r s, h => by
    cases t <;> first | (cases h; done) | skip
    rename_i i
    unfold intsA at h
    split at h
    · rename_i s' hs
      cases h
      cases r
      rw [intsA_ok s hs]
      rfl
    · cases h
theorem insI_perm (i : Int) : ∀ l : List Int, (insI i l).Perm (i :: l)
  | [] => .refl _
  | j :: r => by
    unfold insI
    cases ile i j with
    | true => exact .refl _
    | false => exact ((insI_perm i r).cons j).trans (.swap i j r)
theorem sortI_perm : ∀ l : List Int, (sortI l).Perm l
  | [] => .refl _
  | i :: r => (insI_perm i _).trans ((sortI_perm r).cons i)
theorem insI_sorted (i : Int) : ∀ {l : List Int}, l.Pairwise (· ≤ ·) → (insI i l).Pairwise (· ≤ ·)
  | [], _ => List.pairwise_singleton _ _
  | j :: r, h => by
    obtain ⟨h1, h2⟩ := List.pairwise_cons.mp h
    unfold insI
    cases e : ile i j with
    | true =>
      rw [ile_dec] at e
      have e := of_decide_eq_true e
      refine List.pairwise_cons.mpr ⟨fun z hz => ?_, h⟩
      rcases List.mem_cons.mp hz with rfl | hz
      · exact e
      · exact Int.le_trans e (h1 z hz)
    | false =>
      rw [ile_dec] at e
      have e := of_decide_eq_false e
      refine List.pairwise_cons.mpr ⟨fun z hz => ?_, insI_sorted i h2⟩
      rcases List.mem_cons.mp ((insI_perm i r).mem_iff.mp hz) with rfl | hz
      · omega
      · exact h1 z hz
theorem sortI_sorted : ∀ l : List Int, (sortI l).Pairwise (· ≤ ·)
  | [] => .nil
  | i :: r => insI_sorted i (sortI_sorted r)
theorem sorted_eq {l m : List Int} (hp : l.Perm m) (h1 : l.Pairwise (· ≤ ·)) (h2 : m.Pairwise (· ≤ ·)) : l = m :=
  hp.eq_of_pairwise (le := (· ≤ ·)) (fun a b _ _ x y => Int.le_antisymm x y) h1 h2
end
end Zg
set_option Elab.async false
set_option maxRecDepth 100000
set_option maxHeartbeats 4000000
set_option linter.all false
/-! ZS6: more built-ins, methods, slices, tests. -/
namespace Zg
open PySem L2
theorem dec_text : ∀ n, n < 200 → dgs (decC 6 n) = (Nat.toDigits 10 n).map Char.toNat := by decide +kernel
section
variable {G : Gm} {ρ : Nat → Addr} {A : AH} {n : Nat} {H : Hp} {x y : AV} {u w : V}
variable {md mk me ma mb mo : ME} {mr : MA} {t : TA} {ta tb : MT} {c i k : Nat} {f nm : Str} {m : MF}
theorem cs_sorted : CS G (rSorted G.K) cSorted := fun ρ A H xs us v A' Q R r h o => by
  unfold cSorted at h
  split at h
  · split at h
    · rename_i hk
      split at h
      · rename_i is hi
        obtain ⟨hz, h⟩ := cond_yes h
        cases h
        obtain ⟨u, rfl, q⟩ := one_of r
        cases q
        obtain ⟨vs, e1, r1⟩ := lst_of R hk
        have e2 := intsA_ok r1 hi
        subst e2
        refine ⟨_, is, rfl, SqL.of e1, blt_lt hz, fun ns' p hp hs hf => ?_⟩
        have e3 : ns' = sortI is := sorted_eq (hp.trans (sortI_perm is).symm) hs (sortI_sorted is)
        subst e3
        have rr : ∀ l : List Int, RVs G ρ A.n H (l.map .int) (l.map V.int) := fun l => by
          induction l with
          | nil => exact .nil
          | cons z l ih => exact .cons (.int z) ih
        exact out_lst R hf (rr _) o
      · cases h
    · cases h
  · cases h
theorem cs_str : CS G (fun xs H Q => ∃ i, xs = [.int i] ∧ i.natAbs.log2 < 1920 ∧ Q (.str (toString i)) H) cStr := fun ρ A H xs us v A' Q R r h o => by
  unfold cStr at h
  split at h
  · rename_i j
    obtain ⟨hz, h⟩ := cond_yes h
    cases h
    obtain ⟨u, rfl, q⟩ := one_of r
    cases q
    have hj := blt_lt hz
    refine ⟨_, rfl, ?_, ?_⟩
    · show (Int.ofNat j).natAbs.log2 < 1920
      have h1 : (Int.ofNat j).natAbs = j := rfl
      rw [h1]
      rcases Nat.eq_zero_or_pos j with e | e
      · rw [e]; decide
      · have := Nat.log2_lt (n := j) (k := 8) (by omega)
        have h2 : j.log2 < 8 := this.mpr (by omega)
        omega
    · have e : (Str.ofString (toString ((j : Nat) : Int))) = dS (decC 6 j) := by
        have e1 := PySem.W.KIN.signs_num j
        have e2 := dec_text j hj
        have e3 : (Str.ofString (toString ((j : Nat) : Int))).cps.toList = (dS (decC 6 j)).cps.toList := by
          rw [e1]
          show _ = ((dgs (decC 6 j)).toArray).toList
          rw [List.toList_toArray, e2]
        have e4 := congrArg List.toArray e3
        rw [Array.toArray_toList, Array.toArray_toList] at e4
        exact congrArg Str.mk e4
      show Q (.str (Str.ofString (toString ((j : Nat) : Int)))) H
      rw [e]
      exact o ρ H _ .refl R (.str _)
  · cases h
/-! ### isinstance -/
theorem kit_i : kitB "int" "int" = some true := by decide +kernel
theorem kit_it : kitB "int" "tuple" = some false := by decide +kernel
theorem kit_ti : kitB "tuple" "int" = some false := by decide +kernel
theorem kit_t : kitB "tuple" "tuple" = some true := by decide +kernel
theorem kit_si : kitB "str" "int" = some false := by decide +kernel
theorem kit_st : kitB "str" "tuple" = some false := by decide +kernel
theorem kit_ni : kitB "NoneType" "int" = some false := by decide +kernel
theorem kit_nt : kitB "NoneType" "tuple" = some false := by decide +kernel
theorem kit_bt : kitB "bool" "tuple" = some false := by decide +kernel
theorem isInt_ok {b : Bool} (r : RV G ρ n H x u) (h : isInt x = some b) : ∃ t, TyX G.K H u t ∧ PySem.W.kitOne G.K t (.type "int") = some b := by
  cases r with
  | int i => cases h; exact ⟨_, .base (.int _), kit_ty kit_i⟩
  | sym k => cases h; exact ⟨_, .base (.int _), kit_ty kit_i⟩
  | tup e _ => cases h; exact ⟨_, .base (.tup e), kit_ty kit_ti⟩
  | str c => cases h; exact ⟨_, .base (.str _), kit_ty kit_si⟩
  | non => cases h; exact ⟨_, .base .non, kit_ty kit_ni⟩
  | _ => cases h
theorem isTup_ok {b : Bool} (r : RV G ρ n H x u) (h : isTup x = some b) : ∃ t, TyX G.K H u t ∧ PySem.W.kitOne G.K t (.type "tuple") = some b := by
  cases r with
  | int i => cases h; exact ⟨_, .base (.int _), kit_ty kit_it⟩
  | sym k => cases h; exact ⟨_, .base (.int _), kit_ty kit_it⟩
  | tup e _ => cases h; exact ⟨_, .base (.tup e), kit_ty kit_t⟩
  | str c => cases h; exact ⟨_, .base (.str _), kit_ty kit_st⟩
  | non => cases h; exact ⟨_, .base .non, kit_ty kit_nt⟩
  | bl b => cases h; exact ⟨_, .base (.bl _), kit_ty kit_bt⟩
  | _ => cases h
theorem d_isInt : ∀ σ H Q, DE G (mUn uIsInt ma) σ H Q → tCB (rIsi G.K) (tCons (DE G ma) (tCons (tC (.ty "int")) tNil)) σ H Q := fun σ H Q ⟨ρ, A, s, v, A', cf, h, o⟩ => by
  obtain ⟨x, A1, h1, h⟩ := bnd_some h
  refine ⟨ρ, A, s, x, A1, cf, h1, fun ρ1 H1 u e1 R1 r1 => ?_⟩
  unfold uIsInt at h
  split at h
  · rename_i b hb
    cases h
    obtain ⟨t, h2, h3⟩ := isInt_ok r1 hb
    exact ⟨u, .ty "int", t, _, b, rfl, .ty _, h2, h3, o ρ1 H1 _ e1 R1 (.bl _)⟩
  · cases h
theorem d_isTup : ∀ σ H Q, DE G (mUn uIsTup ma) σ H Q → tCB (rIsi G.K) (tCons (DE G ma) (tCons (tC (.ty "tuple")) tNil)) σ H Q := fun σ H Q ⟨ρ, A, s, v, A', cf, h, o⟩ => by
  obtain ⟨x, A1, h1, h⟩ := bnd_some h
  refine ⟨ρ, A, s, x, A1, cf, h1, fun ρ1 H1 u e1 R1 r1 => ?_⟩
  unfold uIsTup at h
  split at h
  · rename_i b hb
    cases h
    obtain ⟨t, h2, h3⟩ := isTup_ok r1 hb
    exact ⟨u, .ty "tuple", t, _, b, rfl, .ty _, h2, h3, o ρ1 H1 _ e1 R1 (.bl _)⟩
  · cases h
/-! ### methods of lists -/
def MSd (G : Gm) (r : V → List V → Hp → VK → Prop) (f : AV → List AV → AH → Option (AV × AH)) : Prop := ∀ ρ A H x u xs us v A' Q, Rel G ρ A H → RV G ρ A.n H x u → RVs G ρ A.n H xs us → f x xs A = some (v, A') → Out G ρ A H v A' Q → r u us H Q
theorem lstOf_ok {a : Nat} {xs : List AV} (R : Rel G ρ A H) (rx : RV G ρ A.n H x u) (h : lstOf A x = some (a, xs)) : x = .ref a ∧ A.get a = some (.lst xs) ∧ ∃ vs, u = .ref (ρ a) ∧ H (ρ a) = some (.lst vs) ∧ RVs G ρ A.n H xs vs := by
  unfold lstOf at h
  split at h
  · split at h
    · rename_i hk
      cases h
      cases rx
      obtain ⟨vs, e1, r1⟩ := lst_of R hk
      exact ⟨rfl, hk, vs, rfl, e1, r1⟩
    · cases h
  · cases h
theorem stkOf_ok {a k : Nat} {xs : List AV} (R : Rel G ρ A H) (rx : RV G ρ A.n H x u) (h : stkOf A x = some (a, k, xs)) : x = .ref a ∧ A.get a = some (.stk k xs) ∧ ∃ vs, u = .ref (ρ a) ∧ H (ρ a) = some (.lst (G.st k ++ vs)) ∧ RVs G ρ A.n H xs vs := by
  unfold stkOf at h
  split at h
  · split at h
    · rename_i hk
      cases h
      cases rx
      obtain ⟨vs, e1, r1⟩ := R.ob _ _ hk
      exact ⟨rfl, hk, vs, rfl, e1, r1⟩
    · cases h
  · cases h
theorem isL_ok (R : Rel G ρ A H) (rx : RV G ρ A.n H x u) (h : ((lstOf A x).isSome || (stkOf A x).isSome) = true) : tyV G.K "list" u H := by
  rcases Bool.or_eq_true_iff.mp h with h | h
  · obtain ⟨p, hp⟩ := Option.isSome_iff_exists.mp h
    obtain ⟨_, _, vs, e2, e3, _⟩ := lstOf_ok R rx hp
    subst e2
    exact .inl ⟨rfl, vs, SqL.of e3⟩
  · obtain ⟨p, hp⟩ := Option.isSome_iff_exists.mp h
    obtain ⟨_, _, vs, e2, e3, _⟩ := stkOf_ok R rx hp
    subst e2
    exact .inl ⟨rfl, _, SqL.of e3⟩
theorem d_bm {r : V → List V → Hp → VK → Prop} {f : AV → List AV → AH → Option (AV × AH)} (hs : MSd G r f) : ∀ σ H Q, DE G (mBM f mo mr) σ H Q → tBM G.K "list" r (DE G mo) (DA G mr) σ H Q := fun σ H Q ⟨ρ, A, s, v, A', cf, h, o⟩ => by
  obtain ⟨x, A1, h1, h⟩ := bnd_some h
  obtain ⟨hp, h⟩ := cond_yes h
  refine ⟨ρ, A, s, x, A1, cf, h1, fun ρ1 H1 u e1 R1 r1 => ⟨isL_ok R1 r1 hp, ?_⟩⟩
  obtain ⟨xs, A2, h2, h⟩ := bnd_some h
  exact ⟨ρ1, A1, s, xs, A2, cf.ext e1 R1, h2, fun ρ2 H2 us e4 R2 r2 => hs ρ2 A2 H2 x _ xs us v A' Q R2 (r1.ext e4) r2 h fun ρ3 H3 u3 e5 R3 r3 => o ρ3 H3 u3 ((e1.trans e4).trans e5) R3 r3⟩
theorem d_bm0 {r : V → List V → Hp → VK → Prop} {f : AV → List AV → AH → Option (AV × AH)} (hs : MSd G r f) : ∀ σ H Q, DE G (mBM f mo mNil) σ H Q → tBM0 G.K "list" r (DE G mo) σ H Q := fun σ H Q ⟨ρ, A, s, v, A', cf, h, o⟩ => by
  obtain ⟨x, A1, h1, h⟩ := bnd_some h
  obtain ⟨hp, h⟩ := cond_yes h
  refine ⟨ρ, A, s, x, A1, cf, h1, fun ρ1 H1 u e1 R1 r1 => ⟨isL_ok R1 r1 hp, ?_⟩⟩
  obtain ⟨xs, A2, h2, h⟩ := bnd_some h
  cases h2
  exact hs ρ1 A1 H1 x _ [] [] v A' Q R1 r1 .nil h fun ρ3 H3 u3 e5 R3 r3 => o ρ3 H3 u3 (e1.trans e5) R3 r3
/-- an own list is changed -/
theorem set_lst {a : Nat} {xs ys : List AV} {vs : List V} {v : AV} {u : V} {Q : VK} (R : Rel G ρ A H) (h : A.get a = some (.lst xs)) (r : RVs G ρ A.n H ys vs) (rv : RV G ρ A.n H v u) (o : Out G ρ A H v (A.set a (.lst ys)) Q) : Q u (upd H (ρ a) (.lst vs)) := by
  have e : Ext G ρ A H ρ (A.set a (.lst ys)) (upd H (ρ a) (.lst vs)) := Ext.set R h
  exact o ρ _ u e (R.set h ⟨vs, upd_same, r.ext e⟩) (rv.ext e)
theorem set_stk {a k : Nat} {xs ys : List AV} {vs : List V} {v : AV} {u : V} {Q : VK} (R : Rel G ρ A H) (h : A.get a = some (.stk k xs)) (r : RVs G ρ A.n H ys vs) (rv : RV G ρ A.n H v u) (o : Out G ρ A H v (A.set a (.stk k ys)) Q) : Q u (upd H (ρ a) (.lst (G.st k ++ vs))) := by
  have e : Ext G ρ A H ρ (A.set a (.stk k ys)) (upd H (ρ a) (.lst (G.st k ++ vs))) := Ext.set R h
  exact o ρ _ u e (R.set h ⟨vs, upd_same, r.ext e⟩) (rv.ext e)
theorem ms_append : MSd G rAppend bAppend := fun ρ A H x u xs us v A' Q R rx rs h o => by
  unfold bAppend at h
  split at h
  · rename_i a k ys y hl
    obtain ⟨hz, h⟩ := cond_yes h
    cases h
    obtain ⟨_, hk, vs, rfl, e3, r3⟩ := stkOf_ok R rx hl
    obtain ⟨uy, rfl, ry⟩ := one_of rs
    have hz := Nat.blt_eq.mp hz
    have := G.stl k
    have := r3.length
    refine ⟨_, G.st k ++ vs, uy, rfl, rfl, e3, ?_, ?_⟩
    · rw [List.length_append, sizeLine_eq]
      omega
    · rw [List.append_assoc]
      exact set_stk R hk (r3.append (.one ry)) .non o
  · cases h
  · split at h
    · rename_i a ys y hl
      obtain ⟨hz, h⟩ := cond_yes h
      cases h
      obtain ⟨_, hk, vs, rfl, e3, r3⟩ := lstOf_ok R rx hl
      obtain ⟨uy, rfl, ry⟩ := one_of rs
      exact ⟨_, vs, uy, rfl, rfl, e3, by rw [← r3.length]; exact line_le hz, set_lst R hk (r3.append (.one ry)) .non o⟩
    · cases h
theorem ms_pop : MSd G rPop bPop := fun ρ A H x u xs us v A' Q R rx rs h o => by
  unfold bPop at h
  split at h
  · rename_i a k ys hl
    split at h
    · rename_i y hy
      cases h
      obtain ⟨_, hk, vs, rfl, e3, r3⟩ := stkOf_ok R rx hl
      cases rs
      obtain ⟨uy, e4, ry⟩ := r3.get hy
      have hl : 0 < vs.length := by
        cases vs with
        | nil => cases e4
        | cons _ _ => exact Nat.zero_lt_succ _
      have hn : vs ≠ [] := fun z => by
        rw [z] at hl
        cases hl
      refine ⟨_, G.st k ++ vs, uy, rfl, rfl, e3, ?_, ?_⟩
      · rw [List.length_append, List.getElem?_append_right (by omega)]
        have e2 : (G.st k).length + vs.length - 1 - (G.st k).length = ys.length - 1 := by
          rw [r3.length]
          omega
        rw [e2]
        exact e4
      · rw [List.dropLast_append_of_ne_nil hn]
        exact set_stk R hk r3.dropLast ry o
    · cases h
  · cases h
  · split at h
    · rename_i a ys hl
      split at h
      · rename_i y hy
        cases h
        obtain ⟨_, hk, vs, rfl, e3, r3⟩ := lstOf_ok R rx hl
        cases rs
        obtain ⟨uy, e4, ry⟩ := r3.get hy
        refine ⟨_, vs, uy, rfl, rfl, e3, by rw [← r3.length]; exact e4, set_lst R hk r3.dropLast ry o⟩
      · cases h
    · cases h
theorem ms_extend : MSd G rExtend bExtend := fun ρ A H x u xs us v A' Q R rx rs h o => by
  unfold bExtend at h
  split at h
  · rename_i a ys y hl
    split at h
    · rename_i b zs hl2
      obtain ⟨hz, h⟩ := cond_yes h
      cases h
      obtain ⟨_, hk, vs, rfl, e3, r3⟩ := lstOf_ok R rx hl
      obtain ⟨uy, rfl, ry⟩ := one_of rs
      obtain ⟨_, hk2, ws, rfl, e4, r4⟩ := lstOf_ok R ry hl2
      exact ⟨_, _, vs, ws, rfl, rfl, e3, e4, by rw [← r3.length, ← r4.length]; exact Nat.le_of_lt (line_le hz), set_lst R hk (r3.append r4) .non o⟩
    · cases h
  · cases h
/-! ### dicts by tuples: pop, setdefault -/
theorem dT_of {a : Nat} {kvs : List (List AKey × AV)} (R : Rel G ρ A H) (h : A.get a = some (.dT kvs)) : ∃ ks, H (ρ a) = some (.dT ks) ∧ RTs G ρ A.n H kvs ks := R.ob a _ h
theorem isDict_ty (R : Rel G ρ A H) (rx : RV G ρ A.n H x u) (h : isDict A x = true) : tyV G.K "dict" u H := by
  unfold isDict at h
  split at h
  · split at h
    · rename_i hk
      cases rx
      obtain ⟨ks, e1, r1⟩ := R.ob _ _ hk
      exact .inr (.inr (.inl ⟨rfl, .inl ⟨_, e1⟩⟩))
    · rename_i hk
      cases rx
      obtain ⟨ks, e1, r1⟩ := R.ob _ _ hk
      exact .inr (.inr (.inl ⟨rfl, .inr ⟨_, e1⟩⟩))
    · cases h
  · cases h
theorem d_popT : ∀ σ H Q, DE G (mDPopT md mk me) σ H Q → tBM G.K "dict" L2.DX.rPopT (DE G md) (DA G (mCons mk (mCons me mNil))) σ H Q := fun σ H Q ⟨ρ, A, s, v, A', cf, h, o⟩ => by
  obtain ⟨x, A1, h1, h⟩ := bnd_some h
  obtain ⟨hd, h⟩ := cond_yes h
  obtain ⟨y, A2, h2, h⟩ := bnd_some h
  obtain ⟨z, A3, h3, h⟩ := bnd_some h
  refine ⟨ρ, A, s, x, A1, cf, h1, fun ρ1 H1 u e1 R1 r1 => ⟨isDict_ty R1 r1 hd, ρ1, A1, s, [y, z], A3, cf.ext e1 R1, by unfold mCons; rw [h2]; show bnd (bnd (me s A2) _) _ = _; rw [h3]; rfl, fun ρ2 H2 us e2 R2 r2 => ?_⟩⟩
  split at h
  · rename_i a ts
    split at h
    · rename_i kvs q hk hq
      cases r2 with
      | cons ry r2 =>
      obtain ⟨uz, rfl, rz⟩ := one_of r2
      have r1' := r1.ext e2
      cases r1'
      obtain ⟨ks, e3, r3⟩ := dT_of R2 hk
      cases ry with
      | tup s1 rr =>
      have lk := lookT_ok (k := q) r3
      unfold L2.DX.rPopT
      refine ⟨_, ks, q.map kd, _, uz, rfl, rfl, e3, by rw [s1, keysA_ok rr hq], fun w hw => ?_, fun hw => ?_⟩
      · rw [hw] at lk
        split at h
        · rename_i z' hz
          cases h
          rw [hz] at lk
          have e : Ext G ρ2 A3 H2 ρ2 (A3.set _ (.dT (dropT kvs q))) (upd H2 (ρ2 _) (.dT (dropK ks (q.map kd)))) := Ext.set R2 hk
          have r3' : RTs G ρ2 A3.n (upd H2 (ρ2 _) (.dT (dropK ks (q.map kd)))) kvs ks := paired_mono (fun _ _ z => ⟨z.1, z.2.ext e⟩) r3
          exact o ρ2 _ w ((e1.trans e2).trans e) (R2.set hk ⟨_, upd_same, dropT_ok r3'⟩) ((show RV G ρ2 A3.n H2 _ w from lk).ext e)
        · rename_i hz
          rw [hz] at lk
          exact lk.elim
      · rw [hw] at lk
        split at h
        · rename_i z' hz
          rw [hz] at lk
          exact lk.elim
        · cases h
          exact o ρ2 H2 uz (e1.trans e2) R2 rz
    · cases h
  · cases h
/-- d.setdefault(k, x), d by tuples: the key is not there -/
def rSetT : V → List V → Hp → VK → Prop := fun x xs H Q => ∃ (a : Addr) (kvs : List (List L2.Key × V)) (k : List L2.Key) (b : Addr) (d : V), x = .ref a ∧ xs = [.ref b, d] ∧ H a = some (.dT kvs) ∧ H b = some (.tup (k.map kV)) ∧ kvs.length < sizeLine ∧
  (∀ v, valV kvs k = some v → Q v H) ∧ (valV kvs k = none → Q d (upd H a (.dT (putK kvs k d))))
theorem mt_setT {X : Cx} (hu : X.A.units + 1 < cLine) : MtR X "dict.setdefault" rSetT := by
  intro pins s σ H x xs v us Q I rx rxs h
  obtain ⟨a, kvs, k, b, d, rfl, rfl, ha, hb, hl, q1, q2⟩ := h
  obtain ⟨w1, w2, rfl, rb, rd⟩ := vals2 rxs
  obtain rfl : v = Value.ref a := rx
  obtain rfl : w1 = Value.ref b := rb
  obtain ⟨hz, hsys, tb, kt, dh⟩ := dt_of I.hok ha
  have hlen : kvs.length = tb.length := Paired.length kt
  refine call_meetsIn PySem.F.slot_dict_setdefault dh.typeIs PySem.F.entry_dict_setdefault (PySem.F.args_dict_setdefault_3 _ _ _) (meetsH_dict_setdefault (tupleKind (mixKind X.prog X.w)) a b hsys w2)
    ⟨tupleKind_room_in1 hu, k, tb, key_of I.hok hb, dh, by omega, fun p hp => ?_, fun hn h' dh' hs => ?_⟩
  · have rel := kt.val k
    rw [hp] at rel
    cases ev : valV kvs k with
    | none =>
      rw [ev] at rel
      exact (show False from rel).elim
    | some v0 =>
      rw [ev] at rel
      exact ⟨v0, H, I.tok _, rel, q1 v0 ev⟩
  · have rel := kt.val k
    rw [hn] at rel
    cases ev : valV kvs k with
    | some v0 =>
      rw [ev] at rel
      exact (show False from rel).elim
    | none =>
      obtain ⟨ob, es, ep, hq, g2, g3, g4, _, g5⟩ := dh'
      have hl2 : (putK kvs k d).length ≤ sizeLine := by
        have := length_putK kvs k d
        omega
      have kt2 := (kt.put k hb rd).keeps (H' := upd H a (.dT (putK kvs k d))) fun c ys ec => (by rw [upd_ne (ne_of ec ha (fun z => nomatch z))]; exact ec)
      have I2 : Inv X pins σ (upd H a (.dT (putK kvs k d))) { s with heap := h', toks := s.toks + (tupleKind (mixKind X.prog X.w)).draws k } :=
        d_write I (by rw [ha]; exact True.intro) hs ⟨ob, hq⟩ ⟨hl2, hsys, _, kt2, ob, es, ep, hq, g2, g3, g4, g5⟩
      exact ⟨d, _, I2, rd, q2 ev⟩
theorem d_setT : ∀ σ H Q, DE G (mSetdT md mk me) σ H Q → tBM G.K "dict" rSetT (DE G md) (DA G (mCons mk (mCons me mNil))) σ H Q := fun σ H Q ⟨ρ, A, s, v, A', cf, h, o⟩ => by
  obtain ⟨x, A1, h1, h⟩ := bnd_some h
  obtain ⟨hd, h⟩ := cond_yes h
  obtain ⟨y, A2, h2, h⟩ := bnd_some h
  obtain ⟨z, A3, h3, h⟩ := bnd_some h
  refine ⟨ρ, A, s, x, A1, cf, h1, fun ρ1 H1 u e1 R1 r1 => ⟨isDict_ty R1 r1 hd, ρ1, A1, s, [y, z], A3, cf.ext e1 R1, by unfold mCons; rw [h2]; show bnd (bnd (me s A2) _) _ = _; rw [h3]; rfl, fun ρ2 H2 us e2 R2 r2 => ?_⟩⟩
  split at h
  · rename_i a ts
    split at h
    · rename_i kvs q hk hq
      cases r2 with
      | cons ry r2 =>
      obtain ⟨uz, rfl, rz⟩ := one_of r2
      have r1' := r1.ext e2
      cases r1'
      obtain ⟨ks, e3, r3⟩ := dT_of R2 hk
      cases ry with
      | tup s1 rr =>
      have lk := lookT_ok (k := q) r3
      obtain ⟨hl, h⟩ := cond_yes h
      unfold rSetT
      split at h
      · rename_i z' hz
        cases h
        rw [hz] at lk
        refine ⟨_, ks, q.map kd, _, uz, rfl, rfl, e3, by rw [s1, keysA_ok rr hq], by rw [← pair_len r3]; exact line_le hl, fun w hw => ?_, fun hw => ?_⟩
        · rw [hw] at lk
          exact o ρ2 H2 w (e1.trans e2) R2 lk
        · rw [hw] at lk
          exact lk.elim
      · rename_i hz
        cases h
        rw [hz] at lk
        refine ⟨_, ks, q.map kd, _, uz, rfl, rfl, e3, by rw [s1, keysA_ok rr hq], by rw [← pair_len r3]; exact line_le hl, fun w hw => ?_, fun hw => ?_⟩
        · rw [hw] at lk
          exact lk.elim
        · have e : Ext G ρ2 A3 H2 ρ2 (A3.set _ (.dT (putT kvs q v))) (upd H2 (ρ2 _) (.dT (putK ks (q.map kd) uz))) := Ext.set R2 hk
          have r3' : RTs G ρ2 A3.n (upd H2 (ρ2 _) (.dT (putK ks (q.map kd) uz))) kvs ks := paired_mono (fun _ _ z => ⟨z.1, z.2.ext e⟩) r3
          exact o ρ2 _ uz ((e1.trans e2).trans e) (R2.set hk ⟨_, upd_same, putT_ok (rz.ext e) r3'⟩) (rz.ext e)
    · cases h
  · cases h
end
end Zg
set_option Elab.async false
set_option maxRecDepth 100000
set_option maxHeartbeats 4000000
set_option linter.all false
/-! ZS7: index, the written table, slices, tests. -/
namespace Zg
open PySem L2
section
variable {G : Gm} {ρ : Nat → Addr} {A : AH} {n : Nat} {H : Hp} {x y : AV} {u w : V}
variable {md mk me ma mb mo : ME} {mr : MA} {t : TA} {ta tb : MT} {c i k : Nat} {f nm : Str} {m : MF}
theorem indexS_ok {c : Nat} : ∀ {cs : List Nat} {j k : Nat}, indexS c (cs.map .str) j = some k → ∃ m, k = j + m ∧ cs[m]? = some c ∧ ∀ l, l < m → cs[l]? ≠ some c
  | [], _, _, h => by cases h
  | d :: r, j, k, h => by
    have h : cond (d.beq c) (some j) (indexS c (r.map .str) (j + 1)) = some k := h
    cases e : d.beq c with
    | true =>
      rw [e] at h
      cases h
      exact ⟨0, rfl, by rw [Nat.eq_of_beq_eq_true e]; rfl, fun l hl => absurd hl (Nat.not_lt_zero l)⟩
    | false =>
      rw [e] at h
      obtain ⟨m, rfl, h2, h3⟩ := indexS_ok (cs := r) h
      refine ⟨m + 1, by omega, by simpa using h2, fun l hl => ?_⟩
      cases l with
      | zero =>
        intro z
        have z : d = c := by simpa using z
        rw [z, Nat.beq_refl] at e
        cases e
      | succ l =>
        have := h3 l (by omega)
        simpa using this
/-- T.index(x), T a written tuple of texts -/
theorem d_index {p : Addr} {cs : List Nat} (hs : ∀ H, SqT G.K H p ((cs.map dS).map V.str)) (hty : ∃ o, G.K.lookup p = some o ∧ o.cls = .type "tuple" ∧ o.dict = none) :
    ∀ σ H Q, DE G (mOp oIndex (mC (.ktup (cs.map .str))) mb) σ H Q → tBM G.K "tuple" (fun x xs H Q => ∃ p, ∃ ys : List Str, ∃ z j, x = .ref p ∧ xs = [.str z] ∧ SqT G.K H p (ys.map V.str) ∧ ys[j]? = some z ∧ (∀ m, m < j → ys[m]? ≠ some z) ∧ Q (.int (j : Nat)) H) (tC (.ref p)) (DA G (mCons mb mNil)) σ H Q :=
  fun σ H Q ⟨ρ, A, s, v, A', cf, h, o⟩ => by
    obtain ⟨x, A1, h1, h⟩ := bnd_some h
    cases h1
    obtain ⟨y, A2, h2, h⟩ := bnd_some h
    refine ⟨.inr (.inl ⟨rfl, hty⟩), ρ, A, s, [y], A2, cf, by unfold mCons; rw [h2]; rfl, fun ρ1 H1 us e1 R1 r1 => ?_⟩
    cases y <;> first | (cases h; done) | skip
    rename_i c
    have h : (match indexS c (cs.map .str) 0 with
      | some j => some (AV.int (Int.ofNat j), A2)
      | none => none) = some (v, A') := h
    split at h
    · rename_i j hj
      cases h
      obtain ⟨uy, rfl, ry⟩ := one_of r1
      cases ry
      obtain ⟨m, e4, h4, h5⟩ := indexS_ok hj
      have e5 : j = m := by omega
      subst e5
      refine ⟨p, cs.map dS, dS c, j, rfl, rfl, hs H1, by rw [List.getElem?_map, h4]; rfl, fun l hl z => ?_, o ρ1 H1 _ e1 R1 (.int _)⟩
      rw [List.getElem?_map] at z
      cases e6 : cs[l]? with
      | none =>
        rw [e6] at z
        cases z
      | some d =>
        rw [e6] at z
        exact h5 l hl (by rw [e6, dS_inj (Option.some.inj z)])
    · cases h
/-- T[x], T a written dict of tuples of ints -/
theorem lookN_mem : ∀ {tb : List (Nat × List Int)} {c : Nat} {l : List Int}, lookN tb c = some l → (c, l) ∈ tb
  | [], _, _, h => by cases h
  | (j, v) :: r, c, l, h => by
    have h : cond (j.beq c) (some v) (lookN r c) = some l := h
    cases e : j.beq c with
    | true =>
      rw [e] at h
      cases h
      rw [Nat.eq_of_beq_eq_true e]
      exact List.mem_cons_self ..
    | false =>
      rw [e] at h
      exact List.mem_cons_of_mem _ (lookN_mem h)
theorem ints_rv (l : List Int) : RVs G ρ n H (l.map .int) (l.map V.int) := by
  induction l with
  | nil => exact .nil
  | cons z l ih => exact .cons (.int z) ih
theorem d_parts {p : Addr} {X : Cx} (hp : ∀ q ∈ partsOf, ∃ a, KDct G.K G.w p (dS q.1) (.ref a) ∧ ∀ H, SqT G.K H a (q.2.map V.int)) :
    ∀ σ H Q, DE G (mUn uParts mb) σ H Q → tOp (rIxD G.K G.w) (tC (.ref p)) (DE G mb) σ H Q := fun σ H Q ⟨ρ, A, s, v, A', cf, h, o⟩ => by
  obtain ⟨y, A2, h2, h⟩ := bnd_some h
  refine ⟨ρ, A, s, y, A2, cf, h2, fun ρ1 H1 w e1 R1 r1 => ?_⟩
  unfold uParts at h
  split at h
  · split at h
    · rename_i c l hl
      cases h
      cases r1
      obtain ⟨a, k1, k2⟩ := hp _ (lookN_mem hl)
      exact ⟨p, _, .ref a, rfl, rfl, k1, o ρ1 H1 _ e1 R1 (.ktup k2 (ints_rv l))⟩
    · cases h
  · cases h
/-! ### slices -/
theorem d_noP : ∀ σ H Q, DO G mNoP σ H Q → tNoPart σ H Q := fun σ H Q ⟨ρ, A, s, v, A', cf, h, o⟩ => by
  cases h
  exact o ρ H .refl cf.rel
theorem d_P : ∀ σ H Q, DO G (mP ma) σ H Q → tPart (DE G ma) σ H Q := fun σ H Q ⟨ρ, A, s, v, A', cf, h, o⟩ => by
  obtain ⟨x, A1, h1, h⟩ := bnd_some h
  refine ⟨ρ, A, s, x, A1, cf, h1, fun ρ1 H1 u e1 R1 r1 => ?_⟩
  split at h
  · cases h
    cases r1
    exact ⟨_, rfl, o ρ1 H1 e1 R1⟩
  · cases h
theorem _root_.L2.PO.imp {X : Cx} {e : Option Expr} {t t' : TO} (h : PO X e t) (hm : ∀ σ H Q, t' σ H Q → t σ H Q) : PO X e t' := ⟨fun pins s σ H Q I q => h.run pins s σ H Q I (hm σ H Q q)⟩
theorem sIx_ok (n d : Nat) (o : Option Int) : sIxA n d o = HT.sIx n d o := by
  cases o with
  | none => rfl
  | some v => cases v with
    | ofNat k =>
      show cond (k.ble n) k n = if (Int.ofNat k) < 0 then (Int.ofNat k + (n : Int)).toNat else min (Int.ofNat k).toNat n
      rw [if_neg (by simp only [Int.ofNat_eq_natCast]; omega)]
      show cond (k.ble n) k n = min k n
      rw [ble_dec]
      by_cases h : k ≤ n
      · rw [decide_eq_true h, Nat.min_eq_left h]
        rfl
      · rw [decide_eq_false h, Nat.min_eq_right (by omega)]
        rfl
    | negSucc k =>
      show n - (k + 1) = if (Int.negSucc k) < 0 then (Int.negSucc k + (n : Int)).toNat else min (Int.negSucc k).toNat n
      rw [if_pos (by omega)]
      omega
theorem cut_ok {ts : List AV} {vs : List V} (r : RVs G ρ n H ts vs) (lo hi : Option Int) : RVs G ρ n H (cutA ts lo hi) (cutV vs lo hi) := by
  unfold cutA cutV
  rw [sIx_ok, sIx_ok, r.length]
  exact (r.drop _).take _
theorem d_sl {r : V → Option Int → Option Int → Hp → VK → Prop} {f : AV → Option Int → Option Int → AH → Option (AV × AH)} {ml mh : MO} {mm : ME}
    (hf : ∀ s A, mm s A = bnd (ma s A) fun x A1 => bnd (ml s A1) fun l A2 => bnd (mh s A2) fun h A3 => f x l h A3)
    (hs : ∀ ρ A H x u l h v A' Q, Rel G ρ A H → RV G ρ A.n H x u → f x l h A = some (v, A') → Out G ρ A H v A' Q → r u l h H Q) :
    ∀ σ H Q, DE G mm σ H Q → tSl r (DE G ma) (DO G ml) (DO G mh) σ H Q := fun σ H Q ⟨ρ, A, s, v, A', cf, h, o⟩ => by
  rw [hf] at h
  obtain ⟨x, A1, h1, h⟩ := bnd_some h
  obtain ⟨l, A2, h2, h⟩ := bnd_some h
  obtain ⟨j, A3, h3, h⟩ := bnd_some h
  exact ⟨ρ, A, s, x, A1, cf, h1, fun ρ1 H1 u e1 R1 r1 => ⟨ρ1, A1, s, l, A2, cf.ext e1 R1, h2, fun ρ2 H2 e2 R2 => ⟨ρ2, A2, s, j, A3, (cf.ext e1 R1).ext e2 R2, h3, fun ρ3 H3 e3 R3 =>
    hs ρ3 A3 H3 x u l j v A' Q R3 ((r1.ext e2).ext e3) h fun ρ4 H4 u4 e4 R4 r4 => o ρ4 H4 u4 (((e1.trans e2).trans e3).trans e4) R4 r4⟩⟩⟩
theorem d_slT {ml mh : MO} : ∀ σ H Q, DE G (mSlT ma ml mh) σ H Q → tSl (rSlA G.K) (DE G ma) (DO G ml) (DO G mh) σ H Q :=
  d_sl (f := fun x l h A => match x with | .tup ts => some (.tup (cutA ts l h), A) | _ => none) (fun s A => rfl) fun ρ A H x u l h v A' Q R rx e o => by
    split at e
    · rename_i ts
      cases e
      cases rx with
      | tup s1 r1 =>
      refine ⟨_, _, rfl, .of s1, fun hw => ?_, fun _ p hp => o ρ _ _ (Ext.track R hp) (R.track hp) (.tup upd_same ((cut_ok r1 l h).ext (Ext.track R hp)))⟩
      have e2 : cutA ts l h = ts := by
        unfold cutA
        rw [sIx_ok, sIx_ok, r1.length, hw.1, hw.2, List.drop_zero, ← r1.length, Nat.sub_zero, List.take_length]
      rw [e2] at o
      exact o ρ H _ .refl R (.tup s1 r1)
    · cases e
theorem d_slL {ml mh : MO} : ∀ σ H Q, DE G (mSlL ma ml mh) σ H Q → tSl (rSlL G.K) (DE G ma) (DO G ml) (DO G mh) σ H Q :=
  d_sl (f := fun x l h A => match x with | .ref r => (match A.get r with | some (.lst xs) => some (.ref A.n, A.new (.lst (cutA xs l h))) | some (.fz xs) => some (.ref A.n, A.new (.lst (cutA xs l h))) | _ => none) | _ => none) (fun s A => rfl) fun ρ A H x u l h v A' Q R rx e o => by
    split at e
    · split at e
      · rename_i hk
        cases e
        cases rx
        obtain ⟨vs, e1, r1⟩ := lst_of R hk
        exact ⟨_, vs, rfl, SqL.of e1, fun p hp => out_lst R hp (cut_ok r1 l h) o⟩
      · rename_i hk
        cases e
        cases rx
        obtain ⟨ob, vs, e1, r1⟩ := R.ob _ _ hk
        exact ⟨_, vs, rfl, .inl (.inr ⟨ob, e1⟩), fun p hp => out_lst R hp (cut_ok r1 l h) o⟩
      · cases e
    · cases e
theorem d_rev : ∀ σ H Q, DE G (mUn uRev ma) σ H Q → tRevL G.K (DE G ma) σ H Q := fun σ H Q ⟨ρ, A, s, v, A', cf, h, o⟩ => by
  obtain ⟨x, A1, h1, h⟩ := bnd_some h
  refine ⟨ρ, A, s, x, A1, cf, h1, fun ρ1 H1 u e1 R1 r1 => ?_⟩
  unfold uRev at h
  split at h
  · rename_i hl
    cases h
    obtain ⟨_, hk, vs, rfl, e3, r3⟩ := lstOf_ok R1 r1 hl
    exact ⟨_, vs, rfl, SqL.of e3, fun p hp => out_lst R1 hp r3.reverse fun ρ4 H4 u4 e4 R4 r4 => o ρ4 H4 u4 (e1.trans e4) R4 r4⟩
  · cases h
/-! ### tests -/
theorem d_B {t : TE} (ht : ∀ σ H Q, DE G ma σ H Q → t σ H Q) : ∀ σ H Q, DT G (mB ma) σ H Q → tTest t σ H Q := fun σ H Q ⟨ρ, A, s, b, A', cf, h, o⟩ => by
  obtain ⟨x, A1, h1, h⟩ := bnd_some h
  refine ht σ H _ ⟨ρ, A, s, x, A1, cf, h1, fun ρ1 H1 u e1 R1 r1 => ?_⟩
  split at h
  · cases h
    cases r1
    exact ⟨_, rfl, o ρ1 H1 e1 R1⟩
  · cases h
theorem d_tru : ∀ σ H Q, DT G (mTru ma) σ H Q → (fun (σ : St) H Q => (DE G ma) σ H fun x H' => ∃ k, TruV G.K x H' k ∧ Q k H') σ H Q := fun σ H Q ⟨ρ, A, s, b, A', cf, h, o⟩ => by
  obtain ⟨x, A1, h1, h⟩ := bnd_some h
  refine ⟨ρ, A, s, x, A1, cf, h1, fun ρ1 H1 u e1 R1 r1 => ?_⟩
  split at h
  · split at h
    · rename_i xs hk
      cases h
      cases r1
      obtain ⟨vs, e3, r3⟩ := lst_of R1 hk
      refine ⟨_, .inl ⟨vs, SqL.of e3, ?_⟩, o ρ1 H1 e1 R1⟩
      cases r3 <;> rfl
    · rename_i k xs hk
      cases r1
      obtain ⟨vs, e3, r3⟩ := R1.ob _ _ hk
      cases xs with
      | nil =>
        cases hk1 : k.beq 1 with
        | false =>
          rw [hk1] at h
          cases h
        | true =>
          rw [hk1] at h
          cases h
          have := Nat.eq_of_beq_eq_true hk1
          subst this
          refine ⟨_, .inl ⟨_, SqL.of e3, ?_⟩, o ρ1 H1 e1 R1⟩
          have := G.stn
          cases hs : G.st 1 with
          | nil => exact absurd hs this
          | cons _ _ => rfl
      | cons x xs =>
        cases h
        refine ⟨_, .inl ⟨_, SqL.of e3, ?_⟩, o ρ1 H1 e1 R1⟩
        cases r3 with
        | cons a b => cases G.st k <;> rfl
    · cases h
  · cases h
theorem d_and : ∀ σ H Q, DT G (mAnd ta tb) σ H Q → tAnd (DT G ta) (DT G tb) σ H Q := fun σ H Q ⟨ρ, A, s, b, A', cf, h, o⟩ => by
  obtain ⟨k, A1, h1, h⟩ := bnd_some h
  refine ⟨ρ, A, s, k, A1, cf, h1, fun ρ1 H1 e1 R1 => ?_⟩
  cases k with
  | true =>
    rw [if_pos rfl]
    exact ⟨ρ1, A1, s, b, A', cf.ext e1 R1, h, fun ρ2 H2 e2 R2 => o ρ2 H2 (e1.trans e2) R2⟩
  | false =>
    rw [if_neg (by decide)]
    cases h
    exact o ρ1 H1 e1 R1
theorem d_or : ∀ σ H Q, DT G (mOr ta tb) σ H Q → tOr (DT G ta) (DT G tb) σ H Q := fun σ H Q ⟨ρ, A, s, b, A', cf, h, o⟩ => by
  obtain ⟨k, A1, h1, h⟩ := bnd_some h
  refine ⟨ρ, A, s, k, A1, cf, h1, fun ρ1 H1 e1 R1 => ?_⟩
  cases k with
  | true =>
    rw [if_pos rfl]
    cases h
    exact o ρ1 H1 e1 R1
  | false =>
    rw [if_neg (by decide)]
    exact ⟨ρ1, A1, s, b, A', cf.ext e1 R1, h, fun ρ2 H2 e2 R2 => o ρ2 H2 (e1.trans e2) R2⟩
theorem d_not : ∀ σ H Q, DT G (mNot ta) σ H Q → tNot (DT G ta) σ H Q := fun σ H Q ⟨ρ, A, s, b, A', cf, h, o⟩ => by
  obtain ⟨k, A1, h1, h⟩ := bnd_some h
  cases h
  exact ⟨ρ, A, s, k, _, cf, h1, fun ρ1 H1 e1 R1 => o ρ1 H1 e1 R1⟩
theorem d_ifE : ∀ σ H Q, DE G (mIfE ta ma mb) σ H Q → tIf (DT G ta) (DE G ma) (DE G mb) σ H Q := fun σ H Q ⟨ρ, A, s, v, A', cf, h, o⟩ => by
  obtain ⟨k, A1, h1, h⟩ := bnd_some h
  refine ⟨ρ, A, s, k, A1, cf, h1, fun ρ1 H1 e1 R1 => ?_⟩
  cases k with
  | true =>
    rw [if_pos rfl]
    exact ⟨ρ1, A1, s, v, A', cf.ext e1 R1, h, fun ρ2 H2 u e2 R2 r2 => o ρ2 H2 u (e1.trans e2) R2 r2⟩
  | false =>
    rw [if_neg (by decide)]
    exact ⟨ρ1, A1, s, v, A', cf.ext e1 R1, h, fun ρ2 H2 u e2 R2 r2 => o ρ2 H2 u (e1.trans e2) R2 r2⟩
theorem d_andV : ∀ σ H Q, DE G (mAndV ma mb) σ H Q → tAndV (DE G ma) (DE G mb) σ H Q := fun σ H Q ⟨ρ, A, s, v, A', cf, h, o⟩ => by
  obtain ⟨x, A1, h1, h⟩ := bnd_some h
  refine ⟨ρ, A, s, x, A1, cf, h1, fun ρ1 H1 u e1 R1 r1 => ?_⟩
  split at h
  · rename_i k
    cases r1
    refine ⟨_, rfl, ?_⟩
    cases k with
    | true =>
      rw [if_pos rfl]
      exact ⟨ρ1, A1, s, v, A', cf.ext e1 R1, h, fun ρ2 H2 u e2 R2 r2 => o ρ2 H2 u (e1.trans e2) R2 r2⟩
    | false =>
      rw [if_neg (by decide)]
      cases h
      exact o ρ1 H1 _ e1 R1 (.bl _)
  · cases h
end
end Zg
set_option Elab.async false
set_option maxRecDepth 100000
set_option maxHeartbeats 4000000
set_option linter.all false
/-! ZS8: statements, loops, comprehensions. -/
namespace Zg
open PySem L2
def Post (G : Gm) (ρ : Nat → Addr) (A : AH) (H : Hp) (D : Ends) (r : Fl × SA × AH) : Prop := ∀ ρ' H', Ext G ρ A H ρ' r.2.2 H' → Rel G ρ' r.2.2 H' → match r.1 with
  | .nx => ∀ σ', RSt G ρ' r.2.2.n H' r.2.1 σ' → D.nx σ' H'
  | .bk => ∀ σ', RSt G ρ' r.2.2.n H' r.2.1 σ' → D.bk σ' H'
  | .ct => ∀ σ', RSt G ρ' r.2.2.n H' r.2.1 σ' → D.ct σ' H'
  | .rt v => ∀ u, RV G ρ' r.2.2.n H' v u → D.rt u H'
def DS (G : Gm) (m : MS) : TS := fun D σ H => ∃ ρ A s r, Cf G ρ A s σ H ∧ m s A = some r ∧ Post G ρ A H D r
theorem Post.ext {G : Gm} {ρ ρ1 : Nat → Addr} {A A1 : AH} {H H1 : Hp} {D : Ends} {r : Fl × SA × AH} (p : Post G ρ A H D r) (e : Ext G ρ A H ρ1 A1 H1) : Post G ρ1 A1 H1 D r := fun ρ' H' e' R' => p ρ' H' (e.trans e') R'
section
variable {G : Gm} {ρ : Nat → Addr} {A : AH} {n : Nat} {H : Hp} {x y : AV} {u w : V}
variable {md mk me ma mb mo : ME} {mr : MA} {t : TA} {ta tb : MT} {c i j k : Nat} {f nm : Str} {m : MF} {sa sb : MS}
theorem s_next : ∀ D σ H, DS G mNext D σ H → tNext D σ H := fun D σ H ⟨ρ, A, s, r, cf, h, p⟩ => by
  cases h
  exact p ρ H .refl cf.rel σ cf.st
theorem s_never : ∀ D σ H, DS G mNever D σ H → tNever D σ H := fun D σ H ⟨ρ, A, s, r, cf, h, p⟩ => by cases h
theorem s_seq : ∀ D σ H, DS G (mSeq sa sb) D σ H → tSeq (DS G sa) (DS G sb) D σ H := fun D σ H ⟨ρ, A, s, r, cf, h, p⟩ => by
  unfold mSeq at h
  cases e : sa s A with
  | none =>
    rw [e] at h
    cases h
  | some q =>
    rw [e] at h
    obtain ⟨fl, s1, A1⟩ := q
    cases fl with
    | nx => exact ⟨ρ, A, s, _, cf, e, fun ρ' H' e' R' σ' hs => ⟨ρ', A1, s1, r, ⟨hs, R'⟩, h, p.ext e'⟩⟩
    | bk =>
      cases h
      exact ⟨ρ, A, s, _, cf, e, p⟩
    | ct =>
      cases h
      exact ⟨ρ, A, s, _, cf, e, p⟩
    | rt v =>
      cases h
      exact ⟨ρ, A, s, _, cf, e, p⟩
theorem s_expr : ∀ D σ H, DS G (mExpr me) D σ H → tDrop (DE G me) D σ H := fun D σ H ⟨ρ, A, s, r, cf, h, p⟩ => by
  obtain ⟨v, A1, h1, h⟩ := bnd_some h
  cases h
  exact ⟨ρ, A, s, v, A1, cf, h1, fun ρ' H' u e' R' _ => p ρ' H' e' R' σ (cf.st.ext e')⟩
theorem s_ret : ∀ D σ H, DS G (mRet me) D σ H → tRet (DE G me) D σ H := fun D σ H ⟨ρ, A, s, r, cf, h, p⟩ => by
  obtain ⟨v, A1, h1, h⟩ := bnd_some h
  cases h
  exact ⟨ρ, A, s, v, A1, cf, h1, fun ρ' H' u e' R' r' => p ρ' H' e' R' u r'⟩
theorem s_retN : ∀ D σ H, DS G mRetN D σ H → tRetN D σ H := fun D σ H ⟨ρ, A, s, r, cf, h, p⟩ => by
  cases h
  exact p ρ H .refl cf.rel .non .non
theorem s_if : ∀ D σ H, DS G (mIfS ta sa sb) D σ H → tIfS (DT G ta) (DS G sa) (DS G sb) D σ H := fun D σ H ⟨ρ, A, s, r, cf, h, p⟩ => by
  obtain ⟨k, A1, h1, h⟩ := bnd_some h
  refine ⟨ρ, A, s, k, A1, cf, h1, fun ρ' H' e' R' => ?_⟩
  cases k with
  | true =>
    rw [if_pos rfl]
    exact ⟨ρ', A1, s, r, cf.ext e' R', h, p.ext e'⟩
  | false =>
    rw [if_neg (by decide)]
    exact ⟨ρ', A1, s, r, cf.ext e' R', h, p.ext e'⟩
theorem s_set : ∀ D σ H, DS G (mSet i me) D σ H → tAsg (DE G me) (gName i) D σ H := fun D σ H ⟨ρ, A, s, r, cf, h, p⟩ => by
  obtain ⟨v, A1, h1, h⟩ := bnd_some h
  cases h
  exact ⟨ρ, A, s, v, A1, cf, h1, fun ρ' H' u e' R' r' => p ρ' H' e' R' _ ((cf.st.ext e').set r')⟩
/-! ### targets -/
def gsOf : List Nat → TGs
  | [] => gNil
  | i :: r => gCons (gName i) (gsOf r)
theorem wipe_at : ∀ (vs : List Nat) (σ : St) (j : Nat), (wipe σ vs)[j]? = if j ∈ vs then (if j < σ.length then some none else none) else σ[j]?
  | [], σ, j => by simp [wipe]
  | v :: vs, σ, j => by
    show ((wipe σ vs).set v none)[j]? = _
    rw [List.getElem?_set, wipe_length, wipe_at vs σ j]
    by_cases e : v = j
    · subst e
      simp
    · rw [if_neg e]
      have e2 : (j ∈ v :: vs) ↔ j ∈ vs := by
        rw [List.mem_cons]
        exact ⟨fun h => h.resolve_left (fun z => e z.symm), .inr⟩
      simp only [e2]
theorem wipe_set {σ : St} {i : Nat} {v : Option V} {vs : List Nat} (h : i ∈ vs) : wipe (σ.set i v) vs = wipe σ vs := by
  apply List.ext_getElem?
  intro j
  rw [wipe_at, wipe_at, List.length_set, List.getElem?_set]
  by_cases e : j ∈ vs
  · rw [if_pos e, if_pos e]
  · rw [if_neg e, if_neg e, if_neg (fun (z : i = j) => e (by rw [← z]; exact h))]
theorem wipe_wipe (σ : St) (vs : List Nat) : wipe (wipe σ vs) vs = wipe σ vs := by
  apply List.ext_getElem?
  intro j
  rw [wipe_at, wipe_length, wipe_at]
  by_cases e : j ∈ vs
  · rw [if_pos e, if_pos e]
  · rw [if_neg e, if_neg e]
theorem putS_ok {Q : St → Hp → Prop} : ∀ {is : List Nat} {vs : List AV} {us : List V} {s s1 : SA} {σ : St}, RSt G ρ n H s σ → RVs G ρ n H vs us → putS is vs s = some s1 → (∀ σ1, RSt G ρ n H s1 σ1 → (∀ ws, (∀ i ∈ is, i ∈ ws) → wipe σ1 ws = wipe σ ws) → Q σ1 H) → gsOf is us σ H Q
  | [], [], _, s, s1, σ, hs, .nil, h, q => by
    cases h
    exact ⟨rfl, q σ hs (fun _ _ => rfl)⟩
  | [], _ :: _, _, _, _, _, _, _, h, _ => by cases h
  | _ :: _, [], _, _, _, _, _, _, h, _ => by cases h
  | i :: is, v :: vs, _, s, s1, σ, hs, .cons r rs, h, q => by
    refine ⟨_, _, rfl, ?_⟩
    show gsOf is _ (σ.set i (some _)) H Q
    refine putS_ok (hs.set r) rs h fun σ1 h1 h2 => q σ1 h1 fun ws hw => ?_
    rw [h2 ws (fun j hj => hw j (List.mem_cons_of_mem _ hj)), wipe_set (hw i (List.mem_cons_self ..))]
theorem putS_len : ∀ {is : List Nat} {vs : List AV} {s s1 : SA}, putS is vs s = some s1 → vs.length = is.length
  | [], [], _, _, _ => rfl
  | [], _ :: _, _, _, h => by cases h
  | _ :: _, [], _, _, h => by cases h
  | _ :: is, _ :: vs, _, _, h => congrArg Nat.succ (putS_len (is := is) (vs := vs) h)
theorem s_unp {is : List Nat} (hn : is.length = n) : ∀ D σ H, DS G (mUnp is me) D σ H → tAsg (DE G me) (gTup G.K n (gsOf is)) D σ H := fun D σ H ⟨ρ, A, s, r, cf, h, p⟩ => by
  obtain ⟨v, A1, h1, h⟩ := bnd_some h
  refine ⟨ρ, A, s, v, A1, cf, h1, fun ρ' H' u e' R' r' => ?_⟩
  split at h
  · split at h
    · rename_i s1 hp
      cases h
      cases r' with
      | tup e1 r1 =>
      exact ⟨_, _, rfl, .of e1, by rw [← r1.length, putS_len hp, hn], putS_ok (cf.st.ext e') r1 hp fun σ1 q1 _ => p ρ' H' e' R' σ1 q1⟩
    · cases h
  · cases h
theorem s_unpL {is : List Nat} (hn : is.length = n) : ∀ D σ H, DS G (mUnpL is me) D σ H → tAsg (DE G me) (gUnl G.K n (gsOf is)) D σ H := fun D σ H ⟨ρ, A, s, r, cf, h, p⟩ => by
  obtain ⟨v, A1, h1, h⟩ := bnd_some h
  refine ⟨ρ, A, s, v, A1, cf, h1, fun ρ' H' u e' R' r' => ?_⟩
  split at h
  · rename_i hl
    split at h
    · rename_i s1 hp
      cases h
      obtain ⟨_, _, vs, rfl, e3, r3⟩ := lstOf_ok R' r' hl
      exact ⟨_, vs, rfl, SqL.of e3, by rw [← r3.length, putS_len hp, hn], putS_ok (cf.st.ext e') r3 hp fun σ1 q1 _ => p ρ' H' e' R' σ1 q1⟩
    · cases h
  · cases h
theorem s_par : ∀ D σ H, DS G (mPar i j mr) D σ H → tPar i j (DA G mr) D σ H := fun D σ H ⟨ρ, A, s, r, cf, h, p⟩ => by
  obtain ⟨xs, A1, h1, h⟩ := bnd_some h
  refine ⟨ρ, A, s, xs, A1, cf, h1, fun ρ' H' us e' R' r' => ?_⟩
  split at h
  · cases h
    cases r' with
    | cons r1 r2 =>
    obtain ⟨u2, rfl, r3⟩ := one_of r2
    exact ⟨_, _, rfl, p ρ' H' e' R' _ (((cf.st.ext e').set r1).set r3)⟩
  · cases h
theorem putV_ok {vs ws : List AV} {us : List V} {v : AV} {u : V} {ns : List Str} (hn : ns.Nodup) (hf : ns[i]? = some f) (r : RVs G ρ n H vs us) (rv : RV G ρ n H v u) (h : putV vs i v = some ws) :
    ∃ us', putF f u (ns.zip us) = ns.zip us' ∧ RVs G ρ n H ws us' ∧ (vs.length ≤ ns.length → ws.length ≤ ns.length) := by
  unfold putV at h
  rcases cond_some h with ⟨h1, h⟩ | ⟨h1, h⟩
  · cases h
    refine ⟨us.set i u, zip_put hn hf (by rw [← r.length]; exact blt_lt h1), r.set i rv, fun q => by rw [List.length_set]; exact q⟩
  · obtain ⟨h2, h⟩ := cond_yes h
    cases h
    have e : i = vs.length := Nat.eq_of_beq_eq_true h2
    have e2 : us.length = i := by rw [← r.length, e]
    refine ⟨us ++ [u], zip_add hn (by rw [e2]; exact hf), r.append (.one rv), fun q => ?_⟩
    have l := (List.getElem?_eq_some_iff.mp hf).1
    rw [List.length_append, List.length_singleton]
    omega
theorem zip_len {ns : List Str} {us : List V} (h : ns.length ≤ 100) : (ns.zip us).length < 1000 := by
  rw [List.length_zip]
  omega
/-- an instance's field is stored -/
theorem set_ins {a : Nat} {vs ws : List AV} {dx : Addr} {us' : List V} {D : Ends} {s : SA} {σ : St} (L : Cl G c) (R : Rel G ρ A H) (hs : RSt G ρ A.n H s σ) (g : A.get a = some (.ins c vs)) (r : RVs G ρ A.n H ws us') (hl : ws.length ≤ (fieldN c).length)
    (p : Post G ρ A H D (.nx, s, A.set a (.ins c ws))) : D.nx σ (upd H (ρ a) (.ins (G.ca c) dx ((fieldN c).zip us'))) := by
  have e : Ext G ρ A H ρ (A.set a (.ins c ws)) (upd H (ρ a) (.ins (G.ca c) dx ((fieldN c).zip us'))) := Ext.set R g
  exact p ρ _ e (R.set g ⟨dx, us', upd_same, r.ext e, hl⟩) σ (hs.ext e)
theorem s_setF (L : Cl G c) (hf : (fieldN c)[i]? = some f) : ∀ D σ H, DS G (mSetF mo c i me) D σ H → sFld G.K (DE G mo) (DE G me) f D σ H := fun D σ H ⟨ρ, A, s, r, cf, h, p⟩ => by
  obtain ⟨v, A1, h1, h⟩ := bnd_some h
  obtain ⟨x, A2, h2, h⟩ := bnd_some h
  refine ⟨ρ, A, s, v, A1, cf, h1, fun ρ1 H1 u e1 R1 r1 => ⟨ρ1, A1, s, x, A2, cf.ext e1 R1, h2, fun ρ2 H2 w e2 R2 r2 => ?_⟩⟩
  split at h
  · split at h
    · rename_i a d vs ha
      obtain ⟨hd, h5⟩ := cond_yes h
      clear h
      have hd := Nat.eq_of_beq_eq_true hd
      subst hd
      split at h5
      · rename_i ws hw
        cases h5
        cases r2
        obtain ⟨dx, us, e3, r3, hl⟩ := ins_of R2 ha
        obtain ⟨us', e4, r4, hl2⟩ := putV_ok L.nd hf r3 (r1.ext e2) hw
        refine ⟨_, _, dx, _, rfl, e3, L.cl, L.na f (List.mem_of_getElem? hf), zip_len L.le, ?_⟩
        rw [e4]
        exact set_ins L R2 (cf.st.ext (e1.trans e2)) ha r4 (hl2 hl) (p.ext (e1.trans e2))
      · cases h5
    · cases h
  · cases h
theorem s_augF {rd : R2} {ff : AV → AV → AH → Option (AV × AH)} (hs : OS G rd ff) (L : Cl G c) (hf : (fieldN c)[i]? = some f) : ∀ D σ H, DS G (mAugF ff mo c i me) D σ H → sFldAug G.K (DE G mo) (DE G me) rd f D σ H := fun D σ H ⟨ρ, A, s, r, cf, h, p⟩ => by
  obtain ⟨x, A1, h1, h⟩ := bnd_some h
  refine ⟨ρ, A, s, x, A1, cf, h1, fun ρ1 H1 u e1 R1 r1 => ?_⟩
  split at h
  · split at h
    · rename_i a d vs ha
      obtain ⟨hd, h5⟩ := cond_yes h
      clear h
      have hd := Nat.eq_of_beq_eq_true hd
      subst hd
      split at h5
      · rename_i v hv
        obtain ⟨w, A2, h2, h6⟩ := bnd_some h5
        obtain ⟨z, A3, h3, h7⟩ := bnd_some h6
        cases r1 with
        | ref hlt =>
        obtain ⟨dx, us, e3, r3, hl⟩ := ins_of R1 ha
        obtain ⟨uv, e4, r4⟩ := r3.get hv
        refine ⟨_, _, dx, _, uv, rfl, e3, L.cl, L.na f (List.mem_of_getElem? hf), zip_look L.nd hf e4, ρ1, A1, s, w, A2, cf.ext e1 R1, h2, fun ρ2 H2 uw e5 R2 r5 => hs ρ2 A2 H2 v w uv uw z A3 _ R2 (r4.ext e5) r5 h3 fun ρ3 H3 uz e6 R3 r6 => ?_⟩
        split at h7
        · rename_i d3 ws hw
          obtain ⟨hd3, h8⟩ := cond_yes h7
          have hd3 := Nat.eq_of_beq_eq_true hd3
          subst hd3
          split at h8
          · rename_i ys hy
            cases h8
            obtain ⟨dx2, us2, e7, r7, hl2⟩ := ins_of R3 hw
            obtain ⟨us', e8, r8, hl3⟩ := putV_ok L.nd hf r7 r6 hy
            have e9 := (e5.trans e6).ag _ hlt
            refine ⟨dx2, _, by rw [← e9]; exact e7, zip_len L.le, ?_⟩
            rw [e8, ← e9]
            exact set_ins L R3 (cf.st.ext ((e1.trans e5).trans e6)) hw r8 (hl3 hl2) (p.ext ((e1.trans e5).trans e6))
          · cases h8
        · cases h7
      · cases h5
    · cases h
  · cases h
theorem s_aug {g : Int → Int → Int} {ff : AV → AV → AH → Option (AV × AH)} (hs : OS G (rI0 fun i j => .int (g i j)) ff) : ∀ D σ H, DS G (mAug ff i me) D σ H → tAug i (DE G me) (ipI g) D σ H := fun D σ H ⟨ρ, A, s, r, cf, h, p⟩ => by
  unfold mAug at h
  split at h
  · rename_i v hv
    obtain ⟨w, A1, h1, h⟩ := bnd_some h
    obtain ⟨z, A2, h2, h⟩ := bnd_some h
    cases h
    obtain ⟨uv, e1, r1⟩ := cf.st.at_ i v hv
    exact ⟨uv, e1, ρ, A, s, w, A1, cf, h1, fun ρ1 H1 uw e2 R1 r2 => hs ρ1 A1 H1 v w uv uw z A2 _ R1 (r1.ext e2) r2 h2 fun ρ3 H3 uz e3 R3 r3 => p ρ3 H3 (e2.trans e3) R3 _ ((cf.st.ext (e2.trans e3)).set r3)⟩
  · cases h
/-! ### stores to items -/
theorem s_dput : ∀ D σ H, DS G (mDPut md mk me) D σ H → sDPut (DE G md) (DE G mk) (DE G me) D σ H := fun D σ H ⟨ρ, A, s, r, cf, h, p⟩ => by
  obtain ⟨v, A1, h1, h⟩ := bnd_some h
  obtain ⟨x, A2, h2, h⟩ := bnd_some h
  obtain ⟨y, A3, h3, h⟩ := bnd_some h
  refine ⟨ρ, A, s, v, A1, cf, h1, fun ρ1 H1 u e1 R1 r1 => ⟨ρ1, A1, s, x, A2, cf.ext e1 R1, h2, fun ρ2 H2 w e2 R2 r2 => ⟨ρ2, A2, s, y, A3, (cf.ext e1 R1).ext e2 R2, h3, fun ρ3 H3 q e3 R3 r3 => ?_⟩⟩⟩
  have E := (e1.trans e2).trans e3
  have r1' := r1.ext (e2.trans e3)
  have r2' := r2.ext e3
  split at h
  · split at h
    · rename_i kvs hk
      split at h
      · rename_i k' he
        obtain ⟨hl, h⟩ := cond_yes h
        cases h
        cases r2'
        obtain ⟨ks, e4, r4⟩ := R3.ob _ _ hk
        rw [keyA_ok r3 he]
        refine ⟨_, _, rfl, DPut.k e4 (by rw [← pair_len r4]; exact line_le hl), ?_⟩
        have e5 : Ext G ρ3 A3 H3 ρ3 (A3.set _ (.dK (putA kvs k' v))) (upd H3 (ρ3 _) (.dK (putK ks (kd k') u))) := Ext.set R3 hk
        have r5 : RKs G ρ3 A3.n (upd H3 (ρ3 _) (.dK (putK ks (kd k') u))) kvs ks := paired_mono (fun _ _ z => ⟨z.1, z.2.ext e5⟩) r4
        exact p ρ3 _ (E.trans e5) (R3.set hk ⟨_, upd_same, putA_ok (r1'.ext e5) r5⟩) σ (cf.st.ext (E.trans e5))
      · cases h
    · rename_i kvs hk
      split at h
      · rename_i ts
        split at h
        · rename_i k' he
          obtain ⟨hl, h⟩ := cond_yes h
          cases h
          cases r2'
          obtain ⟨ks, e4, r4⟩ := R3.ob _ _ hk
          cases r3 with
          | tup s1 rr =>
          refine ⟨_, _, rfl, DPut.t (k := k'.map kd) e4 (by rw [s1, keysA_ok rr he]) (by rw [← pair_len r4]; exact line_le hl), ?_⟩
          have e5 : Ext G ρ3 A3 H3 ρ3 (A3.set _ (.dT (putT kvs k' v))) (upd H3 (ρ3 _) (.dT (putK ks (k'.map kd) u))) := Ext.set R3 hk
          have r5 : RTs G ρ3 A3.n (upd H3 (ρ3 _) (.dT (putK ks (k'.map kd) u))) kvs ks := paired_mono (fun _ _ z => ⟨z.1, z.2.ext e5⟩) r4
          exact p ρ3 _ (E.trans e5) (R3.set hk ⟨_, upd_same, putT_ok (r1'.ext e5) r5⟩) σ (cf.st.ext (E.trans e5))
        · cases h
      · cases h
    · cases h
  · cases h
theorem s_lput {mi : ME} : ∀ D σ H, DS G (mLPut mo mi me) D σ H → tAsg (DE G me) (gSub (DE G mo) (DE G mi) rSetL) D σ H := fun D σ H ⟨ρ, A, s, r, cf, h, p⟩ => by
  obtain ⟨v, A1, h1, h⟩ := bnd_some h
  obtain ⟨x, A2, h2, h⟩ := bnd_some h
  obtain ⟨y, A3, h3, h⟩ := bnd_some h
  refine ⟨ρ, A, s, v, A1, cf, h1, fun ρ1 H1 u e1 R1 r1 => ⟨ρ1, A1, s, x, A2, cf.ext e1 R1, h2, fun ρ2 H2 w e2 R2 r2 => ⟨ρ2, A2, s, y, A3, (cf.ext e1 R1).ext e2 R2, h3, fun ρ3 H3 q e3 R3 r3 => ?_⟩⟩⟩
  have E := (e1.trans e2).trans e3
  split at h
  · rename_i a xs kk hl
    obtain ⟨hz, h⟩ := cond_yes h
    cases h
    cases r3
    obtain ⟨_, hk, vs, rfl, e4, r4⟩ := lstOf_ok R3 (r2.ext e3) hl
    have hz := blt_lt hz
    refine ⟨_, vs, _, kk, rfl, rfl, e4, ?_, ?_⟩
    · unfold ixN
      rw [if_pos (by simp only [Int.ofNat_eq_natCast]; omega), if_pos (by rw [← r4.length]; simp only [Int.ofNat_eq_natCast]; omega)]
      rfl
    · have e5 : Ext G ρ3 A3 H3 ρ3 (A3.set _ (.lst (xs.set kk v))) (upd H3 (ρ3 _) (.lst (vs.set kk u))) := Ext.set R3 hk
      exact p ρ3 _ (E.trans e5) (R3.set hk ⟨_, upd_same, (r4.set kk (r1.ext (e2.trans e3))).ext e5⟩) σ (cf.st.ext (E.trans e5))
  · cases h
end
end Zg
set_option Elab.async false
set_option maxRecDepth 100000
set_option maxHeartbeats 4000000
set_option linter.all false
/-! ZS9: loops, comprehensions, a def. -/
namespace Zg
open PySem L2
section
variable {G : Gm} {ρ : Nat → Addr} {A : AH} {n : Nat} {H : Hp} {x y : AV} {u w : V}
variable {md mk me ma mb mo : ME} {mr : MA} {t : TA} {ta tb : MT} {c i j k : Nat} {f nm : Str} {m : MF} {sa sb : MS}
theorem s_while : ∀ D σ H, DS G (mWhile ta sb) D σ H → tWhile (DT G ta) (DS G sb) D σ H := fun D σ H ⟨ρ, A, s, r, cf, h, p⟩ => by
  refine ⟨fun m σ H => DS G (whileN ta sb m) D σ H, ⟨lots, ρ, A, s, r, cf, h, p⟩, ?_⟩
  rintro m σ H ⟨ρ, A, s, r, cf, h, p⟩
  cases m with
  | zero => cases h
  | succ m =>
    obtain ⟨b, A1, h1, h⟩ := bnd_some h
    refine ⟨ρ, A, s, b, A1, cf, h1, fun ρ1 H1 e1 R1 => ?_⟩
    cases b with
    | false =>
      rw [if_neg (by decide)]
      cases h
      exact p ρ1 H1 e1 R1 σ (cf.st.ext e1)
    | true =>
      rw [if_pos rfl]
      refine ⟨fun σ' H' => DS G (whileN ta sb m) D σ' H', fun σ' H' q => ⟨m, Nat.lt_succ_self m, q⟩, ?_⟩
      have h : (match sb s A1 with
        | some (.nx, s2, A2) => whileN ta sb m s2 A2
        | some (.ct, s2, A2) => whileN ta sb m s2 A2
        | some (.bk, s2, A2) => some (.nx, s2, A2)
        | r => r) = some r := h
      cases e : sb s A1 with
      | none =>
        rw [e] at h
        cases h
      | some q =>
        rw [e] at h
        obtain ⟨fl, s2, A2⟩ := q
        cases fl with
        | nx => exact ⟨ρ1, A1, s, _, cf.ext e1 R1, e, fun ρ2 H2 e2 R2 σ' hs => ⟨ρ2, A2, s2, r, ⟨hs, R2⟩, h, p.ext (e1.trans e2)⟩⟩
        | ct => exact ⟨ρ1, A1, s, _, cf.ext e1 R1, e, fun ρ2 H2 e2 R2 σ' hs => ⟨ρ2, A2, s2, r, ⟨hs, R2⟩, h, p.ext (e1.trans e2)⟩⟩
        | bk =>
          cases h
          exact ⟨ρ1, A1, s, _, cf.ext e1 R1, e, fun ρ2 H2 e2 R2 σ' hs => p ρ2 H2 (e1.trans e2) R2 σ' hs⟩
        | rt v =>
          cases h
          exact ⟨ρ1, A1, s, _, cf.ext e1 R1, e, fun ρ2 H2 e2 R2 u hu => p ρ2 H2 (e1.trans e2) R2 u hu⟩
/-! ### what is walked -/
structure NS (G : Gm) (J : It) (nx : Nx) (S : (Nat → Addr) → AH → Hp → Prop) : Prop where
  keep : ∀ {ρ A H ρ' A' H'}, S ρ A H → Ext G ρ A H ρ' A' H' → S ρ' A' H'
  stop : ∀ {ρ A H i}, S ρ A H → Rel G ρ A H → nx i A = some none → J.stop i H
  go : ∀ {ρ A H i v}, S ρ A H → Rel G ρ A H → nx i A = some (some v) → J.go i H
  yld : ∀ {ρ A H i v x H'}, S ρ A H → Rel G ρ A H → nx i A = some (some v) → J.yld i H x H' → Rel G ρ A H' ∧ Ext G ρ A H ρ A H' ∧ RV G ρ A.n H' v x
def Tg.sl : Tg → List Nat
  | .one i => [i]
  | .tup is => is
def GS (G : Gm) (g : Tg) (gT : TG) : Prop := ∀ (ρ : Nat → Addr) (A : AH) (H : Hp) (s : SA) (σ : St) (v : AV) (u : V) (s1 : SA) (Q : St → Hp → Prop), RSt G ρ A.n H s σ → RV G ρ A.n H v u → g.put v s = some s1 →
  (∀ σ1, RSt G ρ A.n H s1 σ1 → (∀ ws, (∀ i ∈ g.sl, i ∈ ws) → wipe σ1 ws = wipe σ ws) → Q σ1 H) → gT u σ H Q
theorem gs_one : GS G (.one i) (gName i) := fun ρ A H s σ v u s1 Q hs r h q => by
  cases h
  exact q _ (hs.set r) fun ws hw => wipe_set (hw i (List.mem_singleton_self i))
theorem gs_tup {is : List Nat} (hn : is.length = n) : GS G (.tup is) (gTup G.K n (gsOf is)) := fun ρ A H s σ v u s1 Q hs r h q => by
  cases r with
  | tup e1 r1 =>
    have h : putS is _ s = some s1 := h
    exact ⟨_, _, rfl, .of e1, by rw [← r1.length, putS_len h, hn], putS_ok hs r1 h q⟩
  | _ => cases h
theorem for_ok {J : It} {nx : Nx} {S : (Nat → Addr) → AH → Hp → Prop} {g : Tg} {gT : TG} {D : Ends} (N : NS G J nx S) (hg : GS G g gT) {ρ : Nat → Addr} {A : AH} {s : SA} {σ : St} {H : Hp} {r : Fl × SA × AH} {n : Nat}
    (cf : Cf G ρ A s σ H) (hS : S ρ A H) (h : forG nx g sb n 0 s A = some r) (p : Post G ρ A H D r) :
    ∃ W : Nat → Nat → St → Hp → Prop, (∃ m, W 0 m σ H) ∧ ∀ i m σ H, W i m σ H → (J.stop i H ∧ D.nx σ H) ∨ (J.go i H ∧ ∃ N : St → Hp → Prop, (∀ σ' H', N σ' H' → ∃ m', m' < m ∧ W (i + 1) m' σ' H') ∧ ∀ x H', J.yld i H x H' → gT x σ H' fun σ2 H2 => DS G sb { D with nx := N, ct := N, bk := D.nx } σ2 H2) := by
  refine ⟨fun i m σ H => ∃ ρ A s r, Cf G ρ A s σ H ∧ S ρ A H ∧ forG nx g sb m i s A = some r ∧ Post G ρ A H D r, ⟨n, ρ, A, s, r, cf, hS, h, p⟩, ?_⟩
  rintro i m σ H ⟨ρ, A, s, r, cf, hS, h, p⟩
  cases m with
  | zero => cases h
  | succ m =>
    have h : (match nx i A with
      | some (some v) => turnF g sb v (forG nx g sb m (i + 1)) s A
      | some none => some (.nx, s, A)
      | none => none) = some r := h
    split at h
    · rename_i v hv
      refine .inr ⟨N.go hS cf.rel hv, fun σ' H' => ∃ ρ A s r, Cf G ρ A s σ' H' ∧ S ρ A H' ∧ forG nx g sb m (i + 1) s A = some r ∧ Post G ρ A H' D r, fun σ' H' q => ⟨m, Nat.lt_succ_self m, q⟩, fun x H' hy => ?_⟩
      obtain ⟨R1, e1, r1⟩ := N.yld hS cf.rel hv hy
      unfold turnF at h
      split at h
      · rename_i s1 hs1
        refine hg ρ A H' s σ v x s1 _ (cf.st.ext e1) r1 hs1 fun σ1 q1 _ => ?_
        cases e : sb s1 A with
        | none =>
          rw [e] at h
          cases h
        | some q =>
          rw [e] at h
          obtain ⟨fl, s2, A2⟩ := q
          cases fl with
          | nx => exact ⟨ρ, A, s1, _, ⟨q1, R1⟩, e, fun ρ2 H2 e2 R2 σ' hs => ⟨ρ2, A2, s2, r, ⟨hs, R2⟩, N.keep (N.keep hS e1) e2, h, p.ext (e1.trans e2)⟩⟩
          | ct => exact ⟨ρ, A, s1, _, ⟨q1, R1⟩, e, fun ρ2 H2 e2 R2 σ' hs => ⟨ρ2, A2, s2, r, ⟨hs, R2⟩, N.keep (N.keep hS e1) e2, h, p.ext (e1.trans e2)⟩⟩
          | bk =>
            cases h
            exact ⟨ρ, A, s1, _, ⟨q1, R1⟩, e, fun ρ2 H2 e2 R2 σ' hs => p ρ2 H2 (e1.trans e2) R2 σ' hs⟩
          | rt v =>
            cases h
            exact ⟨ρ, A, s1, _, ⟨q1, R1⟩, e, fun ρ2 H2 e2 R2 u hu => p ρ2 H2 (e1.trans e2) R2 u hu⟩
      · cases h
    · rename_i hv
      cases h
      exact .inl ⟨N.stop hS cf.rel hv, p ρ H .refl cf.rel σ cf.st⟩
    · cases h
end
end Zg
set_option Elab.async false
set_option maxRecDepth 100000
set_option maxHeartbeats 4000000
set_option linter.all false
/-! ZEnum: for a, b in enumerate(t), t a tuple. -/
namespace ZgE
open PySem PySem.Spec PyProof.Rows L2
theorem meetE {v : Value} {ob : Obj} {H : Heap → Prop} (B : Begins v ob H) :
    Meets (Builtin.«enumerate.__new__» ⟨[.type "enumerate", v], []⟩) (fun _ R z => H z.heap ∧
      R (.ok (.ret (.ref (z.heap.push ob).objs.size))) { z with heap := ((z.heap.push ob).push ⟨.type "enumerate", none, .fields #[.none, .bool false, .ref z.heap.objs.size, rawInt 0, .none, .none], #[]⟩) }) := by
  refine .of_wp fun prog w A R s hh => ?_
  obtain ⟨hp, g, d, tk, os⟩ := s
  obtain ⟨h1, h2⟩ := hh
  have hs := sub_enumerate
  have it : ∀ {A' : Around} {E Q : Value → Shared → Prop}, Q (.ref hp.objs.size) ⟨hp.push ob, g, d, tk, os⟩ → wpAny (model prog w) A' (pyIter v) Q E ⟨hp, g, d, tk, os⟩ := fun q => B.iter prog w _ _ _ _ h1 q
  wp_walk
  refine wpAny_stack_any fun st => wpAny_pure ?_
  split
  · rename_i c _ _ _ _ _
    cases (c == Value.type "enumerate") <;> (wp_walk using it) <;> exact ⟨_, rfl, h2⟩
  · wp_walk using it
    exact ⟨_, rfl, h2⟩
section
variable {prog : Program} {w : World} {A : Around} {E : Value → Shared → Prop} {s : Shared}
theorem callE {l : Addr} {its : Array Value} {Q : Value → Shared → Prop} (ht : s.heap.IsTuple l its)
    (h : ∀ h' : Heap, IsEnum h' (s.heap.objs.size + 1) s.heap.objs.size 0 .none → h'.IsTupleIter s.heap.objs.size l 0 → (∀ b o, s.heap.get? b = some o → h'.get? b = some o) →
      Q (.ref (s.heap.objs.size + 1)) { s with heap := h' }) : wpAny (model prog w) A (call (.type "enumerate") [.ref l]) Q E s := by
  refine callType_new F.called_enumerate (by decide) (F.typeCall_enumerate_1 _) (F.newCall_enumerate_1 _) (fun ob => F.args_object_init_2 ob _) F.entry_enumerate_new (meetE (begins_tuple l its)) ⟨ht, ?_⟩
  generalize ho : ({ cls := .type "tuple_iterator", data := .fields #[.ref l, .int 0 0] } : Obj) = oi
  have fr : oi.isFreed = false := by rw [← ho]; rfl
  have hz : (s.heap.push oi).objs.size = s.heap.objs.size + 1 := Heap.size_push ..
  have e1 := Heap.get?_push_size (s.heap.push oi) (o := ⟨.type "enumerate", none, .fields #[.none, .bool false, .ref s.heap.objs.size, rawInt 0, .none, .none], #[]⟩) rfl
  rw [hz] at e1
  have e2 : (s.heap.push oi).get? s.heap.objs.size = some oi := Heap.get?_push_size _ fr
  show _ ∧ _
  rw [hz]
  refine ⟨⟨_, e1, rfl⟩, h _ e1 ⟨oi, Heap.get?_push_of_some _ e2, by rw [← ho], by rw [← ho]; rfl⟩ fun b u q => Heap.get?_push_of_some _ (Heap.get?_push_of_some _ q)⟩
end
/-- a tuple's items with their places, in new pairs -/
def It2 (K : PySem.W.Frag) (a : Addr) : It where
  go := fun i H => ∃ xs x, SqT K H a xs ∧ xs[i]? = some x
  yld := fun i H v H' => ∃ T x, v = .ref T ∧ H T = none ∧ H' = upd H T (.tup [.int (i : Nat), x]) ∧ ∀ xs, SqT K H a xs → xs[i]? = some x
  stop := fun i H => ∃ xs, SqT K H a xs ∧ xs.length ≤ i
theorem turn2 {P : Program} {w : World} {K : PySem.W.Frag} {elts : List Expr} {kk : Nat} {tpos : Pos} (a e it : Addr) :
    Turn P w K (.Tuple elts kk tpos) (It2 K a) [e, it] e (fun i h => (∃ old, IsEnum h e it ((i : Nat) : Int) old) ∧ h.IsTupleIter it a i ∧ e ≠ it) where
  mem := List.mem_cons_self ..
  obj := by
    rintro i h ⟨⟨old, he⟩, ⟨o, ho, hc, hd⟩, _⟩ b hb
    rcases List.mem_cons.mp hb with rfl | hb
    · exact ⟨_, he, fun v q => nomatch q⟩
    · rw [List.mem_singleton.mp hb]
      exact ⟨o, ho, fun v q => by rw [hd] at q; cases q⟩
  keep := by
    rintro i h h' ⟨⟨old, he⟩, hi, hne⟩ k
    exact ⟨⟨old, k e (List.mem_cons_self ..) _ he⟩, hi.at (fun o q => k it (by simp) o q), hne⟩
  item := by
    rintro X rfl rfl rfl hc i pins s σ H E I hf ⟨⟨old, he⟩, hit, hne⟩ ⟨xs, x, hq, hx⟩
    obtain ⟨its, rv, tp, _⟩ := I.tuple hq
    obtain ⟨u, hu, ru⟩ := rv.get hx
    have lt1 : e < s.heap.objs.size := Heap.lt_size he
    have lt2 : it < s.heap.objs.size := by
      obtain ⟨_, q, _⟩ := hit
      exact Heap.lt_size q
    obtain ⟨ot, ht, hct, _⟩ := id tp
    have na : a ≠ it := fun z => by
      obtain ⟨o, q, c, _⟩ := hit
      rw [z, q] at ht
      cases ht
      rw [c] at hct
      exact absurd hct (by decide)
    have nb : e ≠ a := fun z => by
      rw [← z, show s.heap.get? e = some _ from he] at ht
      cases ht
      have q : Value.type "enumerate" = Value.type "tuple" := hct
      exact absurd q (by decide)
    have hu2 : its.toArray[i]? = some u := by simpa using hu
    have hlt : i < its.toArray.size := (Array.getElem?_eq_some_iff.mp hu2).1
    refine wpAny_pyNext_enum_itemD (Draws.tuple (prog := X.prog) (w := X.w) (A := X.A.in1) (I.ok.hd hc) it a na its.toArray) he ⟨hit, tp⟩ hlt hne (by simp [hne, nb]) fun z h' tk hz out st' hT _ hk => ?_
    rw [hu2] at hz
    cases hz
    refine ⟨_, rfl, wpAny_letOwnedTupleGo_enum (s := { s with heap := h', toks := tk + 1 }) out fun h2 he2 sb => ?_⟩
    have hT2 := (sb.2 _ (Nat.ne_of_gt lt1)).trans hT
    have ok : ObjOk X.prog X.w (upd H s.heap.objs.size (.tup [.int (i : Nat), x])) h2 s.heap.objs.size (.tup [.int (i : Nat), x]) :=
      ⟨by show 2 ≤ sizeLine; decide, [.int i tk, u], .cons ⟨_, rfl⟩ (.cons ru .nil), ⟨_, hT2, rfl, _, rfl⟩⟩
    have I2 : Inv X pins σ (upd H s.heap.objs.size (.tup [.int (i : Nat), x])) { s with heap := h2, toks := tk + 1 } :=
      I.turnedNew (ch := [e, it]) (fun b ob hb q => by
        have n1 : b ≠ e := fun y => hb (by simp [y])
        have n2 : b ≠ it := fun y => hb (by simp [y])
        exact (sb.2 b n1).trans (hk b ob n1 n2 q)) hf (Nat.le_refl _) ok
    refine ⟨.ref s.heap.objs.size, _, I2, rfl, ⟨_, x, rfl, I.fresh, rfl, fun ys hy => by rw [I.tuple_inj hy hq]; exact hx⟩, ⟨⟨u, ?_⟩, st'.1.at fun o q => (sb.2 it hne.symm).trans q, hne⟩, fun b hb => ?_⟩
    · have e1 : ((i + 1 : Nat) : Int) = (i : Int) + 1 := by omega
      rw [e1]
      exact he2
    · have lt : b < s.heap.objs.size := by
        rcases List.mem_cons.mp hb with rfl | hb
        · exact lt1
        · rw [List.mem_singleton.mp hb]
          exact lt2
      rw [upd_ne (Nat.ne_of_lt lt)]
      exact (hf b hb).1
  done := by
    rintro X rfl rfl rfl hc i pins s σ H E I hf ⟨⟨old, he⟩, hit, hne⟩ ⟨xs, hq, hx⟩
    obtain ⟨its, rv, tp, _⟩ := I.tuple hq
    obtain ⟨f0, f1, f2, f3, f4, f5⟩ := hf it (by simp)
    have hl := rv.length
    have D : Draws X.prog X.w X.A.in1 it [it, a] i (fun _ _ => True) (fun j h => j = i ∧ h.IsTupleIter it a j ∧ h.IsTuple a its.toArray) := {
      live := fun _ _ st => let ⟨_, ⟨o, ho, _⟩, _⟩ := st; ⟨o, ho⟩
      frame := fun _ _ _ st hk => ⟨st.1, st.2.1.at fun o q => hk it (by simp) o q, st.2.2.at fun o q => hk a (by simp) o q⟩
      item := fun j s Q E hj st _ => absurd hj (by omega)
      done := fun s Q E st hE => wpAny_nextOf_tuple_end (I.ok.hd hc) st.2.1 st.2.2 (by simp; omega) hE }
    refine wpAny_pyNext_enum_endD D he ⟨rfl, hit, tp⟩ fun h' eb => ⟨rfl, ?_⟩
    exact I.turned (t' := s.toks) (fun b o hb q => eb b o hb q) f0 f1 f3 f4 f5
  self := by
    rintro A i s Q E ⟨⟨_, he⟩, _⟩ h
    exact wpAny_pyIter_enum he h
def iEn2 (K : PySem.W.Frag) (ta : TA) : TI := fun σ H R => ta σ H fun vs H1 => ∃ a, vs = [.ref a] ∧ (∃ xs, SqT K H1 a xs) ∧ R (It2 K a) H1
theorem pi_en2 {X : Cx} {e : Expr} {ta : TA} {p pos tpos : Pos} {elts : List Expr} {kk : Nat} (hg : Gl X "enumerate") (hm : X.mg "enumerate" = none) (ha : PA X [e] ta) (hs : starEach [e] X.env = [(false, eval e X.env)] := by rfl) :
    PI X (.Tuple elts kk tpos) (.Call (.Name "enumerate" p) [e] [] pos) (iEn2 X.K ta) := by
  refine ⟨fun pins s σ H R I h => Call_ (ld_blt I hg hm boot_enumerate (PyProof.Rows.callWith_type1 (thn (ha.run pos pins s σ H _ I h) ?_) hs rfl))⟩
  rintro us s1 ⟨vs, H1, I1, r1, a, rfl, ⟨xs, hq⟩, q⟩
  obtain ⟨u, rfl, ru⟩ := vals1 r1
  cases ru
  obtain ⟨its, rv, tp, _⟩ := I1.tuple hq
  refine callE tp fun h' he hit hk => wpAny_pyIter_enum he ?_
  refine ⟨s1.heap.objs.size + 1, [s1.heap.objs.size + 1, s1.heap.objs.size], _, _, H1, rfl, I1.kept (t' := s1.toks) hk, turn2 a _ s1.heap.objs.size, ⟨⟨.none, he⟩, hit, Nat.succ_ne_self _⟩, fun b hb => ?_, q⟩
  have le : s1.heap.objs.size ≤ b := by
    rcases List.mem_cons.mp hb with rfl | hb
    · exact Nat.le_succ _
    · rw [List.mem_singleton.mp hb]
      exact Nat.le_refl _
  exact I1.fpOk le (I1.hok.fresh le)
end ZgE
set_option Elab.async false
set_option maxRecDepth 100000
set_option maxHeartbeats 4000000
set_option linter.all false
/-! ZS10: the things walked, the loops. -/
namespace Zg
open PySem L2
section
variable {G : Gm} {ρ : Nat → Addr} {A : AH} {n : Nat} {H : Hp} {x y : AV} {u w : V}
variable {md mk me ma mb mo : ME} {mr : MA} {t : TA} {ta tb : MT} {c i j k : Nat} {f nm : Str} {m : MF} {sa sb : MS} {g : Tg} {gT : TG}
theorem some_some {α : Type} {o : Option α} {x : α} (h : some o = some (some x)) : o = some x := Option.some.inj h
theorem ns_tup {ts : List AV} {a : Addr} {vs : List V} : NS G (Itt G.K a) (nxV ts) (fun ρ A H => H a = some (.tup vs) ∧ RVs G ρ A.n H ts vs) where
  keep := fun h e => ⟨e.tu _ _ h.1, h.2.ext e⟩
  stop := fun h _ e => ⟨_, .of h.1, by rw [← h.2.length]; exact List.getElem?_eq_none_iff.mp (Option.some.inj e)⟩
  go := fun h _ e => let ⟨x, hx, _⟩ := h.2.get (some_some e); ⟨_, x, .of h.1, hx⟩
  yld := fun h R e q => by
    obtain ⟨rfl, q⟩ := q
    obtain ⟨x, hx, rx⟩ := h.2.get (some_some e)
    have := q _ (.of h.1)
    rw [hx] at this
    cases this
    exact ⟨R, .refl, rx⟩
theorem pair_ok {T : Addr} {v : AV} {u : V} (R : Rel G ρ A H) (hT : H T = none) (r : RV G ρ A.n H v u) :
    Rel G ρ A (upd H T (.tup [.int (i : Nat), u])) ∧ Ext G ρ A H ρ A (upd H T (.tup [.int (i : Nat), u])) ∧ RV G ρ A.n (upd H T (.tup [.int (i : Nat), u])) (.tup [.int (Int.ofNat i), v]) (.ref T) :=
  ⟨R.track hT, .track R hT, .tup upd_same (.cons (.int _) (.one (r.ext (.track R hT))))⟩
theorem enum_get {o : Option AV} {v : AV} (h : some (enumA i o) = some (some v)) : ∃ x, o = some x ∧ v = .tup [.int (Int.ofNat i), x] := by
  cases o with
  | none => cases h
  | some x =>
    cases h
    exact ⟨x, rfl, rfl⟩
theorem enum_none {o : Option AV} (h : some (enumA i o) = some none) : o = none := by
  cases o with
  | none => rfl
  | some x => cases h
theorem ns_en2 {ts : List AV} {a : Addr} {vs : List V} (hs : ∀ H0, SqT G.K H0 a vs) : NS G (ZgE.It2 G.K a) (nxEV ts) (fun ρ A H => RVs G ρ A.n H ts vs) where
  keep := fun h e => h.ext e
  stop := fun h _ e => ⟨_, hs _, by rw [← h.length]; exact List.getElem?_eq_none_iff.mp (enum_none e)⟩
  go := fun h _ e => by
    obtain ⟨v, hv, _⟩ := enum_get e
    obtain ⟨x, hx, _⟩ := h.get hv
    exact ⟨_, x, hs _, hx⟩
  yld := fun h R e q => by
    obtain ⟨v, hv, rfl⟩ := enum_get e
    obtain ⟨T, z, rfl, hT, rfl, q⟩ := q
    obtain ⟨x, hx, rx⟩ := h.get hv
    have := q _ (hs _)
    rw [hx] at this
    cases this
    exact pair_ok R hT rx
theorem ns_en1 {ts : List AV} {a : Addr} {vs : List V} : NS G (ZgE.It2 G.K a) (nxEV ts) (fun ρ A H => H a = some (.tup vs) ∧ RVs G ρ A.n H ts vs) where
  keep := fun h e => ⟨e.tu _ _ h.1, h.2.ext e⟩
  stop := fun h _ e => ⟨_, .of h.1, by rw [← h.2.length]; exact List.getElem?_eq_none_iff.mp (enum_none e)⟩
  go := fun h _ e => by
    obtain ⟨v, hv, _⟩ := enum_get e
    obtain ⟨x, hx, _⟩ := h.2.get hv
    exact ⟨_, x, .of h.1, hx⟩
  yld := fun h R e q => by
    obtain ⟨v, hv, rfl⟩ := enum_get e
    obtain ⟨T, z, rfl, hT, rfl, q⟩ := q
    obtain ⟨x, hx, rx⟩ := h.2.get hv
    have := q _ (.of h.1)
    rw [hx] at this
    cases this
    exact pair_ok R hT rx
theorem nxL_some {a : Nat} {v : Option AV} (R : Rel G ρ A H) (h : nxL a i A = some v) : ∃ xs vs, v = xs[i]? ∧ H (ρ a) = some (.lst vs) ∧ RVs G ρ A.n H xs vs := by
  unfold nxL at h
  split at h
  · rename_i xs e
    cases h
    obtain ⟨vs, e1, r⟩ := R.ob _ _ e
    exact ⟨xs, vs, rfl, e1, r⟩
  · cases h
theorem ns_lst {a : Nat} {L : Addr} : NS G (Itl G.K L) (nxL a) (fun ρ A H => a < A.n ∧ ρ a = L) where
  keep := fun h e => ⟨Nat.lt_of_lt_of_le h.1 e.le, (e.ag _ h.1).trans h.2⟩
  stop := fun h R e => by
    obtain ⟨xs, vs, e1, e2, r⟩ := nxL_some R e
    rw [h.2] at e2
    exact ⟨_, .of e2, by rw [← r.length]; exact List.getElem?_eq_none_iff.mp e1.symm⟩
  go := fun h R e => by
    obtain ⟨xs, vs, e1, e2, r⟩ := nxL_some R e
    rw [h.2] at e2
    obtain ⟨x, hx, _⟩ := r.get e1.symm
    exact ⟨_, x, .of e2, hx⟩
  yld := fun h R e q => by
    obtain ⟨rfl, q⟩ := q
    obtain ⟨xs, vs, e1, e2, r⟩ := nxL_some R e
    rw [h.2] at e2
    obtain ⟨x, hx, rx⟩ := r.get e1.symm
    have := q _ (.of e2)
    rw [hx] at this
    cases this
    exact ⟨R, .refl, rx⟩
theorem nxEL_some {a : Nat} {v : Option AV} (R : Rel G ρ A H) (h : nxEL a i A = some v) : ∃ xs vs, v = enumA i xs[i]? ∧ H (ρ a) = some (.lst vs) ∧ RVs G ρ A.n H xs vs := by
  unfold nxEL at h
  split at h
  · rename_i xs e
    cases h
    obtain ⟨vs, e1, r⟩ := R.ob _ _ e
    exact ⟨xs, vs, rfl, e1, r⟩
  · cases h
theorem ns_enl {a : Nat} {L : Addr} : NS G (Ite G.K L) (nxEL a) (fun ρ A H => a < A.n ∧ ρ a = L) where
  keep := fun h e => ⟨Nat.lt_of_lt_of_le h.1 e.le, (e.ag _ h.1).trans h.2⟩
  stop := fun h R e => by
    obtain ⟨xs, vs, e1, e2, r⟩ := nxEL_some R e
    rw [h.2] at e2
    exact ⟨_, .of e2, by rw [← r.length]; exact List.getElem?_eq_none_iff.mp (enum_none (congrArg some e1.symm))⟩
  go := fun h R e => by
    obtain ⟨xs, vs, e1, e2, r⟩ := nxEL_some R e
    rw [h.2] at e2
    obtain ⟨v, hv, _⟩ := enum_get (congrArg some e1.symm)
    obtain ⟨x, hx, _⟩ := r.get hv
    exact ⟨_, x, .of e2, hx⟩
  yld := fun h R e q => by
    obtain ⟨xs, vs, e1, e2, r⟩ := nxEL_some R e
    rw [h.2] at e2
    obtain ⟨v, hv, rfl⟩ := enum_get (congrArg some e1.symm)
    obtain ⟨T, z, rfl, hT, rfl, q⟩ := q
    obtain ⟨x, hx, rx⟩ := r.get hv
    have := q _ (.of e2)
    rw [hx] at this
    cases this
    exact pair_ok R hT rx
theorem nxR_some {lo c : Int} {v : Option AV} (h : nxR lo c n i A = some v) : (i < n ∧ v = some (.int (lo + Int.ofNat i * c))) ∨ (n ≤ i ∧ v = none) := by
  unfold nxR at h
  cases e : i.blt n with
  | true =>
    rw [e] at h
    exact .inl ⟨Nat.blt_eq.mp e, (Option.some.inj h).symm⟩
  | false =>
    rw [e] at h
    exact .inr ⟨Nat.not_lt.mp fun z => Bool.false_ne_true (e.symm.trans (Nat.blt_eq.mpr z)), (Option.some.inj h).symm⟩
theorem ns_rng1 : NS G (Itr 0 n) (nxR 0 1 n) (fun _ _ _ => True) where
  keep := fun _ _ => trivial
  stop := fun _ _ e => by
    rcases nxR_some e with ⟨_, z⟩ | ⟨z, _⟩
    · cases z
    · exact z
  go := fun _ _ e => by
    rcases nxR_some e with ⟨z, _⟩ | ⟨_, z⟩
    · exact z
    · cases z
  yld := fun {ρ A H i v x H'} _ R e q => by
    obtain ⟨rfl, rfl⟩ := q
    rcases nxR_some e with ⟨_, z⟩ | ⟨_, z⟩
    · cases z
      refine ⟨R, .refl, ?_⟩
      have : (0 : Int) + Int.ofNat i * 1 = 0 + (i : Int) := by
        rw [Int.mul_one]
        rfl
      rw [this]
      exact .int _
    · cases z
theorem ns_rngC {lo c : Int} : NS G (Itc lo c n) (nxR lo c n) (fun _ _ _ => True) where
  keep := fun _ _ => trivial
  stop := fun _ _ e => by
    rcases nxR_some e with ⟨_, z⟩ | ⟨z, _⟩
    · cases z
    · exact z
  go := fun _ _ e => by
    rcases nxR_some e with ⟨z, _⟩ | ⟨_, z⟩
    · exact z
    · cases z
  yld := fun {ρ A H i v x H'} _ R e q => by
    obtain ⟨rfl, rfl⟩ := q
    rcases nxR_some e with ⟨_, z⟩ | ⟨_, z⟩
    · cases z
      exact ⟨R, .refl, .int _⟩
    · cases z
theorem rks_get : ∀ {kvs : List (AKey × AV)} {ks : List (Key × V)} {i : Nat} {v : AV}, RKs G ρ n H kvs ks → (kvs.map fun q => kavA q.1)[i]? = some v → ∃ k z, ks[i]? = some (k, z) ∧ i < ks.length ∧ ∀ ρ n H, RV G ρ n H v (kV k)
  | _, _, i, v, .nil, h => by simp at h
  | (k0, v0) :: _, (k1, v1) :: _, 0, v, .cons r _, h => by
    simp at h
    subst h
    obtain ⟨r1, _⟩ := r
    cases r1
    refine ⟨_, _, rfl, Nat.zero_lt_succ _, fun ρ n H => ?_⟩
    cases k0 with
    | inl i => exact .int i
    | inr c => exact .str c
  | _ :: _, _ :: _, i + 1, v, .cons _ s, h => by
    obtain ⟨k, z, e, l, q⟩ := rks_get (i := i) (v := v) s (by simpa using h)
    exact ⟨k, z, by simpa using e, Nat.succ_lt_succ l, q⟩
theorem ns_keys {d : Addr} {od : Obj} {kvs : List (AKey × AV)} {ks : List (Key × V)} (r : RKs G ρ n H kvs ks) : NS G (Itk d od ks) (nxV (kvs.map fun q => kavA q.1)) (fun ρ A H => H d = some (.frz od (.dK ks)) ∧ ¬ Img ρ A d) where
  keep := fun h e => e.fr _ _ h.1 h.2
  stop := fun h _ e => ⟨h.1, by
    have := List.getElem?_eq_none_iff.mp (Option.some.inj e)
    rw [List.length_map, pair_len r] at this
    exact this⟩
  go := fun h _ e => let ⟨_, _, _, l, _⟩ := rks_get r (some_some e); ⟨h.1, l⟩
  yld := fun h R e q => by
    obtain ⟨rfl, k, v, hk, rfl⟩ := q
    obtain ⟨k1, z, e1, _, q⟩ := rks_get r (some_some e)
    rw [hk] at e1
    cases e1
    exact ⟨R, .refl, q _ _ _⟩

/-! ### the loops -/
theorem s_forT (hg : GS G g gT) : ∀ D σ H, DS G (mForT me g sb) D σ H → tFor (iTup G.K (DE G me)) gT (DS G sb) D σ H := fun D σ H ⟨ρ, A, s, r, cf, h, p⟩ => by
  obtain ⟨x, A1, h1, h⟩ := bnd_some h
  refine ⟨ρ, A, s, x, A1, cf, h1, fun ρ1 H1 u e1 R1 r1 => ?_⟩
  cases r1 with
  | tup hs rs => exact ⟨_, rfl, ⟨_, .of hs⟩, for_ok ns_tup hg (cf.ext e1 R1) ⟨hs, rs⟩ h (p.ext e1)⟩
  | _ => cases h
theorem s_forL (hg : GS G g gT) : ∀ D σ H, DS G (mForL me g sb) D σ H → tFor (iList G.K (DE G me)) gT (DS G sb) D σ H := fun D σ H ⟨ρ, A, s, r, cf, h, p⟩ => by
  obtain ⟨x, A1, h1, h⟩ := bnd_some h
  refine ⟨ρ, A, s, x, A1, cf, h1, fun ρ1 H1 u e1 R1 r1 => ?_⟩
  cases r1 with
  | @ref a hi =>
    have h : forG (nxL a) g sb lots 0 s A1 = some r := h
    refine ⟨_, rfl, ?_, for_ok ns_lst hg (cf.ext e1 R1) ⟨hi, rfl⟩ h (p.ext e1)⟩
    have : ∃ v, nxL a 0 A1 = some v := by
      cases e : nxL a 0 A1 with
      | none =>
        unfold lots at h
        unfold forG at h
        rw [e] at h
        cases h
      | some v => exact ⟨v, rfl⟩
    obtain ⟨v, hv⟩ := this
    obtain ⟨xs, vs, _, e2, _⟩ := nxL_some R1 hv
    exact ⟨vs, .of e2⟩
  | _ => cases h
theorem one_arg {s : SA} {A A1 : AH} {x : AV} (h : me s A = some (x, A1)) : mCons me mNil s A = some ([x], A1) := by
  unfold mCons
  rw [h]
  rfl
theorem s_forE (hg : GS G g gT) : ∀ D σ H, DS G (mForE me g sb) D σ H → tFor (ZgE.iEn2 G.K (DA G (mCons me mNil))) gT (DS G sb) D σ H := fun D σ H ⟨ρ, A, s, r, cf, h, p⟩ => by
  obtain ⟨x, A1, h1, h⟩ := bnd_some h
  refine ⟨ρ, A, s, [x], A1, cf, one_arg h1, fun ρ1 H1 us e1 R1 r1 => ?_⟩
  obtain ⟨u, rfl, r2⟩ := one_of r1
  cases r2 with
  | ktup hs rs => exact ⟨_, rfl, ⟨_, hs _⟩, for_ok (ns_en2 hs) hg (cf.ext e1 R1) rs h (p.ext e1)⟩
  | _ => cases h
theorem s_forEL (hg : GS G g gT) : ∀ D σ H, DS G (mForEL me g sb) D σ H → tFor (iEnum G.K (DA G (mCons me mNil))) gT (DS G sb) D σ H := fun D σ H ⟨ρ, A, s, r, cf, h, p⟩ => by
  obtain ⟨x, A1, h1, h⟩ := bnd_some h
  refine ⟨ρ, A, s, [x], A1, cf, one_arg h1, fun ρ1 H1 us e1 R1 r1 => ?_⟩
  obtain ⟨u, rfl, r2⟩ := one_of r1
  cases r2 with
  | @ref a hi =>
    have h : forG (nxEL a) g sb lots 0 s A1 = some r := h
    have : ∃ v, nxEL a 0 A1 = some v := by
      cases e : nxEL a 0 A1 with
      | none =>
        unfold lots at h
        unfold forG at h
        rw [e] at h
        cases h
      | some v => exact ⟨v, rfl⟩
    obtain ⟨v, hv⟩ := this
    obtain ⟨xs, vs, _, e2, _⟩ := nxEL_some R1 hv
    exact ⟨_, vs, rfl, .of e2, for_ok ns_enl hg (cf.ext e1 R1) ⟨hi, rfl⟩ h (p.ext e1)⟩
  | _ => cases h
theorem line62 {j : Int} (h : j.natAbs.blt line = true) : -(2 ^ 62) ≤ j ∧ j < 2 ^ 62 := by
  have h := Nat.blt_eq.mp h
  unfold line at h
  omega
theorem s_forR1 (hg : GS G g gT) : ∀ D σ H, DS G (mForR1 me g sb) D σ H → tFor (iRng1 (DA G (mCons me mNil))) gT (DS G sb) D σ H := fun D σ H ⟨ρ, A, s, r, cf, h, p⟩ => by
  obtain ⟨x, A1, h1, h⟩ := bnd_some h
  refine ⟨ρ, A, s, [x], A1, cf, one_arg h1, fun ρ1 H1 us e1 R1 r1 => ?_⟩
  obtain ⟨u, rfl, r2⟩ := one_of r1
  cases r2 with
  | int j =>
    obtain ⟨hz, h⟩ := cond_yes h
    exact ⟨j, rfl, (line62 hz).1, (line62 hz).2, for_ok ns_rng1 hg (cf.ext e1 R1) trivial h (p.ext e1)⟩
  | _ => cases h
theorem ieq_eq {a b : Int} (h : ieq a b = true) : a = b := by
  cases a with
  | ofNat a => cases b with
    | ofNat b => exact congrArg Int.ofNat (Nat.eq_of_beq_eq_true h)
    | negSucc b => cases h
  | negSucc a => cases b with
    | ofNat b => cases h
    | negSucc b => exact congrArg Int.negSucc (Nat.eq_of_beq_eq_true h)
theorem s_forR3 (hg : GS G g gT) : ∀ D σ H, DS G (mForR3 mr g sb) D σ H → tFor (iRng3 (DA G mr)) gT (DS G sb) D σ H := fun D σ H ⟨ρ, A, s, r, cf, h, p⟩ => by
  obtain ⟨xs, A1, h1, h⟩ := bnd_some h
  refine ⟨ρ, A, s, xs, A1, cf, h1, fun ρ1 H1 us e1 R1 r1 => ?_⟩
  split at h
  · rename_i i j c
    obtain ⟨hz0, hh⟩ := cond_yes h
    obtain ⟨hz1, h3⟩ := and_yes hz0
    obtain ⟨hc, h2⟩ := and_yes hz1
    cases r1 with
    | cons a1 r1 =>
    cases r1 with
    | cons a2 r1 =>
    obtain ⟨u3, rfl, a3⟩ := one_of r1
    cases a1
    cases a2
    cases a3
    have := ieq_eq hc
    subst this
    exact ⟨i, j, -1, (i - j).toNat, rfl, .neg (line62 h2).1 (line62 h2).2 (line62 h3).1 (line62 h3).2, for_ok ns_rngC hg (cf.ext e1 R1) trivial hh (p.ext e1)⟩
  · cases h
/-! ### a dict that is walked -/
theorem lock_ok {a : Nat} {od : Obj} {u : HO} {o : AO} (R : Rel G ρ A H) (g : A.get a = some o) (hu : H (ρ a) = some u) : Ext G ρ A H ρ (A.del a) (upd H (ρ a) (.frz od u)) ∧ Rel G ρ (A.del a) (upd H (ρ a) (.frz od u)) ∧ ¬ Img ρ (A.del a) (ρ a) := by
  obtain ⟨u1, e1, ht⟩ := (R.ob a o g).some
  have back : ∀ {m : Nat} {w : AO}, (A.del a).get m = some w → m ≠ a ∧ A.get m = some w := fun {m w} q => by
    by_cases h : m = a
    · rw [h, get_del] at q
      cases q
    · rw [get_del_ne h] at q
      exact ⟨h, q⟩
  have E : Ext G ρ A H ρ (A.del a) (upd H (ρ a) (.frz od u)) := ⟨fun _ _ => rfl, Nat.le_refl _, fun b v h k => ⟨by rw [upd_ne (fun z => k ⟨a, o, g, z.symm⟩)]; exact h, fun ⟨j, w, e2, e3⟩ => k ⟨j, w, (back e2).2, e3⟩⟩, sqt_upd (fun xs z => ht xs (Option.some.inj (e1.symm.trans z)))⟩
  refine ⟨E, ⟨fun j v e => R.lt j v (back e).2, fun j v e => (R.ob j v (back e).2).ext E (upd_ne fun z => (back e).1 (R.inj j a v o (back e).2 g z)), fun j k v w e2 e3 z => R.inj j k v w (back e2).2 (back e3).2 z⟩, fun ⟨j, w, e2, e3⟩ => (back e2).1 (R.inj j a w o (back e2).2 g e3)⟩
theorem unlock_ok {ρ2 : Nat → Addr} {A2 : AH} {H2 : Hp} {a : Nat} {od : Obj} {kvs : List (AKey × AV)} {ks : List (Key × V)} (R : Rel G ρ A H) (g : A.get a = some (.dK kvs)) (hu : H (ρ a) = some (.dK ks)) (rk : RKs G ρ A.n H kvs ks)
    (e : Ext G ρ (A.del a) (upd H (ρ a) (.frz od (.dK ks))) ρ2 A2 H2) (R2 : Rel G ρ2 A2 H2) :
    H2 (ρ a) = some (.frz od (.dK ks)) ∧ Ext G ρ A H ρ2 (A2.set a (.dK kvs)) (upd H2 (ρ a) (.dK ks)) ∧ Rel G ρ2 (A2.set a (.dK kvs)) (upd H2 (ρ a) (.dK ks)) := by
  obtain ⟨E1, R1, ni⟩ := lock_ok (od := od) R g hu
  obtain ⟨e2, ni2⟩ := e.fr _ _ upd_same ni
  have ha : ρ2 a = ρ a := e.ag a (R.lt a _ g)
  have tu2 : ∀ (b : Addr) (vs : List V), H2 b = some (.tup vs) → (upd H2 (ρ a) (.dK ks)) b = some (.tup vs) := sqt_upd fun xs z => by
    rw [e2] at z
    cases z
  have back : ∀ {m : Nat} {w : AO}, (A2.set a (.dK kvs)).get m = some w → m = a ∨ (m ≠ a ∧ A2.get m = some w) := fun {m w} q => by
    by_cases h : m = a
    · exact .inl h
    · rw [get_set_ne h] at q
      exact .inr ⟨h, q⟩
  have E : Ext G ρ A H ρ2 (A2.set a (.dK kvs)) (upd H2 (ρ a) (.dK ks)) := by
    refine ⟨fun j h => e.ag j h, e.le, fun b v h k => ?_, fun b vs h => tu2 b vs (e.tu b vs (E1.tu b vs h))⟩
    have hb : b ≠ ρ a := fun z => k ⟨a, _, g, z.symm⟩
    obtain ⟨q1, q2⟩ := E1.fr b v h k
    obtain ⟨q3, q4⟩ := e.fr b v q1 q2
    refine ⟨by rw [upd_ne hb]; exact q3, fun ⟨j, w, z1, z2⟩ => ?_⟩
    rcases back z1 with rfl | ⟨_, z1⟩
    · exact hb (z2.symm.trans ha)
    · exact q4 ⟨j, w, z1, z2⟩
  refine ⟨e2, E, ⟨fun j v q => ?_, fun j v q => ?_, fun j k v w q1 q2 z => ?_⟩⟩
  · rcases back q with rfl | ⟨_, q⟩
    · exact Nat.lt_of_lt_of_le (R.lt _ _ g) e.le
    · exact R2.lt j v q
  · rcases back q with rfl | ⟨hj, q⟩
    · rw [get_set] at q
      cases q
      rw [ha]
      exact ⟨ks, upd_same, paired_mono (fun _ _ z => ⟨z.1, z.2.ext E⟩) rk⟩
    · exact (R2.ob j v q).mono (fun _ _ => rfl) (Nat.le_refl _) tu2 (upd_ne fun z => ni2 ⟨j, v, q, z⟩)
  · rcases back q1 with rfl | ⟨hj, q3⟩
    · rcases back q2 with rfl | ⟨hk, q4⟩
      · rfl
      · exact absurd ⟨k, w, q4, z.symm.trans ha⟩ ni2
    · rcases back q2 with rfl | ⟨hk, q4⟩
      · exact absurd ⟨j, v, q3, z.trans ha⟩ ni2
      · exact R2.inj j k v w q3 q4 z
theorem lockK_some {s : SA} {a : Nat} {kvs : List (AKey × AV)} {A1 : AH} (h : lockK me s A = some (a, kvs, A1)) : A.get a = some (.dK kvs) ∧ me s (A.del a) = some (.ref a, A1) := by
  unfold lockK at h
  split at h
  · split at h
    · rename_i hk
      split at h
      · rename_i h2
        obtain ⟨hc, h⟩ := cond_yes h
        cases h
        have := Nat.eq_of_beq_eq_true hc
        subst this
        exact ⟨hk, h2⟩
      · cases h
    · cases h
  · cases h
theorem s_forK (hg : GS G g gT) : ∀ D σ H, DS G (mForK me g sb) D σ H → tLock (tFor (iKeys (DE G me)) gT (DS G sb)) D σ H := fun D σ H ⟨ρ, A, s, r, cf, h, p⟩ => by
  unfold mForK at h
  split at h
  · rename_i a kvs A1 hl
    obtain ⟨hk, h1⟩ := lockK_some hl
    split at h
    · rename_i fl s2 A2 hf
      cases h
      obtain ⟨ks, e0, rk⟩ := cf.rel.ob a _ hk
      refine ⟨ρ a, .dK ks, e0, trivial, fun od => ?_⟩
      obtain ⟨E1, R1, ni⟩ := lock_ok (od := od) cf.rel hk e0
      refine ⟨ρ, A.del a, s, _, A1, cf.ext E1 R1, h1, fun ρ1 H1 u e1 R2 r1 => ?_⟩
      obtain ⟨e3, ni3⟩ := e1.fr _ _ upd_same ni
      have : u = .ref (ρ a) := by
        cases r1 with
        | ref hi => rw [e1.ag a (cf.rel.lt a _ hk)]
      subst this
      refine ⟨ρ a, od, rfl, .inl ⟨ks, e3, for_ok (ns_keys rk) hg ((cf.ext E1 R1).ext e1 R2) ⟨e3, ni3⟩ hf fun ρ' H' e' R' => ?_⟩⟩
      obtain ⟨q1, q2, q3⟩ := unlock_ok cf.rel hk e0 rk (e1.trans e') R'
      have mo : ∀ {σ'}, RSt G ρ' A2.n H' s2 σ' → RSt G ρ' A2.n (upd H' (ρ a) (.dK ks)) s2 σ' := fun hs => ⟨hs.len, fun i v h => let ⟨u, a, b⟩ := hs.at_ i v h; ⟨u, a, b.mono (fun _ _ => rfl) (Nat.le_refl _) (sqt_upd fun xs z => by rw [q1] at z; cases z)⟩⟩
      have pp := p _ _ q2 q3
      cases fl with
      | nx => exact fun σ' hs => ⟨q1, pp σ' (mo hs)⟩
      | bk => exact fun σ' hs => ⟨q1, pp σ' (mo hs)⟩
      | ct => exact fun σ' hs => ⟨q1, pp σ' (mo hs)⟩
      | rt v => exact fun u hu => ⟨q1, pp u (hu.mono (fun _ _ => rfl) (Nat.le_refl _) (sqt_upd fun xs z => by rw [q1] at z; cases z))⟩
    · cases h
  · cases h
end
end Zg
set_option Elab.async false
set_option maxRecDepth 100000
set_option maxHeartbeats 4000000
set_option linter.all false
/-! ZS11: comprehensions. -/
namespace Zg
open PySem L2
section
variable {G : Gm} {ρ : Nat → Addr} {A : AH} {n : Nat} {H : Hp} {x y : AV} {u w : V}
variable {md mk me ma mb mo mv : ME} {mr : MA} {t : TA} {ta tb : MT} {c i j k : Nat} {f nm : Str} {m : MF} {sa sb : MS} {g : Tg} {gT : TG} {ow : List Nat}
theorem d_yes : ∀ σ H Q, DT G mYes σ H Q → tYes σ H Q := fun σ H Q ⟨ρ, A, s, b, A1, cf, h, o⟩ => by
  cases h
  exact o ρ H .refl cf.rel
/-- what is laid at D, unknown to the abstract heap -/
theorem Rel.own {D : Addr} {ho : HO} (R : Rel G ρ A H) (ni : ¬ Img ρ A D) (ht : ∀ xs, H D ≠ some (.tup xs)) : Rel G ρ A (upd H D ho) :=
  ⟨R.lt, fun j v q => (R.ob j v q).mono (fun _ _ => rfl) (Nat.le_refl _) (sqt_upd ht) (upd_ne fun z => ni ⟨j, v, q, z⟩), R.inj⟩
theorem Ext.own {ρ1 : Nat → Addr} {A1 : AH} {H1 : Hp} {D : Addr} {ho : HO} (e : Ext G ρ A H ρ1 A1 H1) (hD : H D = none) (ht : ∀ xs, H1 D ≠ some (.tup xs)) : Ext G ρ A H ρ1 A1 (upd H1 D ho) :=
  ⟨e.ag, e.le, fun b v h k => ⟨by rw [upd_ne (ne_of_none h hD)]; exact (e.fr b v h k).1, (e.fr b v h k).2⟩, fun b vs h => sqt_upd ht b vs (e.tu b vs h)⟩
theorem lst_nt {H : Hp} {D : Addr} {us : List V} (h : H D = some (.lst us)) : ∀ xs, H D ≠ some (.tup xs) := fun xs z => by
  rw [h] at z
  cases z
theorem Ext.adopt2 {ρ1 : Nat → Addr} {A1 : AH} {H1 : Hp} {p : Addr} {o : AO} (e : Ext G ρ A H ρ1 A1 H1) (hp : ∀ o, H p = some o → Img ρ A p) : Ext G ρ A H (extR ρ1 A1.n p) (A1.new o) H1 := by
  refine ⟨fun i h => ?_, Nat.le_succ_of_le e.le, fun b u h k => ?_, e.tu⟩
  · rw [extR_ne (Nat.ne_of_lt (Nat.lt_of_lt_of_le h e.le))]
    exact e.ag i h
  · obtain ⟨h1, k1⟩ := e.fr b u h k
    refine ⟨h1, fun ⟨j, v, e1, e2⟩ => ?_⟩
    by_cases hj : j = A1.n
    · rw [hj, extR_same] at e2
      subst e2
      exact k (hp _ h)
    · rw [get_new_ne hj] at e1
      rw [extR_ne hj] at e2
      exact k1 ⟨j, v, e1, e2⟩
theorem lc_ok {J : It} {nx : Nx} {S : (Nat → Addr) → AH → Hp → Prop} (N : NS G J nx S) (hg : GS G g gT) (hw : ∀ i ∈ g.sl, i ∈ ow) {ρ : Nat → Addr} {A : AH} {s : SA} {σ : St} {H : Hp} {r : List AV × AH} {n : Nat} {Q : VK}
    (cf : Cf G ρ A s σ H) (hS : S ρ A H) (h : compG nx g ta me (wipeA s ow) n 0 [] A = some r) {D : Addr} (hD : H D = none)
    (o : ∀ ρ' H' us, Ext G ρ A H ρ' r.2 H' → Rel G ρ' r.2 H' → H' D = some (.lst us) → ¬ Img ρ' r.2 D → RVs G ρ' r.2.n H' r.1 us → Q (.ref D) H') :
    ∃ W : Nat → Nat → Hp → Prop, (∃ m, W 0 m (upd H D (.lst []))) ∧ ∀ i m H, W i m H → (J.stop i H ∧ Q (.ref D) H) ∨ (J.go i H ∧ ∃ Nx : Hp → Prop, (∀ H', Nx H' → ∃ m', m' < m ∧ W (i + 1) m' H') ∧ ∀ x H', J.yld i H x H' → gT x (wipe σ ow) H' fun σ2 H2 => wipe σ2 ow = wipe σ ow ∧ DT G ta σ2 H2 fun b H3 =>
      if b = true then DE G me σ2 H3 fun y H4 => ∃ acc, H4 D = some (.lst acc) ∧ acc.length < sizeLine ∧ Nx (upd H4 D (.lst (acc ++ [y]))) else Nx H3) := by
  refine ⟨fun i m H' => ∃ ρ' A' acc us, Ext G ρ A H ρ' A' H' ∧ Rel G ρ' A' H' ∧ H' D = some (.lst us) ∧ ¬ Img ρ' A' D ∧ RVs G ρ' A'.n H' acc us ∧ compG nx g ta me (wipeA s ow) m i acc A' = some r, ⟨n, ρ, A, [], [], Ext.refl.own hD (fun xs z => by rw [hD] at z; cases z), cf.rel.own (notImg cf.rel hD) (fun xs z => by rw [hD] at z; cases z), upd_same, notImg cf.rel hD, .nil, h⟩, ?_⟩
  rintro i m H1 ⟨ρ1, A1, acc, us, e1, R1, d1, ni1, ra, h1⟩
  cases m with
  | zero => cases h1
  | succ m =>
    have h1 : (match nx i A1 with
      | some (some v) => bnd (turnC g ta me v (wipeA s ow) acc A1) fun acc1 A1 => compG nx g ta me (wipeA s ow) m (i + 1) acc1 A1
      | some none => some (acc, A1)
      | none => none) = some r := h1
    split at h1
    · rename_i v hv
      obtain ⟨acc2, A2, ht, h2⟩ := bnd_some h1
      refine .inr ⟨N.go (N.keep hS e1) R1 hv, fun H' => ∃ ρ' us, Ext G ρ A H ρ' A2 H' ∧ Rel G ρ' A2 H' ∧ H' D = some (.lst us) ∧ ¬ Img ρ' A2 D ∧ RVs G ρ' A2.n H' acc2 us, fun H' ⟨ρ', us, q1, q2, q3, q4, q5⟩ => ⟨m, Nat.lt_succ_self m, ρ', A2, acc2, us, q1, q2, q3, q4, q5, h2⟩, fun x H2 hy => ?_⟩
      obtain ⟨R2, e2, rx⟩ := N.yld (N.keep hS e1) R1 hv hy
      obtain ⟨d2, ni2⟩ := e2.fr _ _ d1 ni1
      unfold turnC at ht
      split at ht
      · rename_i s1 hs1
        obtain ⟨b, A3, ht1, ht2⟩ := bnd_some ht
        refine hg ρ1 A1 H2 _ (wipe σ ow) v x s1 _ (((cf.st.ext e1).wipe ow).ext e2) rx hs1 fun σ1 q1 wq => ⟨?_, ρ1, A1, s1, b, A3, ⟨q1, R2⟩, ht1, fun ρ3 H3 e3 R3 => ?_⟩
        · rw [wq ow hw, wipe_wipe]
        obtain ⟨d3, ni3⟩ := e3.fr _ _ d2 ni2
        have e13 := (e1.trans e2).trans e3
        cases b with
        | false =>
          rw [if_neg (by decide)]
          cases ht2
          exact ⟨ρ3, us, e13, R3, d3, ni3, ra.ext (e2.trans e3)⟩
        | true =>
          rw [if_pos rfl]
          obtain ⟨y, A4, ht3, ht4⟩ := bnd_some ht2
          obtain ⟨hz, ht5⟩ := cond_yes ht4
          cases ht5
          refine ⟨ρ3, A3, s1, y, A2, ⟨q1.ext e3, R3⟩, ht3, fun ρ4 H4 u e4 R4 ru => ?_⟩
          obtain ⟨d4, ni4⟩ := e4.fr _ _ d3 ni3
          have ra4 := ra.ext ((e2.trans e3).trans e4)
          have tu := sqt_upd (ho := .lst (us ++ [u])) (lst_nt d4)
          exact ⟨us, d4, by rw [← ra.length]; exact line_le hz, ρ4, us ++ [u], (e13.trans e4).own hD (lst_nt d4), R4.own ni4 (lst_nt d4), upd_same, ni4, (ra4.append (.one ru)).mono (fun _ _ => rfl) (Nat.le_refl _) tu⟩
      · cases ht
    · rename_i hv
      cases h1
      exact .inl ⟨N.stop (N.keep hS e1) R1 hv, o ρ1 H1 us e1 R1 d1 ni1 ra⟩
    · cases h1
/-- the list that is made becomes an object -/
theorem fin_ok {o : Option (List AV × AH)} {v : AV} {A' : AH} (h : fin o = some (v, A')) : ∃ r, o = some r ∧ v = .ref r.2.n ∧ A' = r.2.new (.lst r.1) := by
  cases o with
  | none => cases h
  | some r =>
    cases h
    exact ⟨r, rfl, rfl, rfl⟩
theorem out_fin {ρ1 : Nat → Addr} {r : List AV × AH} {H1 : Hp} {D : Addr} {us : List V} {Q : VK} (o : Out G ρ A H (.ref r.2.n) (r.2.new (.lst r.1)) Q) (e : Ext G ρ A H ρ1 r.2 H1) (R : Rel G ρ1 r.2 H1) (d : H1 D = some (.lst us)) (ni : ¬ Img ρ1 r.2 D) (ra : RVs G ρ1 r.2.n H1 r.1 us)
    (hD : ∀ o, H D = some o → Img ρ A D) : Q (.ref D) H1 := by
  exact o _ _ (.ref D) (e.adopt2 hD) (R.adopt ni ⟨us, d, ra⟩) RV.fresh
theorem d_lcT (hg : GS G g gT) (hw : ∀ i ∈ g.sl, i ∈ ow) : ∀ σ H Q, DE G (mLcT ma g ta me ow) σ H Q → tLc (iTup G.K (DE G ma)) gT (DT G ta) (DE G me) ow σ H Q := fun σ H Q ⟨ρ, A, s, v, A', cf, h, o⟩ => by
  obtain ⟨x, A1, h1, h⟩ := bnd_some h
  refine ⟨ρ, A, s, x, A1, cf, h1, fun ρ1 H1 u e1 R1 r1 => ?_⟩
  cases r1 with
  | tup hs rs =>
    obtain ⟨r, hr, rfl, rfl⟩ := fin_ok h
    exact ⟨_, rfl, ⟨_, .of hs⟩, fun D hD => lc_ok ns_tup hg hw (cf.ext e1 R1) ⟨hs, rs⟩ hr hD fun ρ' H' us e' R' d ni ra => out_fin (o := fun ρ' H' u e R => o ρ' H' u (e1.trans e) R) e' R' d ni ra (fun o z => by rw [hD] at z; cases z)⟩
  | _ => cases h
theorem d_lcL (hg : GS G g gT) (hw : ∀ i ∈ g.sl, i ∈ ow) : ∀ σ H Q, DE G (mLcL ma g ta me ow) σ H Q → tLc (iList G.K (DE G ma)) gT (DT G ta) (DE G me) ow σ H Q := fun σ H Q ⟨ρ, A, s, v, A', cf, h, o⟩ => by
  obtain ⟨x, A1, h1, h⟩ := bnd_some h
  refine ⟨ρ, A, s, x, A1, cf, h1, fun ρ1 H1 u e1 R1 r1 => ?_⟩
  cases r1 with
  | @ref a hi =>
    obtain ⟨r, hr, rfl, rfl⟩ := fin_ok h
    have : ∃ v, nxL a 0 A1 = some v := by
      cases e : nxL a 0 A1 with
      | none =>
        unfold lots at hr
        unfold compG at hr
        rw [e] at hr
        cases hr
      | some v => exact ⟨v, rfl⟩
    obtain ⟨v, hv⟩ := this
    obtain ⟨xs, vs, _, e2, _⟩ := nxL_some R1 hv
    exact ⟨_, rfl, ⟨vs, .of e2⟩, fun D hD => lc_ok ns_lst hg hw (cf.ext e1 R1) ⟨hi, rfl⟩ hr hD fun ρ' H' us e' R' d ni ra => out_fin (o := fun ρ' H' u e R => o ρ' H' u (e1.trans e) R) e' R' d ni ra (fun o z => by rw [hD] at z; cases z)⟩
  | _ => cases h
theorem d_lcE (hg : GS G g gT) (hw : ∀ i ∈ g.sl, i ∈ ow) : ∀ σ H Q, DE G (mLcE ma g ta me ow) σ H Q → tLc (ZgE.iEn2 G.K (DA G (mCons ma mNil))) gT (DT G ta) (DE G me) ow σ H Q := fun σ H Q ⟨ρ, A, s, v, A', cf, h, o⟩ => by
  obtain ⟨x, A1, h1, h⟩ := bnd_some h
  refine ⟨ρ, A, s, [x], A1, cf, one_arg h1, fun ρ1 H1 us e1 R1 r1 => ?_⟩
  obtain ⟨u, rfl, r2⟩ := one_of r1
  cases r2 with
  | tup hs rs =>
    obtain ⟨r, hr, rfl, rfl⟩ := fin_ok h
    exact ⟨_, rfl, ⟨_, .of hs⟩, fun D hD => lc_ok ns_en1 hg hw (cf.ext e1 R1) ⟨hs, rs⟩ hr hD fun ρ' H' us e' R' d ni ra => out_fin (o := fun ρ' H' u e R => o ρ' H' u (e1.trans e) R) e' R' d ni ra (fun o z => by rw [hD] at z; cases z)⟩
  | _ => cases h
theorem d_lcK (hg : GS G g gT) (hw : ∀ i ∈ g.sl, i ∈ ow) : ∀ σ H Q, DE G (mLcK ma g ta me ow) σ H Q → tLockE (tLc (iKeys (DE G ma)) gT (DT G ta) (DE G me) ow) σ H Q := fun σ H Q ⟨ρ, A, s, v, A', cf, h, o⟩ => by
  unfold mLcK at h
  split at h
  · rename_i a kvs A1 hl
    obtain ⟨hk, h1⟩ := lockK_some hl
    split at h
    · rename_i acc A2 hf
      cases h
      obtain ⟨ks, e0, rk⟩ := cf.rel.ob a _ hk
      refine ⟨ρ a, .dK ks, e0, trivial, fun od => ?_⟩
      obtain ⟨E1, R1, ni⟩ := lock_ok (od := od) cf.rel hk e0
      refine ⟨ρ, A.del a, s, _, A1, cf.ext E1 R1, h1, fun ρ1 H1 u e1 R2 r1 => ?_⟩
      obtain ⟨e3, ni3⟩ := e1.fr _ _ upd_same ni
      have : u = .ref (ρ a) := by
        cases r1 with
        | ref hi => rw [e1.ag a (cf.rel.lt a _ hk)]
      subst this
      refine ⟨ρ a, od, rfl, .inl ⟨ks, e3, fun D hD => lc_ok (Q := fun v H' => H' (ρ a) = some (.frz od (.dK ks)) ∧ Q v (upd H' (ρ a) (.dK ks))) (ns_keys rk) hg hw ((cf.ext E1 R1).ext e1 R2) ⟨e3, ni3⟩ hf hD fun ρ' H' us e' R' d ni' ra => ?_⟩⟩
      obtain ⟨q1, q2, q3⟩ := unlock_ok cf.rel hk e0 rk (e1.trans e') R'
      have hn : D ≠ ρ a := fun z => by
        rw [z, e3] at hD
        cases hD
      have hn0 : ∀ o, H D = some o → Img ρ A D := fun o hh => by
        by_cases hi : Img ρ A D
        · exact hi
        · obtain ⟨z1, z2⟩ := E1.fr _ _ hh hi
          obtain ⟨z3, _⟩ := e1.fr _ _ z1 z2
          rw [hD] at z3
          cases z3
      have ni4 : ¬ Img ρ' (A2.set a (.dK kvs)) D := fun ⟨j, v, g1, g2⟩ => by
        by_cases hj : j = a
        · subst hj
          exact hn (g2.symm.trans ((e1.trans e').ag j (cf.rel.lt j _ hk)))
        · rw [get_set_ne hj] at g1
          exact ni' ⟨j, v, g1, g2⟩
      refine ⟨q1, out_fin (r := (acc, A2.set a (.dK kvs))) o q2 q3 (by rw [upd_ne hn]; exact d) ni4 (ra.mono (fun _ _ => rfl) (Nat.le_refl _) (sqt_upd fun xs z => by rw [q1] at z; cases z)) hn0⟩
    · cases h
  · cases h
/-! ### {k: v for .. in enumerate(list)} -/
theorem dK_nt {H : Hp} {D : Addr} {us : List (Key × V)} (h : H D = some (.dK us)) : ∀ xs, H D ≠ some (.tup xs) := fun xs z => by
  rw [h] at z
  cases z
theorem dc_ok {J : It} {nx : Nx} {S : (Nat → Addr) → AH → Hp → Prop} (N : NS G J nx S) (hg : GS G g gT) (hw : ∀ i ∈ g.sl, i ∈ ow) {ρ : Nat → Addr} {A : AH} {s : SA} {σ : St} {H : Hp} {r : List (AKey × AV) × AH} {n : Nat} {Q : VK}
    (cf : Cf G ρ A s σ H) (hS : S ρ A H) (h : dcG nx g mk mv (wipeA s ow) n 0 [] A = some r) {D : Addr} (hD : H D = none)
    (o : ∀ ρ' H' us, Ext G ρ A H ρ' r.2 H' → Rel G ρ' r.2 H' → H' D = some (.dK us) → ¬ Img ρ' r.2 D → RKs G ρ' r.2.n H' r.1 us → Q (.ref D) H') :
    ∃ W : Nat → Nat → Hp → Prop, (∃ m, W 0 m (upd H D (.dK []))) ∧ ∀ i m H, W i m H → (J.stop i H ∧ Q (.ref D) H) ∨ (J.go i H ∧ ∃ Nx : Hp → Prop, (∀ H', Nx H' → ∃ m', m' < m ∧ W (i + 1) m' H') ∧ ∀ x H', J.yld i H x H' → gT x (wipe σ ow) H' fun σ2 H2 => wipe σ2 ow = wipe σ ow ∧ tYes σ2 H2 fun b H3 =>
      if b = true then DE G mk σ2 H3 fun y H4 => DE G mv σ2 H4 fun z H5 => ∃ kvs k, y = kV k ∧ H5 D = some (.dK kvs) ∧ kvs.length < sizeLine ∧ Nx (upd H5 D (.dK (putK kvs k z))) else Nx H3) := by
  refine ⟨fun i m H' => ∃ ρ' A' acc us, Ext G ρ A H ρ' A' H' ∧ Rel G ρ' A' H' ∧ H' D = some (.dK us) ∧ ¬ Img ρ' A' D ∧ RKs G ρ' A'.n H' acc us ∧ dcG nx g mk mv (wipeA s ow) m i acc A' = some r, ⟨n, ρ, A, [], [], Ext.refl.own hD (fun xs z => by rw [hD] at z; cases z), cf.rel.own (notImg cf.rel hD) (fun xs z => by rw [hD] at z; cases z), upd_same, notImg cf.rel hD, .nil, h⟩, ?_⟩
  rintro i m H1 ⟨ρ1, A1, acc, us, e1, R1, d1, ni1, ra, h1⟩
  cases m with
  | zero => cases h1
  | succ m =>
    have h1 : (match nx i A1 with
      | some (some x) => match g.put x (wipeA s ow) with
        | some s1 => bnd (mk s1 A1) fun y A1 => bnd (mv s1 A1) fun z A2 => match keyA y with
          | some q => cond (acc.length.blt line) (dcG nx g mk mv (wipeA s ow) m (i + 1) (putA acc q z) A2) none
          | none => none
        | none => none
      | some none => some (acc, A1)
      | none => none) = some r := h1
    split at h1
    · rename_i v hv
      split at h1
      · rename_i s1 hs1
        obtain ⟨y, A3, h2, h3⟩ := bnd_some h1
        obtain ⟨z, A4, h4, h5⟩ := bnd_some h3
        split at h5
        · rename_i q hq
          obtain ⟨hz, h6⟩ := cond_yes h5
          refine .inr ⟨N.go (N.keep hS e1) R1 hv, fun H' => ∃ ρ' us, Ext G ρ A H ρ' A4 H' ∧ Rel G ρ' A4 H' ∧ H' D = some (.dK us) ∧ ¬ Img ρ' A4 D ∧ RKs G ρ' A4.n H' (putA acc q z) us, fun H' ⟨ρ', us, q1, q2, q3, q4, q5⟩ => ⟨m, Nat.lt_succ_self m, ρ', A4, _, us, q1, q2, q3, q4, q5, h6⟩, fun x H2 hy => ?_⟩
          obtain ⟨R2, e2, rx⟩ := N.yld (N.keep hS e1) R1 hv hy
          obtain ⟨d2, ni2⟩ := e2.fr _ _ d1 ni1
          refine hg ρ1 A1 H2 _ (wipe σ ow) v x s1 _ (((cf.st.ext e1).wipe ow).ext e2) rx hs1 fun σ1 q1 wq => ⟨?_, ?_⟩
          · rw [wq ow hw, wipe_wipe]
          · dsimp only [tYes]
            rw [if_pos rfl]
            refine ⟨ρ1, A1, s1, y, A3, ⟨q1, R2⟩, h2, fun ρ3 H3 uy e3 R3 ry => ?_⟩
            obtain ⟨d3, ni3⟩ := e3.fr _ _ d2 ni2
            refine ⟨ρ3, A3, s1, z, A4, ⟨q1.ext e3, R3⟩, h4, fun ρ4 H4 uz e4 R4 rz => ?_⟩
            obtain ⟨d4, ni4⟩ := e4.fr _ _ d3 ni3
            have e14 := ((e1.trans e2).trans e3).trans e4
            have ra4 : RKs G ρ4 A4.n H4 acc us := paired_mono (fun _ _ w => ⟨w.1, w.2.ext ((e2.trans e3).trans e4)⟩) ra
            have tu := sqt_upd (ho := .dK (putK us (kd q) uz)) (dK_nt d4)
            exact ⟨us, kd q, keyA_ok ry hq, d4, by rw [← pair_len ra]; exact line_le hz, ρ4, putK us (kd q) uz, e14.own hD (dK_nt d4), R4.own ni4 (dK_nt d4), upd_same, ni4, paired_mono (fun _ _ w => ⟨w.1, w.2.mono (fun _ _ => rfl) (Nat.le_refl _) tu⟩) (putA_ok rz ra4)⟩
        · cases h5
      · cases h1
    · rename_i hv
      cases h1
      exact .inl ⟨N.stop (N.keep hS e1) R1 hv, o ρ1 H1 us e1 R1 d1 ni1 ra⟩
    · cases h1
theorem d_dcE (hg : GS G g gT) (hw : ∀ i ∈ g.sl, i ∈ ow) : ∀ σ H Q, DE G (mDcE ma g mk mv ow) σ H Q → tDc (iEnum G.K (DA G (mCons ma mNil))) gT tYes (DE G mk) (DE G mv) ow σ H Q := fun σ H Q ⟨ρ, A, s, v, A', cf, h, o⟩ => by
  obtain ⟨x, A1, h1, h⟩ := bnd_some h
  refine ⟨ρ, A, s, [x], A1, cf, one_arg h1, fun ρ1 H1 us e1 R1 r1 => ?_⟩
  obtain ⟨u, rfl, r2⟩ := one_of r1
  cases r2 with
  | @ref a hi =>
    obtain ⟨r, B, hr, h3⟩ := bnd_some h
    cases h3
    have : ∃ v, nxEL a 0 A1 = some v := by
      cases e : nxEL a 0 A1 with
      | none =>
        unfold lots at hr
        unfold dcG at hr
        rw [e] at hr
        cases hr
      | some v => exact ⟨v, rfl⟩
    obtain ⟨v, hv⟩ := this
    obtain ⟨xs, vs, _, e2, _⟩ := nxEL_some R1 hv
    exact ⟨_, vs, rfl, .of e2, fun D hD => dc_ok ns_enl hg hw (cf.ext e1 R1) ⟨hi, rfl⟩ hr hD fun ρ' H' us e' R' d ni ra => o _ _ (.ref D) ((e1.trans (e'.adopt hD))) (R'.adopt ni ⟨us, d, ra⟩) RV.fresh⟩
  | _ => cases h
end
end Zg
set_option Elab.async false
set_option maxRecDepth 100000
set_option maxHeartbeats 4000000
set_option linter.all false
/-! ZR: the rules that a derivation is put together of. -/
namespace Zg
open PySem L2
structure Ck (G : Gm) (X : Cx) (k : Nat) : Prop extends Cok G X k where
  po : PassesOwn (model X.prog X.w) X.A X.env X.xe
section
variable {G : Gm} {X : Cx} {k j : Nat}
theorem Ck.hu (C : Ck G X k) : X.A.units + 1 < cLine := hu_of C.room
theorem Ck.hu64 (C : Ck G X k) : X.A.units + 64 < cLine := C.room.units
theorem Ck.blk (C : Ck G X k) {s : Shared} {H : Hp} {scope : Scope} {cenv : Env} {fp : List Addr} : Ck G (X.blk s H scope cenv fp) k :=
  ⟨⟨C.hP, C.hw, C.hK, C.hm, C.hb, C.calm, C.room, C.nd⟩, PassesOwn.never⟩
variable {x f nm : Str} {pos p p2 apos cpos : Pos} {e a b o l i : Expr} {es : List Expr} {c n fi : Nat} {md mk me ma mb mo ml mi : ME} {mr : MA} {ta tb : MT} {sa sb : MS} {m : MF} {g : Tg}
/-! ### names of the program -/
theorem r_gint (C : Ck G X k) {i : Int} {t : Tok} (hm : G.mg x = some (.int i t)) (hg : Gl X x := by rfl) (hd : (x == ("__debug__" : Str)) = false := by decide) : PE X (.Name x pos) (DE G (mC (.int i))) := re_gint C.toCok hg hm hd
/-! ### operators -/
theorem r_add (ha : PE X a (DE G ma)) (hb : PE X b (DE G mb)) : PE X (.BinOp a .Add b pos) (DE G (mOp oAdd ma mb)) := re_op op_add os_add ha hb
theorem r_sub (ha : PE X a (DE G ma)) (hb : PE X b (DE G mb)) : PE X (.BinOp a .Sub b pos) (DE G (mOp oSub ma mb)) := re_op op_sub os_sub ha hb
theorem r_mul (ha : PE X a (DE G ma)) (hb : PE X b (DE G mb)) : PE X (.BinOp a .Mult b pos) (DE G (mOp oMul ma mb)) := re_op op_mul os_mul ha hb
theorem r_fdiv (ha : PE X a (DE G ma)) (hb : PE X b (DE G mb)) : PE X (.BinOp a .FloorDiv b pos) (DE G (mOp oFdiv ma mb)) := re_op op_fdivN os_fdiv ha hb
theorem r_mod (ha : PE X a (DE G ma)) (hb : PE X b (DE G mb)) : PE X (.BinOp a .Mod b pos) (DE G (mOp oMod ma mb)) := re_op op_modN os_mod ha hb
theorem r_pow (ha : PE X a (DE G ma)) (hb : PE X b (DE G mb)) : PE X (.BinOp a .Pow b pos) (DE G (mOp oPow ma mb)) := re_op op_pow os_pow ha hb
theorem r_catS (ha : PE X a (DE G ma)) (hb : PE X b (DE G mb)) : PE X (.BinOp a .Add b pos) (DE G (mOp oCatS ma mb)) := re_op op_add_str os_catS ha hb
theorem r_catL (ha : PE X a (DE G ma)) (hb : PE X b (DE G mb)) : PE X (.BinOp a .Add b pos) (DE G (mOp oCatL ma mb)) := re_op op_cat os_catL ha hb
theorem r_rep (ha : PE X a (DE G ma)) (hb : PE X b (DE G mb)) : PE X (.BinOp a .Mult b pos) (DE G (mOp oRep ma mb)) := re_op op_rep os_rep ha hb
theorem r_catT (C : Ck G X k) (ha : PE X a (DE G ma)) (hb : PE X b (DE G mb)) : PE X (.BinOp a .Add b pos) (DE G (mOp oCatT ma mb)) := (pe_op op_catA ha hb).imp (by rw [C.hK]; exact d_op os_catT)
theorem r_ix (C : Ck G X k) (ha : PE X a (DE G ma)) (hb : PE X b (DE G mb)) (hp : PlainIx b := by exact fun _ _ => rfl) : PE X (.Subscript a b pos) (DE G (mOp oIx ma mb)) := (pe_ix (ix_list.or ix_tup) ha hb hp).imp (by rw [C.hK]; exact d_op os_ix)
theorem r_dget (C : Ck G X k) (ha : PE X a (DE G ma)) (hb : PE X b (DE G mb)) (hs : NoSl b := by exact fun _ _ => rfl) : PE X (.Subscript a b pos) (DE G (mOp oDGet ma mb)) := (pe_dget C.hu ha hb hs).imp (d_op os_dget)
/-! ### comparisons as values and as tests -/
theorem t_of {op : CmpOp} {r : R2} {ff : AV → AV → AH → Option (AV × AH)} (ho : OpR X (compareOp op) r) (hs : OS G r ff) (ha : PE X a (DE G ma)) (hb : PE X b (DE G mb)) (hm : behindInMarks op b = false) : PT X (.Compare a [op] [b] pos) (DT G (mB (mOp ff ma mb))) := (pt_cmpR ho ha hb hm).imp (d_B (d_op hs))
theorem r_eq (ha : PE X a (DE G ma)) (hb : PE X b (DE G mb)) : PE X (.Compare a [.Eq] [b] pos) (DE G (mOp oEq ma mb)) := re_cmp op_eq os_eq ha hb (nomark _)
theorem r_ne (ha : PE X a (DE G ma)) (hb : PE X b (DE G mb)) : PE X (.Compare a [.NotEq] [b] pos) (DE G (mOp oNe ma mb)) := re_cmp op_ne os_ne ha hb (nomark _)
theorem r_lt (ha : PE X a (DE G ma)) (hb : PE X b (DE G mb)) : PE X (.Compare a [.Lt] [b] pos) (DE G (mOp oLt ma mb)) := re_cmp op_lt os_lt ha hb (nomark _)
theorem r_ge (ha : PE X a (DE G ma)) (hb : PE X b (DE G mb)) : PE X (.Compare a [.GtE] [b] pos) (DE G (mOp oGe ma mb)) := re_cmp op_ge os_ge ha hb (nomark _)
theorem r_gt (ha : PE X a (DE G ma)) (hb : PE X b (DE G mb)) : PE X (.Compare a [.Gt] [b] pos) (DE G (mOp oGt ma mb)) := re_cmp op_gt os_gt ha hb (nomark _)
theorem r_isN (ha : PE X a (DE G ma)) (hb : PE X b (DE G mb)) : PE X (.Compare a [.Is] [b] pos) (DE G (mOp oIsN ma mb)) := re_cmp op_isN os_isN ha hb (nomark _)
theorem r_notN (ha : PE X a (DE G ma)) (hb : PE X b (DE G mb)) : PE X (.Compare a [.IsNot] [b] pos) (DE G (mOp oNotN ma mb)) := re_cmp op_notN os_notN ha hb (nomark _)
theorem r_eqD (C : Ck G X k) (ha : PE X a (DE G ma)) (hb : PE X b (DE G mb)) : PE X (.Compare a [.Eq] [b] pos) (DE G (mOp oEqD ma mb)) := (pe_cmpR (op_eqD C.hu64) ha hb (nomark _)).imp (by rw [C.hK]; exact d_op os_eqD)
theorem r_neD (C : Ck G X k) (ha : PE X a (DE G ma)) (hb : PE X b (DE G mb)) : PE X (.Compare a [.NotEq] [b] pos) (DE G (mOp oNeD ma mb)) := (pe_cmpR (op_neD C.hu64) ha hb (nomark _)).imp (by rw [C.hK]; exact d_op os_neD)
theorem r_inS (C : Ck G X k) (ha : PE X a (DE G ma)) (hb : PE X b (DE G mb)) (hm : behindInMarks .In b = false := by rfl) : PE X (.Compare a [.In] [b] pos) (DE G (mOp oInS ma mb)) := (pe_cmpR op_in_seq ha hb hm).imp (by rw [C.hK]; exact d_op os_inS)
theorem v_eq (ha : PE X a (DE G ma)) (hb : PE X b (DE G mb)) : PT X (.Compare a [.Eq] [b] pos) (DT G (mB (mOp oEq ma mb))) := t_of op_eq os_eq ha hb (nomark _)
theorem v_ne (ha : PE X a (DE G ma)) (hb : PE X b (DE G mb)) : PT X (.Compare a [.NotEq] [b] pos) (DT G (mB (mOp oNe ma mb))) := t_of op_ne os_ne ha hb (nomark _)
theorem v_lt (ha : PE X a (DE G ma)) (hb : PE X b (DE G mb)) : PT X (.Compare a [.Lt] [b] pos) (DT G (mB (mOp oLt ma mb))) := t_of op_lt os_lt ha hb (nomark _)
theorem v_ge (ha : PE X a (DE G ma)) (hb : PE X b (DE G mb)) : PT X (.Compare a [.GtE] [b] pos) (DT G (mB (mOp oGe ma mb))) := t_of op_ge os_ge ha hb (nomark _)
theorem v_gt (ha : PE X a (DE G ma)) (hb : PE X b (DE G mb)) : PT X (.Compare a [.Gt] [b] pos) (DT G (mB (mOp oGt ma mb))) := t_of op_gt os_gt ha hb (nomark _)
theorem v_isN (ha : PE X a (DE G ma)) (hb : PE X b (DE G mb)) : PT X (.Compare a [.Is] [b] pos) (DT G (mB (mOp oIsN ma mb))) := t_of op_isN os_isN ha hb (nomark _)
theorem v_notN (ha : PE X a (DE G ma)) (hb : PE X b (DE G mb)) : PT X (.Compare a [.IsNot] [b] pos) (DT G (mB (mOp oNotN ma mb))) := t_of op_notN os_notN ha hb (nomark _)
theorem v_eqD (C : Ck G X k) (ha : PE X a (DE G ma)) (hb : PE X b (DE G mb)) : PT X (.Compare a [.Eq] [b] pos) (DT G (mB (mOp oEqD ma mb))) := (pt_cmpR (op_eqD C.hu64) ha hb (nomark _)).imp (by rw [C.hK]; exact d_B (d_op os_eqD))
theorem v_neD (C : Ck G X k) (ha : PE X a (DE G ma)) (hb : PE X b (DE G mb)) : PT X (.Compare a [.NotEq] [b] pos) (DT G (mB (mOp oNeD ma mb))) := (pt_cmpR (op_neD C.hu64) ha hb (nomark _)).imp (by rw [C.hK]; exact d_B (d_op os_neD))
theorem v_inS (C : Ck G X k) (ha : PE X a (DE G ma)) (hb : PE X b (DE G mb)) (hm : behindInMarks .In b = false := by rfl) : PT X (.Compare a [.In] [b] pos) (DT G (mB (mOp oInS ma mb))) := (pt_cmpR op_in_seq ha hb hm).imp (by rw [C.hK]; exact d_B (d_op os_inS))
theorem v_notInS (C : Ck G X k) (ha : PE X a (DE G ma)) (hb : PE X b (DE G mb)) (hm : behindInMarks .NotIn b = false := by rfl) : PT X (.Compare a [.NotIn] [b] pos) (DT G (mB (mOp oNotInS ma mb))) := (pt_cmpR op_notIn_seq ha hb hm).imp (by rw [C.hK]; exact d_B (d_op os_notInS))
theorem v_din (C : Ck G X k) (ha : PE X a (DE G ma)) (hb : PE X b (DE G mb)) (hm : behindInMarks .In b = false := by rfl) : PT X (.Compare a [.In] [b] pos) (DT G (mB (mOp oDIn ma mb))) := (pt_cmp (pc_din C.hu ha hb) hm).imp (d_B (d_op os_din))
theorem v_dnotin (C : Ck G X k) (ha : PE X a (DE G ma)) (hb : PE X b (DE G mb)) (hm : behindInMarks .NotIn b = false := by rfl) : PT X (.Compare a [.NotIn] [b] pos) (DT G (mB (mOp oDNotIn ma mb))) := (pt_cmp (pc_dnotin C.hu ha hb) hm).imp (d_B (d_op os_dnotin))
/-! ### tests -/
theorem v_val (ha : PE X e (DE G me)) (he : ∀ whole, isTrue e X.env whole = (do let v ← whole; standAt e.pos; holding [v] (truthy v)) := by intro _; rfl) : PT X e (DT G (mB me)) := (pt_val ha he).imp (d_B fun _ _ _ h => h)
theorem v_tru (C : Ck G X k) (ha : PE X e (DE G me)) (he : ∀ whole, isTrue e X.env whole = (do let v ← whole; standAt e.pos; holding [v] (truthy v)) := by intro _; rfl) : PT X e (DT G (mTru me)) := (pt_truth ha he).imp (by rw [C.hK]; exact d_tru)
theorem v_not (ha : PT X a (DT G ta)) : PT X (.UnaryOp .Not a pos) (DT G (mNot ta)) := (pt_not ha).imp d_not
theorem w_and1 (ha : PT X a (DT G ta)) : PW X (.BoolOp .And [a] pos) (DT G ta) := pw_and1 ha
theorem w_or1 (ha : PT X a (DT G ta)) : PW X (.BoolOp .Or [a] pos) (DT G ta) := pw_or1 ha
theorem w_and {rest : List Expr} (ha : PT X a (DT G ta)) (hb : PW X (.BoolOp .And (b :: rest) pos) (DT G tb)) : PW X (.BoolOp .And (a :: b :: rest) pos) (DT G (mAnd ta tb)) := (pw_and ha hb).imp d_and
theorem w_or {rest : List Expr} (ha : PT X a (DT G ta)) (hb : PW X (.BoolOp .Or (b :: rest) pos) (DT G tb)) : PW X (.BoolOp .Or (a :: b :: rest) pos) (DT G (mOr ta tb)) := (pw_or ha hb).imp d_or
theorem r_ifE (ht : PT X e (DT G ta)) (ha : PE X a (DE G ma)) (hb : PE X b (DE G mb)) : PE X (.IfExp e a b pos) (DE G (mIfE ta ma mb)) := (pe_ifExp ht ha hb).imp d_ifE
theorem r_andV (ha : PE X a (DE G ma)) (hb : PE X b (DE G mb)) : PE X (.BoolOp .And [a, b] pos) (DE G (mAndV ma mb)) := (pe_and ha (pe_one hb)).imp d_andV
/-! ### fields, calls -/
theorem r_fld (C : Ck G X k) (L : Cl G c) (ha : PE X e (DE G me)) (hf : (fieldN c)[fi]? = some f := by rfl) (hb : attributeBase e f X.env (eval e X.env) = eval e X.env := by rfl) : PE X (.Attribute e f pos) (DE G (mFld me c fi)) := (pe_fld ha hb).imp (by rw [C.hK]; exact d_fld L hf)
theorem a_nil : PA X [] (DA G mNil) := pa_nil.imp d_nil
theorem d_acons : ∀ σ H Q, DA G (mCons ma mr) σ H Q → tCons (DE G ma) (DA G mr) σ H Q := fun σ H Q ⟨ρ, A, s, xs, A', cf, h, o⟩ => by
  obtain ⟨x, A1, h1, h⟩ := bnd_some h
  obtain ⟨ys, A2, h2, h⟩ := bnd_some h
  cases h
  exact ⟨ρ, A, s, x, A1, cf, h1, fun ρ1 H1 u e1 R1 r1 => ⟨ρ1, A1, s, ys, _, cf.ext e1 R1, h2, fun ρ2 H2 us e2 R2 r2 => o ρ2 H2 (u :: us) (e1.trans e2) R2 (.cons (r1.ext e2) r2)⟩⟩
theorem a_cons (ha : PE X e (DE G ma)) (hr : PA X es (DA G mr)) (hs : starEach (e :: es) X.env = (false, eval e X.env) :: starEach es X.env := by rfl) : PA X (e :: es) (DA G (mCons ma mr)) := (pa_cons ha hr hs).imp d_acons
variable {fa : Addr} {ps : List Str}
theorem Fo.at (C : Ck G X k) (F : Fo G j fa ps m) : ∃ fd, FnOk X.prog X.w X.K X.mg X.base CX0 j fa fd ps (SpF G m ps.length) ∧ Binds X.K fd ps [] := by
  obtain ⟨fd, h1, h2, _⟩ := F.ex
  rw [← C.hP, ← C.hw, ← C.hK, ← C.hm, ← C.hb] at h1
  rw [← C.hK] at h2
  exact ⟨fd, h1, h2⟩
theorem r_call (C : Ck G X k) (F : Fo G j fa ps m) (hm : G.mg x = some (.ref fa)) (ha : PA X (e :: es) (DA G mr)) (hj : j ≤ k := by omega) (hg : Gl X x := by rfl) (hdb : (x == ("__debug__" : Str)) = false := by decide)
    (he : starEach (e :: es) X.env = (false, eval e X.env) :: starEach es X.env := by rfl) (hpl : (backTo pos (starEach es X.env)).any (·.1) = false := by rfl) : PE X (.Call (.Name x p) (e :: es) [] pos) (DE G (mCall m mr)) := by
  obtain ⟨fd, h1, h2⟩ := F.at C
  exact (pe_call h1 (C.room.mono hj) hg (by rw [C.hm]; exact hm) (by rw [C.hK]; exact F.kp) h2 .nil pass0 ha hdb he hpl).imp (d_call F.ar fun _ _ _ h => h)
theorem r_call0 (C : Ck G X k) (F : Fo G j fa ps m) (hm : G.mg x = some (.ref fa)) (hj : j ≤ k := by omega) (hg : Gl X x := by rfl) (hdb : (x == ("__debug__" : Str)) = false := by decide) : PE X (.Call (.Name x p) [] [] pos) (DE G (mCall m mNil)) := by
  obtain ⟨fd, h1, h2⟩ := F.at C
  exact (pe_call0 h1 (C.room.mono hj) hg (by rw [C.hm]; exact hm) (by rw [C.hK]; exact F.kp) h2 .nil pass0 hdb).imp (d_call F.ar d_nil)
theorem r_meth (C : Ck G X k) (F : Fo G j fa ps m) (L : Cl G c) (M : Meth G.K (G.ca c) nm fa) (ho : PE X o (DE G mo)) (ha : PA X (e :: es) (DA G mr)) (hn : nm ∉ fieldN c := by decide) (hj : j ≤ k := by omega)
    (hst : starEach (e :: es) X.env = (false, eval e X.env) :: starEach es X.env := by rfl) (hpl : (backTo pos (starEach es X.env)).any (·.1) = false := by rfl) {pl : Sem Bool}
    (ht : eval (.Call (.Attribute o nm apos) (e :: es) [] pos) X.env = (do
      let ov ← eval o X.env
      standAt apos.atName
      let (f, first) ← holding [ov] (getMethod ov nm pl)
      callWith pos f first (backTo pos (starEach (e :: es) X.env)) (backToKw pos (keywordEach [] X.env))) := by rfl) : PE X (.Call (.Attribute o nm apos) (e :: es) [] pos) (DE G (mMeth c m mo mr)) := by
  obtain ⟨fd, h1, h2⟩ := F.at C
  exact (pe_meth ho (by rw [C.hK]; exact L.cl) (by rw [C.hK]; exact M) h1 (C.room.mono hj) h2 .nil pass0 ha hst hpl ht).imp (d_meth L hn F.ar fun _ _ _ h => h)
theorem r_meth0 (C : Ck G X k) (F : Fo G j fa ps m) (L : Cl G c) (M : Meth G.K (G.ca c) nm fa) (ho : PE X o (DE G mo)) (hn : nm ∉ fieldN c := by decide) (hj : j ≤ k := by omega) {pl : Sem Bool}
    (ht : eval (.Call (.Attribute o nm apos) [] [] pos) X.env = (do
      let ov ← eval o X.env
      standAt apos.atName
      let (f, first) ← holding [ov] (getMethod ov nm pl)
      callWith pos f first (backTo pos (starEach [] X.env)) (backToKw pos (keywordEach [] X.env))) := by rfl) : PE X (.Call (.Attribute o nm apos) [] [] pos) (DE G (mMeth c m mo mNil)) := by
  obtain ⟨fd, h1, h2⟩ := F.at C
  exact (pe_meth0 ho (by rw [C.hK]; exact L.cl) (by rw [C.hK]; exact M) h1 (C.room.mono hj) h2 .nil pass0 ht).imp (d_meth L hn F.ar d_nil)
theorem r_make (C : Ck G X k) (F : Fo G j fa ps m) (M : Mk G.K (G.ca c) fa) (hm : G.mg x = some (.ref (G.ca c))) (ha : PA X (e :: es) (DA G mr)) (hj : j + 1 ≤ k := by omega) (hg : Gl X x := by rfl) (hdb : (x == ("__debug__" : Str)) = false := by decide)
    (he : starEach (e :: es) X.env = (false, eval e X.env) :: starEach es X.env := by rfl) (hpl : (backTo pos (starEach es X.env)).any (·.1) = false := by rfl) : PE X (.Call (.Name x p) (e :: es) [] pos) (DE G (mMake c m mr)) := by
  obtain ⟨fd, h1, h2⟩ := F.at C
  exact (pe_make (by rw [C.hK]; exact M) h1 (C.room.mono hj) hg (by rw [C.hm]; exact hm) h2 .nil pass0 ha hdb he hpl).imp (d_make F.ar fun _ _ _ h => h)
theorem r_make0 (C : Ck G X k) (F : Fo G j fa ps m) (M : Mk G.K (G.ca c) fa) (hm : G.mg x = some (.ref (G.ca c))) (hj : j + 1 ≤ k := by omega) (hg : Gl X x := by rfl) (hdb : (x == ("__debug__" : Str)) = false := by decide) : PE X (.Call (.Name x p) [] [] pos) (DE G (mMake c m mNil)) := by
  obtain ⟨fd, h1, h2⟩ := F.at C
  exact (pe_make0 (by rw [C.hK]; exact M) h1 (C.room.mono hj) hg (by rw [C.hm]; exact hm) h2 .nil pass0 hdb).imp (d_make F.ar d_nil)
/-! ### built-ins -/
theorem r_len (C : Ck G X k) (hm : G.mg "len" = none) (ha : PA X [e] (DA G mr)) (hg : Gl X "len" := by rfl) (he : starEach [e] X.env = (false, eval e X.env) :: starEach [] X.env := by rfl) (hpl : (backTo pos (starEach [] X.env)).any (·.1) = false := by rfl) : PE X (.Call (.Name "len" p) [e] [] pos) (DE G (mCall cLen mr)) :=
  (pe_callB call_len_seq hg (by rw [C.hm]; exact hm) (by decide +kernel) ha (by decide) (by decide) he hpl).imp (by rw [C.hK]; exact d_cb cs_len)
theorem r_lenD (C : Ck G X k) (hm : G.mg "len" = none) (ha : PA X [e] (DA G mr)) (hg : Gl X "len" := by rfl) (he : starEach [e] X.env = (false, eval e X.env) :: starEach [] X.env := by rfl) (hpl : (backTo pos (starEach [] X.env)).any (·.1) = false := by rfl) : PE X (.Call (.Name "len" p) [e] [] pos) (DE G (mCall cLenD mr)) :=
  (pe_callB call_lenD hg (by rw [C.hm]; exact hm) (by decide +kernel) ha (by decide) (by decide) he hpl).imp (d_cb cs_lenD)
theorem r_sorted (C : Ck G X k) (hm : G.mg "sorted" = none) (ha : PA X [e] (DA G mr)) (hg : Gl X "sorted" := by rfl) (he : starEach [e] X.env = (false, eval e X.env) :: starEach [] X.env := by rfl) (hpl : (backTo pos (starEach [] X.env)).any (·.1) = false := by rfl) : PE X (.Call (.Name "sorted" p) [e] [] pos) (DE G (mCall cSorted mr)) :=
  (pe_callB cr_sorted hg (by rw [C.hm]; exact hm) (by decide +kernel) ha (by decide) (by decide) he hpl).imp (by rw [C.hK]; exact d_cb cs_sorted)
theorem r_int (C : Ck G X k) (hm : G.mg "int" = none) (ha : PA X [e] (DA G mr)) (hg : Gl X "int" := by rfl) (he : starEach [e] X.env = (false, eval e X.env) :: starEach [] X.env := by rfl) (hpl : (backTo pos (starEach [] X.env)).any (·.1) = false := by rfl) : PE X (.Call (.Name "int" p) [e] [] pos) (DE G (mCall cInt mr)) :=
  (pe_callTy call_int1 hg (by rw [C.hm]; exact hm) (by decide +kernel) ha (by decide) (by decide) he hpl).imp (d_cb cs_int)
theorem r_str (C : Ck G X k) (hm : G.mg "str" = none) (ha : PA X [e] (DA G mr)) (hg : Gl X "str" := by rfl) (he : starEach [e] X.env = (false, eval e X.env) :: starEach [] X.env := by rfl) (hpl : (backTo pos (starEach [] X.env)).any (·.1) = false := by rfl) : PE X (.Call (.Name "str" p) [e] [] pos) (DE G (mCall cStr mr)) :=
  (pe_callTy call_str_int hg (by rw [C.hm]; exact hm) (by decide +kernel) ha (by decide) (by decide) he hpl).imp (d_cb cs_str)
theorem r_list (C : Ck G X k) (hm : G.mg "list" = none) (ha : PA X [e] (DA G mr)) (hg : Gl X "list" := by rfl) (he : starEach [e] X.env = (false, eval e X.env) :: starEach [] X.env := by rfl) (hpl : (backTo pos (starEach [] X.env)).any (·.1) = false := by rfl) : PE X (.Call (.Name "list" p) [e] [] pos) (DE G (mCall cList mr)) :=
  (pe_callTy call_list_of hg (by rw [C.hm]; exact hm) (by decide +kernel) ha (by decide) (by decide) he hpl).imp (by rw [C.hK]; exact d_cb cs_list)
theorem r_tuple (C : Ck G X k) (hm : G.mg "tuple" = none) (ha : PA X [e] (DA G mr)) (hg : Gl X "tuple" := by rfl) (he : starEach [e] X.env = (false, eval e X.env) :: starEach [] X.env := by rfl) (hpl : (backTo pos (starEach [] X.env)).any (·.1) = false := by rfl) : PE X (.Call (.Name "tuple" p) [e] [] pos) (DE G (mCall cTuple mr)) :=
  (pe_callTy call_tuple_of hg (by rw [C.hm]; exact hm) (by decide +kernel) ha (by decide) (by decide) he hpl).imp (by rw [C.hK]; exact d_cb cs_tuple)
theorem r_dict (C : Ck G X k) (hm : G.mg "dict" = none) (ha : PA X [e] (DA G mr)) (hg : Gl X "dict" := by rfl) (he : starEach [e] X.env = (false, eval e X.env) :: starEach [] X.env := by rfl) (hpl : (backTo pos (starEach [] X.env)).any (·.1) = false := by rfl) : PE X (.Call (.Name "dict" p) [e] [] pos) (DE G (mCall cDict mr)) :=
  (pe_callTy call_dcopy hg (by rw [C.hm]; exact hm) (by decide +kernel) ha (by decide) (by decide) he hpl).imp (d_cb cs_dict)
theorem r_isInt (C : Ck G X k) (hm : G.mg "isinstance" = none) (hm2 : G.mg "int" = none) (ha : PE X e (DE G me)) (hg : Gl X "isinstance" := by rfl) (hg2 : Gl X "int" := by rfl) (he1 : starEach [.Name "int" p2] X.env = (false, eval (.Name "int" p2) X.env) :: starEach [] X.env := by rfl) (he : starEach [e, .Name "int" p2] X.env = (false, eval e X.env) :: starEach [.Name "int" p2] X.env := by rfl)
    (hpl : (backTo pos (starEach [.Name "int" p2] X.env)).any (·.1) = false := by rfl) : PE X (.Call (.Name "isinstance" p) [e, .Name "int" p2] [] pos) (DE G (mUn uIsInt me)) :=
  (pe_callB call_isi hg (by rw [C.hm]; exact hm) (by decide +kernel) (pa_cons ha (pa_cons (pe_bltn (v := .ty "int") hg2 (by rw [C.hm]; exact hm2) (by decide +kernel) rfl) pa_nil he1) he) (by decide) (by decide) he hpl).imp (by rw [C.hK]; exact d_isInt)
theorem r_isTup (C : Ck G X k) (hm : G.mg "isinstance" = none) (hm2 : G.mg "tuple" = none) (ha : PE X e (DE G me)) (hg : Gl X "isinstance" := by rfl) (hg2 : Gl X "tuple" := by rfl) (he1 : starEach [.Name "tuple" p2] X.env = (false, eval (.Name "tuple" p2) X.env) :: starEach [] X.env := by rfl) (he : starEach [e, .Name "tuple" p2] X.env = (false, eval e X.env) :: starEach [.Name "tuple" p2] X.env := by rfl)
    (hpl : (backTo pos (starEach [.Name "tuple" p2] X.env)).any (·.1) = false := by rfl) : PE X (.Call (.Name "isinstance" p) [e, .Name "tuple" p2] [] pos) (DE G (mUn uIsTup me)) :=
  (pe_callB call_isi hg (by rw [C.hm]; exact hm) (by decide +kernel) (pa_cons ha (pa_cons (pe_bltn (v := .ty "tuple") hg2 (by rw [C.hm]; exact hm2) (by decide +kernel) rfl) pa_nil he1) he) (by decide) (by decide) he hpl).imp (by rw [C.hK]; exact d_isTup)
/-! ### methods of lists and dicts -/
theorem r_append (C : Ck G X k) (ho : PE X o (DE G mo)) (ha : PA X [e] (DA G mr)) (hbase : attributeBase o "append" X.env (eval o X.env) = eval o X.env := by rfl) (hfew : ((backTo cpos (starEach [e] X.env)).all (fun x => !x.1) && (backToKw cpos (keywordEach [] X.env)).all (fun x => x.1.isSome)
      && decide (([e] : List Expr).length + ([] : List Keyword).length + (if ([] : List Keyword).isEmpty then 0 else 1) < 30)) = true := by rfl) (hline : (apos.endLine == cpos.line) = true := by rfl) (hs : starEach [e] X.env = (false, eval e X.env) :: starEach [] X.env := by rfl) (hplain : (backTo cpos (starEach [] X.env)).any (·.1) = false := by rfl) :
    PE X (.Call (.Attribute o "append" apos) [e] [] cpos) (DE G (mBM bAppend mo mr)) := (pe_bm PySem.F.plainAttrs_list PySem.F.slot_list_append PySem.F.type_list_append mt_append ho ha hbase hfew hline hs hplain).imp (by rw [C.hK]; exact d_bm ms_append)
theorem r_extend (C : Ck G X k) (ho : PE X o (DE G mo)) (ha : PA X [e] (DA G mr)) (hbase : attributeBase o "extend" X.env (eval o X.env) = eval o X.env := by rfl) (hfew : ((backTo cpos (starEach [e] X.env)).all (fun x => !x.1) && (backToKw cpos (keywordEach [] X.env)).all (fun x => x.1.isSome)
      && decide (([e] : List Expr).length + ([] : List Keyword).length + (if ([] : List Keyword).isEmpty then 0 else 1) < 30)) = true := by rfl) (hline : (apos.endLine == cpos.line) = true := by rfl) (hs : starEach [e] X.env = (false, eval e X.env) :: starEach [] X.env := by rfl) (hplain : (backTo cpos (starEach [] X.env)).any (·.1) = false := by rfl) :
    PE X (.Call (.Attribute o "extend" apos) [e] [] cpos) (DE G (mBM bExtend mo mr)) := (pe_bm PySem.F.plainAttrs_list PySem.F.slot_list_extend PySem.F.type_list_extend mt_extend ho ha hbase hfew hline hs hplain).imp (by rw [C.hK]; exact d_bm ms_extend)
theorem r_pop (C : Ck G X k) (ho : PE X o (DE G mo)) (hbase : attributeBase o "pop" X.env (eval o X.env) = eval o X.env := by rfl) (hline : (apos.endLine == cpos.line) = true := by rfl) : PE X (.Call (.Attribute o "pop" apos) [] [] cpos) (DE G (mBM bPop mo mNil)) :=
  (pe_bm0 PySem.F.plainAttrs_list PySem.F.slot_list_pop PySem.F.type_list_pop mt_pop ho hbase hline).imp (by rw [C.hK]; exact d_bm0 ms_pop)
theorem r_get1 (C : Ck G X k) (ho : PE X o (DE G mo)) (ha : PE X e (DE G me)) (m : M1 X o "get" apos e cpos := by exact ⟨rfl, rfl, rfl, rfl⟩) : PE X (.Call (.Attribute o "get" apos) [e] [] cpos) (DE G (mDGet1 mo me)) := (pe_dget1 C.hu ho ha m).imp d_dget1
theorem r_get2 (C : Ck G X k) (ho : PE X o (DE G mo)) (ha : PE X a (DE G ma)) (hb : PE X b (DE G mb)) (m : M2 X o "get" apos a b cpos := by exact ⟨rfl, rfl, rfl, rfl⟩) : PE X (.Call (.Attribute o "get" apos) [a, b] [] cpos) (DE G (mDGet2 mo ma mb)) := (pe_dget2 C.hu ho ha hb m).imp d_dget2
theorem r_popT (C : Ck G X k) (ho : PE X o (DE G mo)) (ha : PA X [a, b] (DA G (mCons ma (mCons mb mNil)))) (hbase : attributeBase o "pop" X.env (eval o X.env) = eval o X.env := by rfl) (hfew : ((backTo cpos (starEach [a, b] X.env)).all (fun x => !x.1) && (backToKw cpos (keywordEach [] X.env)).all (fun x => x.1.isSome)
      && decide (([a, b] : List Expr).length + ([] : List Keyword).length + (if ([] : List Keyword).isEmpty then 0 else 1) < 30)) = true := by rfl) (hline : (apos.endLine == cpos.line) = true := by rfl) (hs : starEach [a, b] X.env = (false, eval a X.env) :: starEach [b] X.env := by rfl) (hplain : (backTo cpos (starEach [b] X.env)).any (·.1) = false := by rfl) :
    PE X (.Call (.Attribute o "pop" apos) [a, b] [] cpos) (DE G (mDPopT mo ma mb)) := (pe_bm PySem.F.plainAttrs_dict PySem.F.slot_dict_pop PySem.F.type_dict_pop (L2.DX.mt_popT C.hu) ho ha hbase hfew hline hs hplain).imp (by rw [C.hK]; exact d_popT)
theorem r_setT (C : Ck G X k) (ho : PE X o (DE G mo)) (ha : PA X [a, b] (DA G (mCons ma (mCons mb mNil)))) (hbase : attributeBase o "setdefault" X.env (eval o X.env) = eval o X.env := by rfl) (hfew : ((backTo cpos (starEach [a, b] X.env)).all (fun x => !x.1) && (backToKw cpos (keywordEach [] X.env)).all (fun x => x.1.isSome)
      && decide (([a, b] : List Expr).length + ([] : List Keyword).length + (if ([] : List Keyword).isEmpty then 0 else 1) < 30)) = true := by rfl) (hline : (apos.endLine == cpos.line) = true := by rfl) (hs : starEach [a, b] X.env = (false, eval a X.env) :: starEach [b] X.env := by rfl) (hplain : (backTo cpos (starEach [b] X.env)).any (·.1) = false := by rfl) :
    PE X (.Call (.Attribute o "setdefault" apos) [a, b] [] cpos) (DE G (mSetdT mo ma mb)) := (pe_bm PySem.F.plainAttrs_dict PySem.F.slot_dict_setdefault PySem.F.type_dict_setdefault (mt_setT C.hu) ho ha hbase hfew hline hs hplain).imp (by rw [C.hK]; exact d_setT)
/-! ### slices -/
theorem o_none : PO X none (DO G mNoP) := ⟨fun pins s σ H Q I h => po_none.run pins s σ H Q I (d_noP σ H Q h)⟩
theorem o_some (h : PE X e (DE G me)) : PO X (some e) (DO G (mP me)) := ⟨fun pins s σ H Q I q => (po_some h).run pins s σ H Q I (d_P σ H Q q)⟩
variable {lo hi : Option Expr} {oa ob : MO}
theorem r_slT (C : Ck G X k) (he : PE X e (DE G me)) (hl : PO X lo (DO G oa)) (hu : PO X hi (DO G ob)) : PE X (.Subscript e (.Slice lo hi none p2) pos) (DE G (mSlT me oa ob)) := (pe_slice sl_tupA he hl hu).imp (by rw [C.hK]; exact d_slT)
theorem r_slL (C : Ck G X k) (he : PE X e (DE G me)) (hl : PO X lo (DO G oa)) (hu : PO X hi (DO G ob)) : PE X (.Subscript e (.Slice lo hi none p2) pos) (DE G (mSlL me oa ob)) := (pe_slice sl_list he hl hu).imp (by rw [C.hK]; exact d_slL)
theorem r_rev (C : Ck G X k) (he : PE X e (DE G me)) {n : Nat} {p1 p2 p3 pos : Pos} : PE X (.Subscript e (.Slice none none (some (.UnaryOp .USub (.Constant (.int 1) n p1) p2)) p3) pos) (DE G (mUn uRev me)) := (pe_revL he).imp (by rw [C.hK]; exact d_rev)
/-! ### what a loop stores into -/
def gTof (G : Gm) : Tg → TG
  | .one i => gName i
  | .tup is => gTup G.K is.length (gsOf is)
theorem gs_tof : ∀ g : Tg, GS G g (gTof G g)
  | .one _ => gs_one
  | .tup _ => gs_tup rfl
theorem g_one (C : Ck G X k) {i : Nat} (hi : X.N[i]? = some x := by rfl) (hx : Loc X.env.scope x := by first | exact Or.inl rfl | exact Or.inr rfl) (hf : X.fn x = true ∨ X.env.scope.names.lookup x = some .local := by first | exact Or.inl rfl | exact Or.inr rfl) : PG X (.Name x pos) (gTof G (.one i)) := pg_name C.nd hi hx hf
theorem gs_nil : PGs X [] (gsOf []) := pgs_nil
theorem gs_cons (C : Ck G X k) {i : Nat} {is : List Nat} (h : PGs X es (gsOf is)) (hi : X.N[i]? = some x := by rfl) (hx : Loc X.env.scope x := by first | exact Or.inl rfl | exact Or.inr rfl) (hf : X.fn x = true ∨ X.env.scope.names.lookup x = some .local := by first | exact Or.inl rfl | exact Or.inr rfl)
    (hs : (assignEach (.Name x pos :: es) X.env).map (·.2) = assign (.Name x pos) X.env :: (assignEach es X.env).map (·.2) := by rfl) : PGs X (.Name x pos :: es) (gsOf (i :: is)) := pgs_cons (pg_name C.nd hi hx hf) h hs
theorem g_tup (C : Ck G X k) {is : List Nat} (h : PGs X es (gsOf is)) (hn : (assignEach es X.env).length = is.length := by rfl) (hst : (assignEach es X.env).findIdx? (·.1) = none := by rfl) : PG X (.Tuple es n pos) (gTof G (.tup is)) := by
  have q : PG X (.Tuple es n pos) (gTup X.K is.length (gsOf is)) := pg_tup C.calm h hn hst
  rw [C.hK] at q
  exact q
/-! ### statements -/
variable {tg it : Expr} {body sts sts2 : List Stmt} {st : Stmt}
theorem z_nil : PSs X [] (DS G mNext) := pss_nil.imp s_next
theorem z_one (h : PS X st (DS G sa)) : PSs X [st] (DS G sa) := pss_one h
theorem z_cons (h : PS X st (DS G sa)) (hr : PSs X sts (DS G sb)) : PSs X (st :: sts) (DS G (mSeq sa sb)) := (pss_cons h hr).imp s_seq
theorem z_pass : PS X (.Pass pos) (DS G mNext) := ps_pass.imp s_next
theorem z_never : PS X st (DS G mNever) := ps_never.imp s_never
theorem z_expr (he : PE X e (DE G me)) (hs : swapsWith e none pos.line X.env = pure false := by rfl) : PS X (.Expr e pos) (DS G (mExpr me)) := (ps_expr he hs).imp s_expr
theorem z_ret (he : PE X e (DE G me)) : PS X (.Return (some e) pos) (DS G (mRet me)) := (ps_ret he).imp s_ret
theorem z_retN : PS X (.Return none pos) (DS G mRetN) := ps_retN.imp s_retN
theorem z_if (ht : PT X e (DT G ta)) (ha : PSs X sts (DS G sa)) (hb : PSs X sts2 (DS G sb)) : PS X (.If e sts sts2 pos) (DS G (mIfS ta sa sb)) := (ps_if ht ha hb).imp s_if
theorem z_while (C : Ck G X k) (ht : PT X e (DT G ta)) (ha : PSs X sts (DS G sa)) : PS X (.While e sts [] pos) (DS G (mWhile ta sa)) := (ps_while C.po ht ha).imp s_while
theorem z_set (C : Ck G X k) {i : Nat} {pos' : Pos} (he : PE X e (DE G me)) (hi : X.N[i]? = some x := by rfl) (hx : Loc X.env.scope x := by first | exact Or.inl rfl | exact Or.inr rfl) (hs : swapsWith e (some (.Name x pos')) pos.line X.env = pure false := by rfl) (hf : X.fn x = true ∨ X.env.scope.names.lookup x = some .local := by first | exact Or.inl rfl | exact Or.inr rfl) :
    PS X (.Assign [.Name x pos'] e pos) (DS G (mSet i me)) := (ps_set C.nd hi hx he hs hf).imp s_set
theorem s_set' {i : Nat} {t : TE} (ht : ∀ σ H Q, DE G me σ H Q → t σ H Q) : ∀ D σ H, DS G (mSet i me) D σ H → tAsg t (gName i) D σ H := fun D σ H h => ht σ H _ (s_set D σ H h)
theorem z_unp (C : Ck G X k) {is : List Nat} (he : PE X e (DE G me)) (h : PGs X es (gsOf is)) (hs : swapsWithSole [.Tuple es n p] e pos.line X.env = pure false := by rfl) (hw : swappedStores [.Tuple es n p] e X.env = pure none := by rfl) (h1 : (assignEach [.Tuple es n p] X.env).map (·.2) = [assign (.Tuple es n p) X.env] := by rfl)
    (hn : (assignEach es X.env).length = is.length := by rfl) (hst : (assignEach es X.env).findIdx? (·.1) = none := by rfl) : PS X (.Assign [.Tuple es n p] e pos) (DS G (mUnp is me)) := (ps_asg he (g_tup C h hn hst) hs hw h1).imp (s_unp rfl)
theorem z_unpL (C : Ck G X k) {is : List Nat} (he : PE X e (DE G me)) (h : PGs X es (gsOf is)) (hs : swapsWithSole [.Tuple es n p] e pos.line X.env = pure false := by rfl) (hw : swappedStores [.Tuple es n p] e X.env = pure none := by rfl) (h1 : (assignEach [.Tuple es n p] X.env).map (·.2) = [assign (.Tuple es n p) X.env] := by rfl)
    (hn : (assignEach es X.env).length = is.length := by rfl) (hst : (assignEach es X.env).findIdx? (·.1) = none := by rfl) : PS X (.Assign [.Tuple es n p] e pos) (DS G (mUnpL is me)) := (ps_asg he (pg_unl C.calm h hn hst) hs hw h1).imp (by rw [C.hK]; exact s_unpL rfl)
theorem z_par (C : Ck G X k) {i j : Nat} {y : Str} {px py pt pt2 : Pos} {kt k2 : Nat} (ha : PA X [a, b] (DA G mr)) (hi : X.N[i]? = some x := by rfl) (hj : X.N[j]? = some y := by rfl) (hij : i ≠ j := by decide) (hx : X.env.scope.names.lookup x = some .local := by rfl) (hy : X.env.scope.names.lookup y = some .local := by rfl)
    (hw : swappedStores [.Tuple [.Name x px, .Name y py] kt pt] (.Tuple [a, b] k2 pt2) X.env = pure (some [x, y]) := by rfl) (hs : swapsWithSole [.Tuple [.Name x px, .Name y py] kt pt] (.Tuple [a, b] k2 pt2) pos.line X.env = pure false := by rfl) :
    PS X (.Assign [.Tuple [.Name x px, .Name y py] kt pt] (.Tuple [a, b] k2 pt2) pos) (DS G (mPar i j mr)) := (ps_par C.calm C.nd hi hj hij hx hy ha hw hs).imp s_par
theorem z_setF (C : Ck G X k) (L : Cl G c) {pos' : Pos} (ho : PE X o (DE G mo)) (hv : PE X e (DE G me)) (hf : (fieldN c)[fi]? = some f := by rfl) (hs : swapsWith e (some (.Attribute o f pos')) pos.line X.env = pure false := by rfl) : PS X (.Assign [.Attribute o f pos'] e pos) (DS G (mSetF mo c fi me)) := (ps_fld ho hv hs).imp (by rw [C.hK]; exact s_setF L hf)
theorem z_addF (C : Ck G X k) (L : Cl G c) {pos' : Pos} (ho : PE X o (DE G mo)) (hv : PE X e (DE G me)) (hf : (fieldN c)[fi]? = some f := by rfl) : PS X (.AugAssign (.Attribute o f pos') .Add e pos) (DS G (mAugF oAdd mo c fi me)) := (ps_fldaug ho hv in_add).imp (by rw [C.hK]; exact s_augF (rd := rAdd) os_add L hf)
theorem z_subF (C : Ck G X k) (L : Cl G c) {pos' : Pos} (ho : PE X o (DE G mo)) (hv : PE X e (DE G me)) (hf : (fieldN c)[fi]? = some f := by rfl) : PS X (.AugAssign (.Attribute o f pos') .Sub e pos) (DS G (mAugF oSub mo c fi me)) := (ps_fldaug ho hv in_sub).imp (by rw [C.hK]; exact s_augF (rd := rSub) os_sub L hf)
theorem z_addV (C : Ck G X k) {i : Nat} {pos' : Pos} (he : PE X e (DE G me)) (hi : X.N[i]? = some x := by rfl) (hx : Loc X.env.scope x := by first | exact Or.inl rfl | exact Or.inr rfl) (hf : X.fn x = true ∨ X.env.scope.names.lookup x = some .local := by first | exact Or.inl rfl | exact Or.inr rfl) :
    PS X (.AugAssign (.Name x pos') .Add e pos) (DS G (mAug oAdd i me)) := (ps_aug C.nd hi hx he ip_add hf).imp (s_aug os_add)
theorem z_subV (C : Ck G X k) {i : Nat} {pos' : Pos} (he : PE X e (DE G me)) (hi : X.N[i]? = some x := by rfl) (hx : Loc X.env.scope x := by first | exact Or.inl rfl | exact Or.inr rfl) (hf : X.fn x = true ∨ X.env.scope.names.lookup x = some .local := by first | exact Or.inl rfl | exact Or.inr rfl) :
    PS X (.AugAssign (.Name x pos') .Sub e pos) (DS G (mAug oSub i me)) := (ps_aug C.nd hi hx he ip_sub hf).imp (s_aug os_sub)
theorem z_dput (C : Ck G X k) {pos' : Pos} (ho : PE X o (DE G md)) (hi : PE X i (DE G mk)) (hv : PE X e (DE G me)) (hs : swapsWith e (some (.Subscript o i pos')) pos.line X.env = pure false := by rfl) : PS X (.Assign [.Subscript o i pos'] e pos) (DS G (mDPut md mk me)) := (ps_dput C.hu ho hi hv hs).imp s_dput
theorem z_lput {pos' : Pos} (ho : PE X o (DE G mo)) (hi : PE X i (DE G mi)) (hv : PE X e (DE G me)) (ha : ∀ v, assign (.Subscript o i pos') X.env v = (do
      let ov ← holding [v] (eval o X.env)
      let iv ← holding [v, ov] (eval i X.env)
      standAt pos'
      holding [v, ov, iv] (setItem ov iv v)
      release [v, ov, iv] []) := by intro _; rfl) (hs : swapsWithSole [.Subscript o i pos'] e pos.line X.env = pure false := by rfl) (hw : swappedStores [.Subscript o i pos'] e X.env = pure none := by rfl) (h1 : (assignEach [.Subscript o i pos'] X.env).map (·.2) = [assign (.Subscript o i pos') X.env] := by rfl) :
    PS X (.Assign [.Subscript o i pos'] e pos) (DS G (mLPut mo mi me)) := (ps_asg hv (pg_sub ho hi set_list ha) hs hw h1).imp s_lput
/-! ### loops -/
theorem z_forT (C : Ck G X k) (hi : PE X it (DE G me)) (hg : PG X tg (gTof G g)) (hb : PSs X body (DS G sa)) (hs : ∀ x, foldedSetIterable it X.env x = pure x := by intro _; rfl) : PS X (.For tg it body [] pos) (DS G (mForT me g sa)) := (ps_for C.po C.calm (pi_tup hi) hg hb hs).imp (by rw [C.hK]; exact s_forT (gs_tof g))
theorem z_forL (C : Ck G X k) (hi : PE X it (DE G me)) (hg : PG X tg (gTof G g)) (hb : PSs X body (DS G sa)) (hs : ∀ x, foldedSetIterable it X.env x = pure x := by intro _; rfl) : PS X (.For tg it body [] pos) (DS G (mForL me g sa)) := (ps_for C.po C.calm (pi_list hi) hg hb hs).imp (by rw [C.hK]; exact s_forL (gs_tof g))
theorem z_forK (C : Ck G X k) (hi : PE X it (DE G me)) (hg : PG X tg (gTof G g)) (hb : PSs X body (DS G sa)) (hs : ∀ x, foldedSetIterable it X.env x = pure x := by intro _; rfl) : PS X (.For tg it body [] pos) (DS G (mForK me g sa)) := (ps_lock (ps_for C.po C.calm (pi_keys hi) hg hb hs)).imp (s_forK (gs_tof g))
theorem z_forE (C : Ck G X k) (hm : G.mg "enumerate" = none) {elts : List Expr} {kk : Nat} {tpos : Pos} (hi : PE X e (DE G me)) (hg : PG X (.Tuple elts kk tpos) (gTof G g)) (hb : PSs X body (DS G sa)) (hgl : Gl X "enumerate" := by rfl) (he : starEach [e] X.env = (false, eval e X.env) :: starEach [] X.env := by rfl) (he2 : starEach [e] X.env = [(false, eval e X.env)] := by rfl)
    (hs : ∀ x, foldedSetIterable (.Call (.Name "enumerate" p) [e] [] p2) X.env x = pure x := by intro _; rfl) : PS X (.For (.Tuple elts kk tpos) (.Call (.Name "enumerate" p) [e] [] p2) body [] pos) (DS G (mForE me g sa)) :=
  (ps_for C.po C.calm (ZgE.pi_en2 hgl (by rw [C.hm]; exact hm) (a_cons hi a_nil he) he2) hg hb hs).imp (by rw [C.hK]; exact s_forE (gs_tof g))
theorem z_forEL (C : Ck G X k) (hm : G.mg "enumerate" = none) {elts : List Expr} {kk : Nat} {tpos : Pos} (hi : PE X e (DE G me)) (hg : PG X (.Tuple elts kk tpos) (gTof G g)) (hb : PSs X body (DS G sa)) (hgl : Gl X "enumerate" := by rfl) (he : starEach [e] X.env = (false, eval e X.env) :: starEach [] X.env := by rfl) (he2 : starEach [e] X.env = [(false, eval e X.env)] := by rfl)
    (hs : ∀ x, foldedSetIterable (.Call (.Name "enumerate" p) [e] [] p2) X.env x = pure x := by intro _; rfl) : PS X (.For (.Tuple elts kk tpos) (.Call (.Name "enumerate" p) [e] [] p2) body [] pos) (DS G (mForEL me g sa)) :=
  (ps_for C.po C.calm (pi_enum hgl (by rw [C.hm]; exact hm) (a_cons hi a_nil he) he2) hg hb hs).imp (by rw [C.hK]; exact s_forEL (gs_tof g))
theorem z_forR1 (C : Ck G X k) (hm : G.mg "range" = none) (hi : PE X e (DE G me)) (hg : PG X tg (gTof G g)) (hb : PSs X body (DS G sa)) (hgl : Gl X "range" := by rfl) (he : starEach [e] X.env = (false, eval e X.env) :: starEach [] X.env := by rfl) (he2 : starEach [e] X.env = [(false, eval e X.env)] := by rfl)
    (hs : ∀ x, foldedSetIterable (.Call (.Name "range" p) [e] [] p2) X.env x = pure x := by intro _; rfl) : PS X (.For tg (.Call (.Name "range" p) [e] [] p2) body [] pos) (DS G (mForR1 me g sa)) :=
  (ps_for C.po C.calm (pi_range1 hgl (by rw [C.hm]; exact hm) (a_cons hi a_nil he) he2) hg hb hs).imp (s_forR1 (gs_tof g))
theorem z_forR3 (C : Ck G X k) (hm : G.mg "range" = none) {e3 : Expr} (hi : PA X [a, b, e3] (DA G mr)) (hg : PG X tg (gTof G g)) (hb : PSs X body (DS G sa)) (hgl : Gl X "range" := by rfl) (he : starEach [a, b, e3] X.env = (false, eval a X.env) :: starEach [b, e3] X.env := by rfl) (hpl : (backTo p2 (starEach [b, e3] X.env)).any (·.1) = false := by rfl)
    (hs : ∀ x, foldedSetIterable (.Call (.Name "range" p) [a, b, e3] [] p2) X.env x = pure x := by intro _; rfl) : PS X (.For tg (.Call (.Name "range" p) [a, b, e3] [] p2) body [] pos) (DS G (mForR3 mr g sa)) :=
  (ps_for C.po C.calm (pi_range3 hgl (by rw [C.hm]; exact hm) hi he hpl) hg hb hs).imp (s_forR3 (gs_tof g))
/-! ### comprehensions -/
variable {scope : Scope} {own : List (Str × Nat)} {ifs : List Expr}
abbrev BG (G : Gm) (X : Cx) (scope : Scope) (tg : Expr) (g : Tg) : Prop := ∀ (s : Shared) (H : Hp) (C : Addr) (cl : List (Str × Addr)) (fp : List Addr), PG (X.blk s H scope (compEnvC scope cl C X.env) fp) tg (gTof G g)
abbrev BT (G : Gm) (X : Cx) (scope : Scope) (ifs : List Expr) (t : MT) : Prop := ∀ (s : Shared) (H : Hp) (C : Addr) (cl : List (Str × Addr)) (fp : List Addr), PTs (X.blk s H scope (compEnvC scope cl C X.env) fp) ifs (DT G t)
abbrev BE (G : Gm) (X : Cx) (scope : Scope) (e : Expr) (m : ME) : Prop := ∀ (s : Shared) (H : Hp) (C : Addr) (cl : List (Str × Addr)) (fp : List Addr), PE (X.blk s H scope (compEnvC scope cl C X.env) fp) e (DE G m)
theorem t_yes : PTs X [] (DT G mYes) := ⟨fun pins s σ H Q I h => pts_nil.run pins s σ H Q I (d_yes σ H Q h)⟩
theorem r_lcT (C : Ck G X k) (own : List (Str × Nat)) (hi : PE X it (DE G me)) (ok : BlkOk X.N X.env.scope scope own) (hg : BG G X scope tg g) (ht : BT G X scope ifs ta) (he : BE G X scope e ma) (hw : ∀ i ∈ g.sl, i ∈ own.map (·.2)) (hs : ∀ x, foldedSetIterable it X.env x = pure x := by intro _; rfl) :
    PE X (.ListComp e [⟨tg, it, ifs, 0⟩] scope pos) (DE G (mLcT me g ta ma (own.map (·.2)))) := (pe_lc C.calm C.nd (pi_tup hi) ok hg ht he hs).imp (by rw [C.hK]; exact d_lcT (gs_tof g) hw)
theorem r_lcL (C : Ck G X k) (own : List (Str × Nat)) (hi : PE X it (DE G me)) (ok : BlkOk X.N X.env.scope scope own) (hg : BG G X scope tg g) (ht : BT G X scope ifs ta) (he : BE G X scope e ma) (hw : ∀ i ∈ g.sl, i ∈ own.map (·.2)) (hs : ∀ x, foldedSetIterable it X.env x = pure x := by intro _; rfl) :
    PE X (.ListComp e [⟨tg, it, ifs, 0⟩] scope pos) (DE G (mLcL me g ta ma (own.map (·.2)))) := (pe_lc C.calm C.nd (pi_list hi) ok hg ht he hs).imp (by rw [C.hK]; exact d_lcL (gs_tof g) hw)
theorem r_lcK (C : Ck G X k) (own : List (Str × Nat)) (hi : PE X it (DE G me)) (ok : BlkOk X.N X.env.scope scope own) (hg : BG G X scope tg g) (ht : BT G X scope ifs ta) (he : BE G X scope e ma) (hw : ∀ i ∈ g.sl, i ∈ own.map (·.2)) (hs : ∀ x, foldedSetIterable it X.env x = pure x := by intro _; rfl) :
    PE X (.ListComp e [⟨tg, it, ifs, 0⟩] scope pos) (DE G (mLcK me g ta ma (own.map (·.2)))) := (pe_lock (pe_lc C.calm C.nd (pi_keys hi) ok hg ht he hs)).imp (d_lcK (gs_tof g) hw)
theorem r_lcE (C : Ck G X k) (hm : G.mg "enumerate" = none) (own : List (Str × Nat)) {elts : List Expr} {kk : Nat} {tpos : Pos} {a : Expr} (hi : PE X a (DE G me)) (ok : BlkOk X.N X.env.scope scope own) (hg : BG G X scope (.Tuple elts kk tpos) g) (ht : BT G X scope ifs ta) (he : BE G X scope e ma) (hw : ∀ i ∈ g.sl, i ∈ own.map (·.2))
    (hgl : Gl X "enumerate" := by rfl) (he1 : starEach [a] X.env = (false, eval a X.env) :: starEach [] X.env := by rfl) (he2 : starEach [a] X.env = [(false, eval a X.env)] := by rfl) (hs : ∀ x, foldedSetIterable (.Call (.Name "enumerate" p) [a] [] p2) X.env x = pure x := by intro _; rfl) :
    PE X (.ListComp e [⟨.Tuple elts kk tpos, .Call (.Name "enumerate" p) [a] [] p2, ifs, 0⟩] scope pos) (DE G (mLcE me g ta ma (own.map (·.2)))) := (pe_lc C.calm C.nd (ZgE.pi_en2 hgl (by rw [C.hm]; exact hm) (a_cons hi a_nil he1) he2) ok hg ht he hs).imp (by rw [C.hK]; exact d_lcE (gs_tof g) hw)
theorem r_dcE (C : Ck G X k) (hm : G.mg "enumerate" = none) (own : List (Str × Nat)) {elts : List Expr} {kk : Nat} {tpos : Pos} {a kx vx : Expr} (hi : PE X a (DE G me)) (ok : BlkOk X.N X.env.scope scope own) (hg : BG G X scope (.Tuple elts kk tpos) g) (hk : BE G X scope kx mk) (he : BE G X scope vx ma) (hw : ∀ i ∈ g.sl, i ∈ own.map (·.2))
    (hgl : Gl X "enumerate" := by rfl) (he1 : starEach [a] X.env = (false, eval a X.env) :: starEach [] X.env := by rfl) (he2 : starEach [a] X.env = [(false, eval a X.env)] := by rfl) (hs : ∀ x, foldedSetIterable (.Call (.Name "enumerate" p) [a] [] p2) X.env x = pure x := by intro _; rfl) :
    PE X (.DictComp kx vx [⟨.Tuple elts kk tpos, .Call (.Name "enumerate" p) [a] [] p2, [], 0⟩] scope pos) (DE G (mDcE me g mk ma (own.map (·.2)))) := (pe_dc C.calm C.nd (pi_enum hgl (by rw [C.hm]; exact hm) (a_cons hi a_nil he1) he2) ok hg (fun _ _ _ _ _ => pts_nil) hk he hs).imp (by rw [C.hK]; exact d_dcE (gs_tof g) hw)
/-- name = [..] -/
theorem z_setLcT (C : Ck G X k) (own : List (Str × Nat)) {i : Nat} {py : Pos} (hi : PE X it (DE G me)) (ok : BlkOk X.N X.env.scope scope own) (hg : BG G X scope tg g) (ht : BT G X scope ifs ta) (he : BE G X scope e ma) (hw : ∀ i ∈ g.sl, i ∈ own.map (·.2)) (hy : X.N[i]? = some x := by rfl) (hyl : X.env.scope.names.lookup x = some .local := by rfl)
    (hk : X.env.scope.kind = .function := by rfl) (hl : (py.line == p.line) = true := by rfl) (hn : (scope.names.any fun (n, k) => n == x && (k == .local || k == .cell)) = false := by rfl) (hs : ∀ x, foldedSetIterable it X.env x = pure x := by intro _; rfl) :
    PS X (.Assign [.Name x py] (.ListComp e [⟨tg, it, ifs, 0⟩] scope p) p2) (DS G (mSet i (mLcT me g ta ma (own.map (·.2))))) := (ps_setLc C.calm C.nd hy hyl (sw_true hk hyl hl hn) (pi_tup hi) ok hg ht he hs).imp (by rw [C.hK]; exact s_set' (d_lcT (gs_tof g) hw))
theorem z_setLcL (C : Ck G X k) (own : List (Str × Nat)) {i : Nat} {py : Pos} (hi : PE X it (DE G me)) (ok : BlkOk X.N X.env.scope scope own) (hg : BG G X scope tg g) (ht : BT G X scope ifs ta) (he : BE G X scope e ma) (hw : ∀ i ∈ g.sl, i ∈ own.map (·.2)) (hy : X.N[i]? = some x := by rfl) (hyl : X.env.scope.names.lookup x = some .local := by rfl)
    (hk : X.env.scope.kind = .function := by rfl) (hl : (py.line == p.line) = true := by rfl) (hn : (scope.names.any fun (n, k) => n == x && (k == .local || k == .cell)) = false := by rfl) (hs : ∀ x, foldedSetIterable it X.env x = pure x := by intro _; rfl) :
    PS X (.Assign [.Name x py] (.ListComp e [⟨tg, it, ifs, 0⟩] scope p) p2) (DS G (mSet i (mLcL me g ta ma (own.map (·.2))))) := (ps_setLc C.calm C.nd hy hyl (sw_true hk hyl hl hn) (pi_list hi) ok hg ht he hs).imp (by rw [C.hK]; exact s_set' (d_lcL (gs_tof g) hw))
end
end Zg
set_option Elab.async false
set_option maxRecDepth 100000
set_option maxHeartbeats 4000000
set_option linter.all false
/-! ZSo: sorted(xs, key=f) of a list of one item. -/
namespace Zg
open PySem PySem.Spec PyProof.Rows L2
section
variable {X : Cx} {j : Nat} {fa : Addr} {fd : FuncData} {ps : List Str} {sp : Sp} {pins : List (Addr × Obj)} {s : Shared} {σ : L2.St} {H : Hp} {y : V} {Q : VK}
theorem room2 {A : Around} (r : Room (j + 1) A) : Room j A.in1.in1 :=
  ⟨r.hd, by have := r.dp; show A.depth + 3 * j + 5 < _; omega, by have := r.un; show A.units + 1 + 1 + 16 * j + 200 < _; omega⟩
/-- the keys are asked for, the list is sorted, and it is tracked -/
theorem sort1_rest (F : FnOk X.prog X.w X.K X.mg X.base CX0 j fa fd ps sp) (hr : Room (j + 1) X.A) (hb : Binds X.K fd ps []) {v : Value} {D kS : Addr} {e1 : Nat} (I : L2.Inv X pins σ H s) (fD : ∀ H' : Hp, H' D = none → FpOk X pins H' D) (fK : ∀ H' : Hp, H' kS = none → FpOk X pins H' kS)
    (hD : s.heap.get? D = some (seqObj "list" #[] e1)) (hK : s.heap.get? kS = some (seqObj "list" #[] 0)) (hne : kS ≠ D) (nD : H D = none) (nK : H kS = none) (ry : RelV y v)
    (h : sp [y] H (fun _ H' => ∀ p, H' p = none → Q (.ref p) (upd H' p (.lst [y]))) E0) :
    wpAny (model X.prog X.w) X.A.in1.in1 (ksk_rest D (.ref fa) false [v].toArray e1 (.ref kS)) (fun fin s' => fin = .done (.ret .none) ∧ EP X pins σ Q (.ref D) s') X.xe s := by
  have I6 : L2.Inv X (pins ++ [(D, seqObj "list" #[] e1), (kS, seqObj "list" #[] 0)]) σ H s := I.pins_of fun p hp => by
    rcases List.mem_append.mp hp with hp | hp
    · exact I.pin p (List.mem_append_right _ hp)
    · rcases List.mem_cons.mp hp with rfl | hp
      · obtain ⟨f0, f1, f2, _⟩ := fD H nD
        exact ⟨hD, f0, f1, f2, fun v => nofun⟩
      · rw [List.mem_singleton.mp hp]
        obtain ⟨f0, f1, f2, _⟩ := fK H nK
        exact ⟨hK, f0, f1, f2, fun v => nofun⟩
  unfold ksk_rest
  refine wpAny_bind (wpAny_rule ?_)
  rw [List.forIn_toArray]
  refine wpAny_bind (ksk_fold (fun i s' => match i with
    | 0 => s' = s
    | _ + 1 => ∃ (u : Value) (H' : Hp) (c : Nat), L2.Inv X pins σ H' s' ∧ s'.heap.get? kS = some (seqObj "list" #[u] c) ∧ s'.heap.get? D = some (seqObj "list" #[] e1) ∧ H' D = none ∧ H' kS = none ∧ Q (.ref D) (upd H' D (.lst [y]))) [v] 0 s rfl ?step ?done)
  case step =>
    intro i x s' hx hi
    cases i with
    | succ i => simp at hx
    | zero =>
      have hx : v = x := by simpa using hx
      subst hx
      have hi : s' = s := hi
      subst hi
      refine wpAny_bind (wpAny_attempt (wpAny_call (codeAny_mono (F.run X.A.in1.in1 X.stack s' H ⟨[v], []⟩ [v] [y] _ E0 (room2 hr) I6.env0.in1.in1 (hb s' [v] I6.kIn (F.len _ _ _ _ h)) (.cons ry .nil) h) fun r s2 hq => ?_)))
      cases r with
      | error e => exact False.elim hq
      | ok fl =>
        cases fl with
        | ret u =>
          obtain ⟨v2, H2, I2, r2, q2⟩ := I6.after hq
          have pD := I2.pin (D, seqObj "list" #[] e1) (List.mem_append_right _ (List.mem_append_right _ (.head _)))
          have pK := I2.pin (kS, seqObj "list" #[] 0) (List.mem_append_right _ (List.mem_append_right _ (.tail _ (.head _))))
          have Iu := I2.unpinned
          have s1 := Heap.SameBut.update s2.heap kS (Obj.mapSeq (·.push u))
          obtain ⟨c2, hc2⟩ : ∃ c2, (s2.heap.update kS (Obj.mapSeq (·.push u))).get? kS = some (seqObj "list" (#[].push u) c2) := ⟨_, get?_update_seq pK.1 (·.push u)⟩
          try dsimp only
          refine wpAny_bind (listUpdate_at pK.1 rfl ?_ (Nat.zero_le _) (Nat.le_trans (Nat.le_of_eq (Array.size_push ..)) (by rw [sizeLine_eq]; exact Nat.le_of_ble_eq_true rfl)))
          refine wpAny_pure ⟨rfl, u, H2, c2, ?_, hc2, (s1.2 D hne.symm).trans pD.1, pD.2.1, pK.2.1, q2 D pD.2.1⟩
          exact Iu.turnedL (t' := s2.toks) (ch := [kS]) (fun b o hb e => (s1.2 b fun z => hb (by simp [z])).trans e) fun b hb => by
            have e : b = kS := by simpa using hb
            subst e
            exact fK H2 pK.2.1
        | next => exact False.elim hq
        | brk => exact False.elim hq
        | cont => exact False.elim hq
  case done =>
    rintro s' ⟨u, H', c, I', gK, gD, nD', nK', q⟩
    have s1 := Heap.SameBut.update s'.heap kS (Obj.mapSeq fun _ => (#[] : Array Value))
    have gD1 : (s'.heap.update kS (Obj.mapSeq fun _ => (#[] : Array Value))).get? D = some (seqObj "list" #[] e1) := (s1.2 D hne.symm).trans gD
    have s2 := Heap.SameBut.update (s'.heap.update kS (Obj.mapSeq fun _ => (#[] : Array Value))) D (Obj.mapSeq fun _ => (#[v] : Array Value))
    obtain ⟨c2, hc2⟩ : ∃ c2, ((s'.heap.update kS (Obj.mapSeq fun _ => (#[] : Array Value))).update D (Obj.mapSeq fun _ => (#[v] : Array Value))).get? D = some (seqObj "list" #[v] c2) := ⟨_, get?_update_seq gD1 fun _ => #[v]⟩
    have I1 : L2.Inv X pins σ H' { s' with heap := s'.heap.update kS (Obj.mapSeq fun _ => (#[] : Array Value)) } := I'.turnedL (t' := s'.toks) (ch := [kS]) (fun b o hb e => (s1.2 b fun z => hb (by simp [z])).trans e) fun b hb => by
      have e : b = kS := by simpa using hb
      subst e
      exact fK H' nK'
    have I2 := I1.take (h' := (s'.heap.update kS (Obj.mapSeq fun _ => (#[] : Array Value))).update D (Obj.mapSeq fun _ => (#[v] : Array Value))) (t' := s'.toks) (it := D) (o := .lst [y]) (fun b ob hb e => (s2.2 b hb).trans e) (fD H' nD')
      ⟨by rw [sizeLine_eq]; exact Nat.le_of_ble_eq_true rfl, [v], c2, .cons ry .nil, hc2⟩
    refine wpAny_bind (listItems_at gK rfl ?_)
    unfold ksk_end
    dsimp only
    rw [if_neg Bool.false_ne_true, if_neg Bool.false_ne_true, if_pos (show [v].toArray.size < 2 from Nat.lt_succ_self 1), if_pos (show [v].toArray.size < 2 from Nat.lt_succ_self 1)]
    refine wpAny_bind (wpAny_pure ?_)
    rw [StateT.run_pure]
    refine wpAny_bind (wpAny_pure ?_)
    dsimp only
    unfold ksk_tail
    have eo : (arrOf (SortSt.mk' general' (#[u].zip [v].toArray) #[] 7 none)).map (·.2) = #[v] := by
      show (#[u].zip [v].toArray).map (·.2) = #[v]
      simp
    dsimp only
    rw [eo, if_neg Bool.false_ne_true]
    refine wpAny_bind (listUpdate_at gK rfl ?_ (by rw [sizeLine_eq]; exact Nat.le_of_ble_eq_true rfl) (Nat.zero_le _))
    refine wpAny_bind (wpAny_letGo ?_)
    refine wpAny_bind (seqEpoch_at gD1 rfl ?_)
    refine wpAny_bind (listUpdate_at gD1 rfl ?_ (Nat.zero_le _) (by rw [sizeLine_eq]; exact Nat.le_of_ble_eq_true rfl))
    simp only [bne_self_eq_false, Bool.false_eq_true, if_false]
    exact wpAny_pure ⟨rfl, .ref D, _, I2, rfl, q⟩
theorem sort1_run (F : FnOk X.prog X.w X.K X.mg X.base CX0 j fa fd ps sp) (hr : Room (j + 1) X.A) (hb : Binds X.K fd ps []) {a : Addr} (I : L2.Inv X pins σ H s) (hs : SqL X.K H a [y])
    (h : sp [y] H (fun _ H' => ∀ p, H' p = none → Q (.ref p) (upd H' p (.lst [y]))) E0) : wpAny (model X.prog X.w) X.A (call (.builtin "sorted") [.ref a] [(Str.ofString "key", .ref fa)]) (EP X pins σ Q) X.xe s := by
  obtain ⟨its, rv, hl, hz⟩ := I.list hs
  obtain ⟨v, rfl, ry⟩ := vals1 rv
  have z1 : [v].length ≤ sizeLine := by rw [sizeLine_eq]; exact Nat.le_of_ble_eq_true rfl
  refine call_function_entry_kw kind_sorted plain_sorted entry_sorted (ksk_s1 _ _) ?_
  unfold Builtin.«sorted»
  refine wpAny_bind (m := checkCount "sorted" 1 1 _) (wpAny_pure ?_)
  refine wpAny_bind (collect_list hl.isList ?_ z1)
  refine wpAny_bind (wpAny_newList ?_ z1)
  have hsz : ((s.heap.push (seqObj "list" #[] 0)).update s.heap.objs.size (Obj.mapSeq (· ++ [v].toArray))).objs.size = s.heap.objs.size + 1 := by
    rw [Heap.size_update, size_push']
  have hoL : (((s.heap.push (seqObj "list" #[] 0)).update s.heap.objs.size (Obj.mapSeq (· ++ [v].toArray))).push (seqObj "list" [v].toArray 0)).get? (s.heap.objs.size + 1) = some (seqObj "list" [v].toArray 0) := by
    rw [← hsz]; exact Heap.get?_push_size _ rfl
  have keep : ∀ b o, s.heap.get? b = some o → (((s.heap.push (seqObj "list" #[] 0)).update s.heap.objs.size (Obj.mapSeq (· ++ [v].toArray))).push (seqObj "list" [v].toArray 0)).get? b = some o := fun b o q => by
    have hlt : b < s.heap.objs.size := Heap.lt_size q
    rw [Heap.get?_push_ne _ _ _ (by rw [hsz]; exact Nat.ne_of_lt (Nat.lt_succ_of_lt hlt)), Heap.get?_update_ne _ _ _ _ (Nat.ne_of_lt hlt), Heap.get?_push_ne _ _ _ (Nat.ne_of_lt hlt)]
    exact q
  have hs2 : (((s.heap.push (seqObj "list" #[] 0)).update s.heap.objs.size (Obj.mapSeq (· ++ [v].toArray))).push (seqObj "list" [v].toArray 0)).objs.size = s.heap.objs.size + 2 := by
    rw [size_push', hsz]
  show wpAny _ _ _ _ _ { s with heap := ((s.heap.push (seqObj "list" #[] 0)).update s.heap.objs.size (Obj.mapSeq (· ++ [v].toArray))).push (seqObj "list" [v].toArray 0) }
  rw [hsz]
  refine wpAny_bind (wpAny_holding (wpAny_call_entry_kw slot_list_sort ⟨_, hoL, rfl⟩ entry_list_sort ?body (ksk_l1 _ _)))
  case body =>
    show wpAny (model X.prog X.w) X.A.in1.in1 (Builtin.«list.sort» ⟨[.ref (s.heap.objs.size + 1)], [(Str.ofString "key", .ref fa)]⟩) _ _ _
    rw [ksk_t1]
    generalize ((s.heap.push (seqObj "list" #[] 0)).update s.heap.objs.size (Obj.mapSeq (· ++ [v].toArray))).push (seqObj "list" [v].toArray 0) = g at hoL keep hs2
    have s1 := Heap.SameBut.update g (s.heap.objs.size + 1) (Obj.mapSeq fun _ => (#[] : Array Value))
    obtain ⟨e1, ho1⟩ : ∃ e1, (g.update (s.heap.objs.size + 1) (Obj.mapSeq fun _ => (#[] : Array Value))).get? (s.heap.objs.size + 1) = some (seqObj "list" #[] e1) := ⟨_, get?_update_seq hoL fun _ => #[]⟩
    have hkS : ((g.update (s.heap.objs.size + 1) (Obj.mapSeq fun _ => (#[] : Array Value))).push (seqObj "tuple" [v].toArray 0)).objs.size = s.heap.objs.size + 3 := by rw [size_push', Heap.size_update, hs2]
    unfold ksk_tree
    refine wpAny_bind (listItems_at hoL rfl ?_)
    refine wpAny_bind (listUpdate_at hoL rfl ?_ (by rw [List.size_toArray]; exact z1) (Nat.zero_le _))
    refine wpAny_bind (seqEpoch_at ho1 rfl ?_)
    refine wpAny_bind (wpAny_newTuple ?_ z1)
    refine wpAny_bind (wpAny_newList ?_ (Nat.zero_le _))
    refine wpAny_holding ?_
    have k5 : ∀ b o, s.heap.get? b = some o → (((g.update (s.heap.objs.size + 1) (Obj.mapSeq fun _ => (#[] : Array Value))).push (seqObj "tuple" [v].toArray 0)).push (seqObj "list" #[] 0)).get? b = some o := fun b o q =>
      Heap.get?_push_of_some _ (Heap.get?_push_of_some _ ((s1.2 b (Nat.ne_of_lt (Nat.lt_succ_of_lt (Heap.lt_size q)))).trans (keep b o q)))
    have I5 := I.kept (t' := s.toks) k5
    have n1 : ((g.update (s.heap.objs.size + 1) (Obj.mapSeq fun _ => (#[] : Array Value))).push (seqObj "tuple" [v].toArray 0)).objs.size ≠ s.heap.objs.size + 1 := by
      rw [hkS]
      exact Nat.ne_of_gt (Nat.lt_of_lt_of_le (Nat.lt_succ_self _) (Nat.le_succ _))
    have n2 : s.heap.objs.size ≤ ((g.update (s.heap.objs.size + 1) (Obj.mapSeq fun _ => (#[] : Array Value))).push (seqObj "tuple" [v].toArray 0)).objs.size := by
      rw [hkS]
      exact Nat.le_add_right _ 3
    refine wpAny_mono (sort1_rest (s := { s with heap := ((g.update (s.heap.objs.size + 1) (Obj.mapSeq fun _ => (#[] : Array Value))).push (seqObj "tuple" [v].toArray 0)).push (seqObj "list" #[] 0) })
      (kS := ((g.update (s.heap.objs.size + 1) (Obj.mapSeq fun _ => (#[] : Array Value))).push (seqObj "tuple" [v].toArray 0)).objs.size) F hr hb I5 (fun H' hn => I.fpOk (Nat.le_succ _) hn) (fun H' hn => I.fpOk n2 hn)
      (Heap.get?_push_of_some _ (Heap.get?_push_of_some _ ho1)) (Heap.get?_push_size _ rfl) n1 (I.hok.fresh (Nat.le_succ _)) (I.hok.fresh n2) ry h) (fun fin s' hq => ⟨_, hq.1, ?_⟩) fun _ _ e => e
    exact wpAny_pure ⟨_, rfl, hq.2⟩
/-- sorted(xs, key=f), one item -/
def rSort1 (K : PySem.W.Frag) (fa : Addr) (sp : Sp) : List V → List V → Hp → VK → Prop := fun vs zs H Q => ∃ (a : Addr) (y : V), vs = [.ref a] ∧ zs = [.ref fa] ∧ SqL K H a [y] ∧ sp [y] H (fun _ H' => ∀ p, H' p = none → Q (.ref p) (upd H' p (.lst [y]))) E0
theorem cr_sort1 (F : FnOk X.prog X.w X.K X.mg X.base CX0 j fa fd ps sp) (hr : Room (j + 1) X.A) (hb : Binds X.K fd ps []) : CallRK X (.builtin "sorted") [Str.ofString "key"] (rSort1 X.K fa sp) := by
  intro pins s σ H vs zs us ws Q I r rz h
  obtain ⟨a, y, rfl, rfl, hs, q⟩ := h
  obtain rfl := Vals.ref1 r
  obtain ⟨w1, rfl, e1⟩ := vals1 rz
  obtain rfl : w1 = Value.ref fa := e1
  exact sort1_run F hr hb I hs q
end
section
variable {G : Gm} {X : Cx} {k : Nat}
theorem d_sort1 {fa : Addr} {m : MF} {me : ME} : ∀ σ H Q, DE G (mSort1 m me) σ H Q → tCKw (rSort1 G.K fa (SpF G m 1)) (tCons (DE G me) tNil) (tCons (tC (.ref fa)) tNil) σ H Q := fun σ H Q ⟨ρ, A, s, v, A', cf, h, o⟩ => by
  obtain ⟨x, A1, h1, h⟩ := bnd_some h
  refine ⟨ρ, A, s, x, A1, cf, h1, fun ρ1 H1 u e1 R1 r1 => ?_⟩
  show rSort1 G.K fa (SpF G m 1) [u] [.ref fa] H1 Q
  split at h
  · rename_i a y hl
    obtain ⟨w2, A2, h2, h⟩ := bnd_some h
    cases h
    have hx : x = .ref a ∧ A1.get a = some (.lst [y]) := by
      unfold lstOf at hl
      split at hl
      · split at hl
        · rename_i hg
          cases hl
          exact ⟨rfl, hg⟩
        · cases hl
      · cases hl
    obtain ⟨rfl, hg⟩ := hx
    cases r1
    obtain ⟨vs, e2, rr⟩ := lst_of R1 hg
    obtain ⟨uy, rfl, ry⟩ := one_of rr
    exact ⟨_, uy, rfl, rfl, SqL.of e2, rfl, ρ1, A1, [y], w2, A2, R1, .one ry, h2, fun ρ2 H2 w e3 R2 r2 p hp => out_lst R2 hp (.one (ry.ext e3)) fun ρ' H' u e R r => o ρ' H' u (e1.trans (e3.trans e)) R r⟩
  · cases h
theorem r_sort1 (C : Ck G X k) {j : Nat} {fa : Addr} {ps : List Str} {m : MF} {x : Str} {p kp px pos : Pos} {e : Expr} {me : ME} (F : Fo G j fa ps m) (hm : G.mg x = some (.ref fa)) (hs : G.mg "sorted" = none) (he : PE X e (DE G me)) (hp1 : ps.length = 1 := by rfl) (hj : j + 1 ≤ k := by omega) (hg : Gl X x := by rfl) (hg2 : Gl X "sorted" := by rfl) (hdb : (x == ("__debug__" : Str)) = false := by decide)
    (h1 : backTo pos (starEach [e] X.env) = (false, eval e X.env) :: backTo pos (starEach [] X.env) := by rfl) (h2 : (backTo pos (starEach [e] X.env)).any (·.1) = false := by rfl) (h3 : starEach [e] X.env = (false, eval e X.env) :: starEach [] X.env := by rfl)
    (hall : (backToKw pos (keywordEach [⟨some "key", .Name x px, kp⟩] X.env)).all (·.1.isSome) = true := by rfl) (hnone : (backToKw pos (keywordEach [⟨some "key", .Name x px, kp⟩] X.env)).any (·.1.isNone) = false := by rfl) (hks : (backToKw pos (keywordEach [⟨some "key", .Name x px, kp⟩] X.env)).filterMap (·.1) = [Str.ofString "key"] := by rfl) :
    PE X (.Call (.Name "sorted" p) [e] [⟨some "key", .Name x px, kp⟩] pos) (DE G (mSort1 m me)) := by
  obtain ⟨fd, f1, f2⟩ := F.at C
  rw [hp1] at f1
  exact (pe_callBK (cr_sort1 f1 (C.room.mono hj) f2) hg2 (by rw [C.hm]; exact hs) (by decide +kernel) (pa_cons he pa_nil h3) (pk_cons (pe_glob hg (by rw [C.hm]; exact hm) (v := .ref fa) rfl hdb) pk_nil) (by decide) (by decide) h1 h2 hall hnone hks).imp (by rw [C.hK]; exact d_sort1)
end
end Zg
set_option Elab.async false
set_option maxRecDepth 100000
set_option maxHeartbeats 4000000
set_option linter.all false
/-! ZD: a def keeps its promise, the facts. -/
namespace Zg
open PySem L2
theorem ends_some {r : Option (Fl × SA × AH)} {v : AV} {A' : AH} (h : ends r = some (v, A')) : ∃ fl s, r = some (fl, s, A') ∧ ((fl = .nx ∧ v = .non) ∨ fl = .rt v) := by
  unfold ends at h
  split at h
  · cases h
    exact ⟨_, _, rfl, .inl ⟨rfl, rfl⟩⟩
  · cases h
    exact ⟨_, _, rfl, .inr rfl⟩
  · cases h
section
variable {G : Gm}
abbrev XX (G : Gm) (N : List Str) (qual : Str) (scope : Scope) (f : Addr) (cdv : Value) (A : Around) (outer : List Env) (s : Shared) (H : Hp) (E : XK) : Cx := (cxOf CX0 G.P G.w G.K G.mg G.base N qual scope f cdv A outer s H E).nox
theorem rst_start {ρ : Nat → Addr} {n : Nat} {H : Hp} {N : List Str} {p m : Nat} {avs : List AV} {vs : List V} (hm : N.length = m) (hp : avs.length = p) (r : RVs G ρ n H avs vs) : RSt G ρ n H (avs.map some ++ List.replicate (m - p) none) (L2.start N vs) := by
  refine ⟨?_, fun i v h => ?_⟩
  · unfold L2.start
    rw [List.length_append, List.length_append, List.length_map, List.length_map, List.length_replicate, List.length_replicate, hm, ← r.length, hp]
  · unfold L2.start
    by_cases hi : i < avs.length
    · rw [List.getElem?_append_left (by rw [List.length_map]; exact hi), List.getElem?_map] at h
      cases e : avs[i]? with
      | none =>
        rw [e] at h
        cases h
      | some w =>
        rw [e] at h
        cases h
        obtain ⟨u, h1, h2⟩ := r.get e
        refine ⟨u, ?_, h2⟩
        rw [List.getElem?_append_left (by rw [List.length_map, ← r.length]; exact hi), List.getElem?_map, h1]
        rfl
    · rw [List.getElem?_append_right (by rw [List.length_map]; omega), List.getElem?_replicate] at h
      split at h <;> cases h
theorem run_some {p n : Nat} {b : MS} {avs : List AV} {A : AH} {r : AV × AH} (h : mRun p n b avs A = some r) : avs.length = p ∧ ends (b (avs.map some ++ List.replicate (n - p) none) A) = some r := by
  obtain ⟨h1, h2⟩ := cond_yes h
  exact ⟨Nat.eq_of_beq_eq_true h1, h2⟩
theorem fdAt_of {K : PySem.W.Frag} {x qual : Str} {params : Arguments} {body : List Stmt} {scope : Scope} {f : Addr} {fd : FuncData} (F : FunD K x qual params body scope [] [] f fd) : FdAt K f fd := by
  obtain ⟨oc, od, _, _, _, _, _, _, _, osl, _, lk, _⟩ := F.ex
  exact ⟨oc, od, osl, lk⟩
theorem fo_of {x qual : Str} {params : Arguments} {body : List Stmt} {scope : Scope} {f : Addr} {N ps : List Str} {k p n : Nat} {b : MS} (F : ∃ fd, FunD G.K x qual params body scope [] [] f fd) (S : FnScope N ps scope) (hp : ps.length = p) (hn : N.length = n)
    (hb : ∀ (kV doc pm : Value) (an : Option Addr) (cdv ct : Value) (us : List Value), us.length = ps.length → bindArgs (PySem.W.fnOf x qual params body scope .none kV doc pm an cdv ct) ⟨us, []⟩ = pure (ps.zip us))
    (D : ∀ cdv A outer s H E, Ck G (XX G N qual scope f cdv A outer s H E) k → PSs (XX G N qual scope f cdv A outer s H E) body (DS G b)) : Fo G (k + 1) f ps (mRun p n b) := by
  obtain ⟨fd, F⟩ := F
  refine ⟨⟨fd, F.ok S (fun vs H Q E h => h.1) fun cdv A outer s H vs Q E hr h => ⟨DS G b, PSs.nox (D cdv A outer s H E ⟨⟨rfl, rfl, rfl, rfl, rfl, rfl, hr, S.nd⟩, PassesOwn.never⟩), ?_⟩, F.bindsN hb, fdAt_of F⟩, F.kp, fun avs A r h => (run_some h).1.trans hp.symm⟩
  obtain ⟨hl, ρ, A, avs, v, A', R, rr, hm, o⟩ := h
  obtain ⟨h1, h2⟩ := run_some hm
  obtain ⟨fl, s1, h3, h4⟩ := ends_some h2
  refine ⟨ρ, A, _, _, ⟨rst_start hn h1 rr, R⟩, h3, fun ρ' H' e' R' => ?_⟩
  rcases h4 with ⟨rfl, rfl⟩ | rfl
  · exact fun σ' _ => o ρ' H' .non e' R' .non
  · exact fun u hu => o ρ' H' u e' R' hu
theorem fo_none {x qual : Str} {params : Arguments} {body : List Stmt} {scope : Scope} {f : Addr} {N ps : List Str} {k : Nat} (F : ∃ fd, FunD G.K x qual params body scope [] [] f fd) (S : FnScope N ps scope)
    (hb : ∀ (kV doc pm : Value) (an : Option Addr) (cdv ct : Value) (us : List Value), us.length = ps.length → bindArgs (PySem.W.fnOf x qual params body scope .none kV doc pm an cdv ct) ⟨us, []⟩ = pure (ps.zip us)) : Fo G (k + 1) f ps (fun _ _ => none) := by
  obtain ⟨fd, F⟩ := F
  refine ⟨⟨fd, F.ok S (fun vs H Q E h => h.1) fun cdv A outer s H vs Q E hr h => ?_, F.bindsN hb, fdAt_of F⟩, F.kp, fun avs A r h => by cases h⟩
  obtain ⟨hl, ρ, A, avs, v, A', R, rr, hm, o⟩ := h
  cases hm
/-! ### the facts -/
def freeN : List Str := ["len", "int", "str", "list", "tuple", "dict", "sorted", "isinstance", "enumerate", "range"]
def kindsC : List Nat := [1817325, 232290021, 13166, 209221228, 1899245, 228162035, 13542, 1782516, 1896697]
structure FC (gl : List Str) (mt : List (Nat × Str × Str)) (fn : List He.DefD) (G : Gm) : Prop where
  free : ∀ (i : Nat) x, freeN[i]? = some x → G.mg x = none
  cl : ∀ c, c < 12 → Cl G c
  cg : ∀ (c : Nat) x, clsN[c]? = some x → G.mg x = some (.ref (G.ca c))
  glo : ∀ (i : Nat) x, gl[i]? = some x → G.mg x = some (.ref (He.fAd G.K (x, none)))
  mt : ∀ (i : Nat) c C nm, mt[i]? = some (c, C, nm) → Meth G.K (G.ca c) nm (He.fAd G.K (C, some nm))
  mkr : ∀ (c : Nat) C, clsN[c]? = some C → Mk G.K (G.ca c) (He.fAd G.K (C, some "__init__"))
  dd : ∀ (i : Nat) d, fn[i]? = some d → ∃ fd, FunD G.K d.name d.qual d.params d.body d.scope [] [] (He.fAd G.K d.at_) fd
  kinds : ∀ x : Str, x = "KINDS" ∨ x = "CHANGEABLE" → ∃ p, G.mg x = some (.ref p) ∧ (∀ H, SqT G.K H p ((kindsC.map dS).map V.str)) ∧ ∃ o, G.K.lookup p = some o ∧ o.cls = .type "tuple" ∧ o.dict = none
  parts : ∃ p, G.mg "PARTS" = some (.ref p) ∧ ∀ q ∈ partsOf, ∃ a, KDct G.K G.w p (dS q.1) (.ref a) ∧ ∀ H, SqT G.K H a (q.2.map V.int)
  most : ∃ t, G.mg "MOST_NODES" = some (.int 20000 t)
theorem kinds_rv {ρ : Nat → Addr} {n : Nat} {H : Hp} : ∀ l : List Nat, RVs G ρ n H (l.map .str) ((l.map dS).map V.str)
  | [] => .nil
  | c :: l => .cons (.str c) (kinds_rv l)
section
variable {X : Cx} {k : Nat} {gl : List Str} {mt : List (Nat × Str × Str)} {fn : List He.DefD}
theorem r_kinds (C : Ck G X k) (F : FC gl mt fn G) {x : Str} {pos : Pos} (hx : x = "KINDS" ∨ x = "CHANGEABLE") (hg : Gl X x := by rfl) (hd : (x == ("__debug__" : Str)) = false := by decide) : PE X (.Name x pos) (DE G (mC (.ktup (kindsC.map .str)))) := by
  obtain ⟨p, h1, h2, _⟩ := F.kinds x hx
  exact re_gtup C.toCok hg h1 h2 (fun _ _ _ => kinds_rv _) hd
theorem r_index (C : Ck G X k) (F : FC gl mt fn G) {x : Str} {p apos cpos : Pos} {e : Expr} {me : ME} (hx : x = "KINDS" ∨ x = "CHANGEABLE") (he : PE X e (DE G me)) (hg : Gl X x := by rfl) (hd : (x == ("__debug__" : Str)) = false := by decide) (hbase : attributeBase (.Name x p) "index" X.env (eval (.Name x p) X.env) = eval (.Name x p) X.env := by rfl) (hfew : ((backTo cpos (starEach [e] X.env)).all (fun x => !x.1) && (backToKw cpos (keywordEach [] X.env)).all (fun x => x.1.isSome)
      && decide (([e] : List Expr).length + ([] : List Keyword).length + (if ([] : List Keyword).isEmpty then 0 else 1) < 30)) = true := by rfl) (hline : (apos.endLine == cpos.line) = true := by rfl) (hs : starEach [e] X.env = (false, eval e X.env) :: starEach [] X.env := by rfl) (hplain : (backTo cpos (starEach [] X.env)).any (·.1) = false := by rfl) :
    PE X (.Call (.Attribute (.Name x p) "index" apos) [e] [] cpos) (DE G (mOp oIndex (mC (.ktup (kindsC.map .str))) me)) := by
  obtain ⟨q, h1, h2, h3⟩ := F.kinds x hx
  exact (pe_bm PySem.F.plainAttrs_tuple PySem.F.slot_tuple_index PySem.F.type_tuple_index mt_tup_index (pe_glob hg (by rw [C.hm]; exact h1) (v := .ref q) rfl hd) (a_cons he a_nil hs) hbase hfew hline hs hplain).imp (by rw [C.hK]; exact d_index h2 h3)
theorem r_parts (C : Ck G X k) (F : FC gl mt fn G) {p pos : Pos} {e : Expr} {me : ME} (he : PE X e (DE G me)) (hg : Gl X "PARTS" := by rfl) (hp : PlainIx e := by exact fun _ _ => rfl) : PE X (.Subscript (.Name "PARTS" p) e pos) (DE G (mUn uParts me)) := by
  obtain ⟨q, h1, h2⟩ := F.parts
  exact (pe_ix ix_kdict (pe_glob hg (by rw [C.hm]; exact h1) (v := .ref q) rfl) he hp).imp (by rw [C.hK, C.hw]; exact d_parts (X := X) h2)
theorem r_most (C : Ck G X k) (F : FC gl mt fn G) {pos : Pos} (hg : Gl X "MOST_NODES" := by rfl) : PE X (.Name "MOST_NODES" pos) (DE G (mC (.int 20000))) := by
  obtain ⟨t, h⟩ := F.most
  exact r_gint C h hg
end
end
end Zg
set_option Elab.async false
set_option maxRecDepth 100000
set_option maxHeartbeats 4000000
set_option linter.all false
/-! ZDa: the defs as data; printed by gen.py. -/
namespace Zg
open PySem L2
def top (i : Nat) : Stmt := PySem.Challenge.pw_ziggurat_k15_long_runs.main.body.getD i (.Pass ⟨0, 0, 0, 0⟩)
def inCl (s : Stmt) (j : Nat) : Stmt := (match s with
  | .ClassDef (body := b) .. => b
  | _ => []).getD j (.Pass ⟨0, 0, 0, 0⟩)
abbrev st_Frame_init : Stmt := inCl (top 1) 0
abbrev st_Machine_init : Stmt := inCl (top 2) 0
abbrev st_Machine_run : Stmt := inCl (top 2) 1
abbrev st_Machine_execute : Stmt := inCl (top 2) 2
abbrev st_Machine_go : Stmt := inCl (top 2) 3
abbrev st_Machine_turn : Stmt := inCl (top 2) 4
abbrev st_Machine_step : Stmt := inCl (top 2) 5
abbrev st_Machine_operate : Stmt := inCl (top 2) 6
abbrev st_Machine_call : Stmt := inCl (top 2) 7
abbrev st_shown_machine : Stmt := top 3
abbrev st_target : Stmt := top 5
abbrev st_run_code : Stmt := top 6
abbrev st_Numbering_init : Stmt := inCl (top 14) 0
abbrev st_Numbering_expression : Stmt := inCl (top 14) 1
abbrev st_About_init : Stmt := inCl (top 15) 0
abbrev st_Collapser_init : Stmt := inCl (top 16) 0
abbrev st_Collapser_fresh : Stmt := inCl (top 16) 1
abbrev st_Collapser_node : Stmt := inCl (top 16) 2
abbrev st_Collapser_expression : Stmt := inCl (top 16) 3
abbrev st_Collapser_built_in : Stmt := inCl (top 16) 4
abbrev st_Collapser_part : Stmt := inCl (top 16) 5
abbrev st_Collapser_parts : Stmt := inCl (top 16) 6
abbrev st_Collapser_usual : Stmt := inCl (top 16) 7
abbrev st_Collapser_other : Stmt := inCl (top 16) 8
abbrev st_number_of : Stmt := top 17
abbrev st_switch_of : Stmt := top 18
abbrev st_with_name_collapsing : Stmt := top 19
abbrev st_collapse : Stmt := top 21
abbrev st_inner : Stmt := top 23
abbrev st_shown_plain : Stmt := top 24
abbrev st_Link_init : Stmt := inCl (top 26) 0
abbrev st_find : Stmt := top 27
abbrev st_PlainRun_init : Stmt := inCl (top 28) 0
abbrev st_PlainRun_run : Stmt := inCl (top 28) 1
abbrev st_PlainRun_go : Stmt := inCl (top 28) 2
abbrev st_PlainRun_wait : Stmt := inCl (top 28) 3
abbrev st_PlainRun_step : Stmt := inCl (top 28) 4
abbrev st_PlainRun_stick : Stmt := inCl (top 28) 5
abbrev st_PlainRun_begin : Stmt := inCl (top 28) 6
abbrev st_PlainRun_pass_through : Stmt := inCl (top 28) 7
abbrev st_PlainRun_resume : Stmt := inCl (top 28) 8
abbrev st_PlainRun_decide : Stmt := inCl (top 28) 9
abbrev st_PlainRun_operate : Stmt := inCl (top 28) 10
abbrev st_PlainRun_enter : Stmt := inCl (top 28) 11
abbrev st_with_name_plain : Stmt := top 29
abbrev st_chosen : Stmt := top 31
abbrev st_run_plain : Stmt := top 32
abbrev st_bound : Stmt := top 34
abbrev st_Layout_init : Stmt := inCl (top 35) 0
abbrev st_Layout_number : Stmt := inCl (top 35) 1
abbrev st_Layout_place : Stmt := inCl (top 35) 2
abbrev st_Layout_find_free : Stmt := inCl (top 35) 3
abbrev st_Block_init : Stmt := inCl (top 36) 0
abbrev st_Block_label : Stmt := inCl (top 36) 1
abbrev st_Block_slot : Stmt := inCl (top 36) 2
abbrev st_Block_fill : Stmt := inCl (top 36) 3
abbrev st_Block_tasks : Stmt := inCl (top 36) 4
abbrev st_Block_captured : Stmt := inCl (top 36) 5
abbrev st_Block_binding : Stmt := inCl (top 36) 6
abbrev st_Block_branching : Stmt := inCl (top 36) 7
abbrev st_Block_made : Stmt := inCl (top 36) 8
abbrev st_Block_linked : Stmt := inCl (top 36) 9
abbrev st_Compiler_init : Stmt := inCl (top 37) 0
abbrev st_Compiler_add : Stmt := inCl (top 37) 1
abbrev st_compile_plain : Stmt := top 38
abbrev st_parts_of : Stmt := top 41
abbrev st_shown_tower : Stmt := top 42
abbrev st_Setting_init : Stmt := inCl (top 44) 0
abbrev st_Setting_with_name : Stmt := inCl (top 44) 1
abbrev st_Tower_init : Stmt := inCl (top 45) 0
abbrev st_Tower_run : Stmt := inCl (top 45) 1
abbrev st_Tower_go : Stmt := inCl (top 45) 2
abbrev st_Tower_go_built_in : Stmt := inCl (top 45) 3
abbrev st_Tower_step : Stmt := inCl (top 45) 4
abbrev st_Tower_stick : Stmt := inCl (top 45) 5
abbrev st_Tower_begin : Stmt := inCl (top 45) 6
abbrev st_Tower_change_or_ask : Stmt := inCl (top 45) 7
abbrev st_Tower_resume : Stmt := inCl (top 45) 8
abbrev st_Tower_put_back : Stmt := inCl (top 45) 9
abbrev st_Tower_bind_let : Stmt := inCl (top 45) 10
abbrev st_Tower_gathered : Stmt := inCl (top 45) 11
abbrev st_Tower_decide : Stmt := inCl (top 45) 12
abbrev st_Tower_operate : Stmt := inCl (top 45) 13
abbrev st_Tower_enter : Stmt := inCl (top 45) 14
abbrev st_run : Stmt := top 46
abbrev st__law_start : Stmt := top 48
abbrev st__law_fill : Stmt := top 49
abbrev st__law_take : Stmt := top 50
abbrev st__law_turn : Stmt := top 51
abbrev st__law_started : Stmt := top 52
abbrev st__law_doubled : Stmt := top 53
abbrev st__law_counted : Stmt := top 54
abbrev st_law : Stmt := top 55
def FN : List He.DefD := [⟨("Frame", some "__init__"), "__init__", "Frame.__init__", defArgs st_Frame_init, defBody st_Frame_init, defScope st_Frame_init, [], []⟩,
  ⟨("Machine", some "__init__"), "__init__", "Machine.__init__", defArgs st_Machine_init, defBody st_Machine_init, defScope st_Machine_init, [], []⟩,
  ⟨("Machine", some "run"), "run", "Machine.run", defArgs st_Machine_run, defBody st_Machine_run, defScope st_Machine_run, [], []⟩,
  ⟨("Machine", some "execute"), "execute", "Machine.execute", defArgs st_Machine_execute, defBody st_Machine_execute, defScope st_Machine_execute, [], []⟩,
  ⟨("Machine", some "go"), "go", "Machine.go", defArgs st_Machine_go, defBody st_Machine_go, defScope st_Machine_go, [], []⟩,
  ⟨("Machine", some "turn"), "turn", "Machine.turn", defArgs st_Machine_turn, defBody st_Machine_turn, defScope st_Machine_turn, [], []⟩,
  ⟨("Machine", some "step"), "step", "Machine.step", defArgs st_Machine_step, defBody st_Machine_step, defScope st_Machine_step, [], []⟩,
  ⟨("Machine", some "operate"), "operate", "Machine.operate", defArgs st_Machine_operate, defBody st_Machine_operate, defScope st_Machine_operate, [], []⟩,
  ⟨("Machine", some "call"), "call", "Machine.call", defArgs st_Machine_call, defBody st_Machine_call, defScope st_Machine_call, [], []⟩,
  ⟨("shown_machine", none), "shown", "shown", defArgs st_shown_machine, defBody st_shown_machine, defScope st_shown_machine, [], []⟩,
  ⟨("target", none), "target", "target", defArgs st_target, defBody st_target, defScope st_target, [], []⟩,
  ⟨("run_code", none), "run_code", "run_code", defArgs st_run_code, defBody st_run_code, defScope st_run_code, [], []⟩,
  ⟨("Numbering", some "__init__"), "__init__", "Numbering.__init__", defArgs st_Numbering_init, defBody st_Numbering_init, defScope st_Numbering_init, [], []⟩,
  ⟨("Numbering", some "expression"), "expression", "Numbering.expression", defArgs st_Numbering_expression, defBody st_Numbering_expression, defScope st_Numbering_expression, [], []⟩,
  ⟨("About", some "__init__"), "__init__", "About.__init__", defArgs st_About_init, defBody st_About_init, defScope st_About_init, [], []⟩,
  ⟨("Collapser", some "__init__"), "__init__", "Collapser.__init__", defArgs st_Collapser_init, defBody st_Collapser_init, defScope st_Collapser_init, [], []⟩,
  ⟨("Collapser", some "fresh"), "fresh", "Collapser.fresh", defArgs st_Collapser_fresh, defBody st_Collapser_fresh, defScope st_Collapser_fresh, [], []⟩,
  ⟨("Collapser", some "node"), "node", "Collapser.node", defArgs st_Collapser_node, defBody st_Collapser_node, defScope st_Collapser_node, [], []⟩,
  ⟨("Collapser", some "expression"), "expression", "Collapser.expression", defArgs st_Collapser_expression, defBody st_Collapser_expression, defScope st_Collapser_expression, [], []⟩,
  ⟨("Collapser", some "built_in"), "built_in", "Collapser.built_in", defArgs st_Collapser_built_in, defBody st_Collapser_built_in, defScope st_Collapser_built_in, [], []⟩,
  ⟨("Collapser", some "part"), "part", "Collapser.part", defArgs st_Collapser_part, defBody st_Collapser_part, defScope st_Collapser_part, [], []⟩,
  ⟨("Collapser", some "parts"), "parts", "Collapser.parts", defArgs st_Collapser_parts, defBody st_Collapser_parts, defScope st_Collapser_parts, [], []⟩,
  ⟨("Collapser", some "usual"), "usual", "Collapser.usual", defArgs st_Collapser_usual, defBody st_Collapser_usual, defScope st_Collapser_usual, [], []⟩,
  ⟨("Collapser", some "other"), "other", "Collapser.other", defArgs st_Collapser_other, defBody st_Collapser_other, defScope st_Collapser_other, [], []⟩,
  ⟨("number_of", none), "number_of", "number_of", defArgs st_number_of, defBody st_number_of, defScope st_number_of, [], []⟩,
  ⟨("switch_of", none), "switch_of", "switch_of", defArgs st_switch_of, defBody st_switch_of, defScope st_switch_of, [], []⟩,
  ⟨("with_name_collapsing", none), "with_name", "with_name", defArgs st_with_name_collapsing, defBody st_with_name_collapsing, defScope st_with_name_collapsing, [], []⟩,
  ⟨("collapse", none), "collapse", "collapse", defArgs st_collapse, defBody st_collapse, defScope st_collapse, [], []⟩,
  ⟨("inner", none), "inner", "inner", defArgs st_inner, defBody st_inner, defScope st_inner, [], []⟩,
  ⟨("shown_plain", none), "shown", "shown", defArgs st_shown_plain, defBody st_shown_plain, defScope st_shown_plain, [], []⟩,
  ⟨("Link", some "__init__"), "__init__", "Link.__init__", defArgs st_Link_init, defBody st_Link_init, defScope st_Link_init, [], []⟩,
  ⟨("find", none), "find", "find", defArgs st_find, defBody st_find, defScope st_find, [], []⟩,
  ⟨("PlainRun", some "__init__"), "__init__", "PlainRun.__init__", defArgs st_PlainRun_init, defBody st_PlainRun_init, defScope st_PlainRun_init, [], []⟩,
  ⟨("PlainRun", some "run"), "run", "PlainRun.run", defArgs st_PlainRun_run, defBody st_PlainRun_run, defScope st_PlainRun_run, [], []⟩,
  ⟨("PlainRun", some "go"), "go", "PlainRun.go", defArgs st_PlainRun_go, defBody st_PlainRun_go, defScope st_PlainRun_go, [], []⟩,
  ⟨("PlainRun", some "wait"), "wait", "PlainRun.wait", defArgs st_PlainRun_wait, defBody st_PlainRun_wait, defScope st_PlainRun_wait, [], []⟩,
  ⟨("PlainRun", some "step"), "step", "PlainRun.step", defArgs st_PlainRun_step, defBody st_PlainRun_step, defScope st_PlainRun_step, [], []⟩,
  ⟨("PlainRun", some "stick"), "stick", "PlainRun.stick", defArgs st_PlainRun_stick, defBody st_PlainRun_stick, defScope st_PlainRun_stick, [], []⟩,
  ⟨("PlainRun", some "begin"), "begin", "PlainRun.begin", defArgs st_PlainRun_begin, defBody st_PlainRun_begin, defScope st_PlainRun_begin, [], []⟩,
  ⟨("PlainRun", some "pass_through"), "pass_through", "PlainRun.pass_through", defArgs st_PlainRun_pass_through, defBody st_PlainRun_pass_through, defScope st_PlainRun_pass_through, [], []⟩,
  ⟨("PlainRun", some "resume"), "resume", "PlainRun.resume", defArgs st_PlainRun_resume, defBody st_PlainRun_resume, defScope st_PlainRun_resume, [], []⟩,
  ⟨("PlainRun", some "decide"), "decide", "PlainRun.decide", defArgs st_PlainRun_decide, defBody st_PlainRun_decide, defScope st_PlainRun_decide, [], []⟩,
  ⟨("PlainRun", some "operate"), "operate", "PlainRun.operate", defArgs st_PlainRun_operate, defBody st_PlainRun_operate, defScope st_PlainRun_operate, [], []⟩,
  ⟨("PlainRun", some "enter"), "enter", "PlainRun.enter", defArgs st_PlainRun_enter, defBody st_PlainRun_enter, defScope st_PlainRun_enter, [], []⟩,
  ⟨("with_name_plain", none), "with_name", "with_name", defArgs st_with_name_plain, defBody st_with_name_plain, defScope st_with_name_plain, [], []⟩,
  ⟨("chosen", none), "chosen", "chosen", defArgs st_chosen, defBody st_chosen, defScope st_chosen, [], []⟩,
  ⟨("run_plain", none), "run_plain", "run_plain", defArgs st_run_plain, defBody st_run_plain, defScope st_run_plain, [], []⟩,
  ⟨("bound", none), "bound", "bound", defArgs st_bound, defBody st_bound, defScope st_bound, [], []⟩,
  ⟨("Layout", some "__init__"), "__init__", "Layout.__init__", defArgs st_Layout_init, defBody st_Layout_init, defScope st_Layout_init, [], []⟩,
  ⟨("Layout", some "number"), "number", "Layout.number", defArgs st_Layout_number, defBody st_Layout_number, defScope st_Layout_number, [], []⟩,
  ⟨("Layout", some "place"), "place", "Layout.place", defArgs st_Layout_place, defBody st_Layout_place, defScope st_Layout_place, [], []⟩,
  ⟨("Layout", some "find_free"), "find_free", "Layout.find_free", defArgs st_Layout_find_free, defBody st_Layout_find_free, defScope st_Layout_find_free, [], []⟩,
  ⟨("Block", some "__init__"), "__init__", "Block.__init__", defArgs st_Block_init, defBody st_Block_init, defScope st_Block_init, [], []⟩,
  ⟨("Block", some "label"), "label", "Block.label", defArgs st_Block_label, defBody st_Block_label, defScope st_Block_label, [], []⟩,
  ⟨("Block", some "slot"), "slot", "Block.slot", defArgs st_Block_slot, defBody st_Block_slot, defScope st_Block_slot, [], []⟩,
  ⟨("Block", some "fill"), "fill", "Block.fill", defArgs st_Block_fill, defBody st_Block_fill, defScope st_Block_fill, [], []⟩,
  ⟨("Block", some "tasks"), "tasks", "Block.tasks", defArgs st_Block_tasks, defBody st_Block_tasks, defScope st_Block_tasks, [], []⟩,
  ⟨("Block", some "captured"), "captured", "Block.captured", defArgs st_Block_captured, defBody st_Block_captured, defScope st_Block_captured, [], []⟩,
  ⟨("Block", some "binding"), "binding", "Block.binding", defArgs st_Block_binding, defBody st_Block_binding, defScope st_Block_binding, [], []⟩,
  ⟨("Block", some "branching"), "branching", "Block.branching", defArgs st_Block_branching, defBody st_Block_branching, defScope st_Block_branching, [], []⟩,
  ⟨("Block", some "made"), "made", "Block.made", defArgs st_Block_made, defBody st_Block_made, defScope st_Block_made, [], []⟩,
  ⟨("Block", some "linked"), "linked", "Block.linked", defArgs st_Block_linked, defBody st_Block_linked, defScope st_Block_linked, [], []⟩,
  ⟨("Compiler", some "__init__"), "__init__", "Compiler.__init__", defArgs st_Compiler_init, defBody st_Compiler_init, defScope st_Compiler_init, [], []⟩,
  ⟨("Compiler", some "add"), "add", "Compiler.add", defArgs st_Compiler_add, defBody st_Compiler_add, defScope st_Compiler_add, [], []⟩,
  ⟨("compile_plain", none), "compile_plain", "compile_plain", defArgs st_compile_plain, defBody st_compile_plain, defScope st_compile_plain, [], []⟩,
  ⟨("parts_of", none), "parts_of", "parts_of", defArgs st_parts_of, defBody st_parts_of, defScope st_parts_of, [], []⟩,
  ⟨("shown_tower", none), "shown", "shown", defArgs st_shown_tower, defBody st_shown_tower, defScope st_shown_tower, [], []⟩,
  ⟨("Setting", some "__init__"), "__init__", "Setting.__init__", defArgs st_Setting_init, defBody st_Setting_init, defScope st_Setting_init, [], []⟩,
  ⟨("Setting", some "with_name"), "with_name", "Setting.with_name", defArgs st_Setting_with_name, defBody st_Setting_with_name, defScope st_Setting_with_name, [], []⟩,
  ⟨("Tower", some "__init__"), "__init__", "Tower.__init__", defArgs st_Tower_init, defBody st_Tower_init, defScope st_Tower_init, [], []⟩,
  ⟨("Tower", some "run"), "run", "Tower.run", defArgs st_Tower_run, defBody st_Tower_run, defScope st_Tower_run, [], []⟩,
  ⟨("Tower", some "go"), "go", "Tower.go", defArgs st_Tower_go, defBody st_Tower_go, defScope st_Tower_go, [], []⟩,
  ⟨("Tower", some "go_built_in"), "go_built_in", "Tower.go_built_in", defArgs st_Tower_go_built_in, defBody st_Tower_go_built_in, defScope st_Tower_go_built_in, [], []⟩,
  ⟨("Tower", some "step"), "step", "Tower.step", defArgs st_Tower_step, defBody st_Tower_step, defScope st_Tower_step, [], []⟩,
  ⟨("Tower", some "stick"), "stick", "Tower.stick", defArgs st_Tower_stick, defBody st_Tower_stick, defScope st_Tower_stick, [], []⟩,
  ⟨("Tower", some "begin"), "begin", "Tower.begin", defArgs st_Tower_begin, defBody st_Tower_begin, defScope st_Tower_begin, [], []⟩,
  ⟨("Tower", some "change_or_ask"), "change_or_ask", "Tower.change_or_ask", defArgs st_Tower_change_or_ask, defBody st_Tower_change_or_ask, defScope st_Tower_change_or_ask, [], []⟩,
  ⟨("Tower", some "resume"), "resume", "Tower.resume", defArgs st_Tower_resume, defBody st_Tower_resume, defScope st_Tower_resume, [], []⟩,
  ⟨("Tower", some "put_back"), "put_back", "Tower.put_back", defArgs st_Tower_put_back, defBody st_Tower_put_back, defScope st_Tower_put_back, [], []⟩,
  ⟨("Tower", some "bind_let"), "bind_let", "Tower.bind_let", defArgs st_Tower_bind_let, defBody st_Tower_bind_let, defScope st_Tower_bind_let, [], []⟩,
  ⟨("Tower", some "gathered"), "gathered", "Tower.gathered", defArgs st_Tower_gathered, defBody st_Tower_gathered, defScope st_Tower_gathered, [], []⟩,
  ⟨("Tower", some "decide"), "decide", "Tower.decide", defArgs st_Tower_decide, defBody st_Tower_decide, defScope st_Tower_decide, [], []⟩,
  ⟨("Tower", some "operate"), "operate", "Tower.operate", defArgs st_Tower_operate, defBody st_Tower_operate, defScope st_Tower_operate, [], []⟩,
  ⟨("Tower", some "enter"), "enter", "Tower.enter", defArgs st_Tower_enter, defBody st_Tower_enter, defScope st_Tower_enter, [], []⟩,
  ⟨("run", none), "run", "run", defArgs st_run, defBody st_run, defScope st_run, [], []⟩,
  ⟨("_law_start", none), "_law_start", "_law_start", defArgs st__law_start, defBody st__law_start, defScope st__law_start, [], []⟩,
  ⟨("_law_fill", none), "_law_fill", "_law_fill", defArgs st__law_fill, defBody st__law_fill, defScope st__law_fill, [], []⟩,
  ⟨("_law_take", none), "_law_take", "_law_take", defArgs st__law_take, defBody st__law_take, defScope st__law_take, [], []⟩,
  ⟨("_law_turn", none), "_law_turn", "_law_turn", defArgs st__law_turn, defBody st__law_turn, defScope st__law_turn, [], []⟩,
  ⟨("_law_started", none), "_law_started", "_law_started", defArgs st__law_started, defBody st__law_started, defScope st__law_started, [], []⟩,
  ⟨("_law_doubled", none), "_law_doubled", "_law_doubled", defArgs st__law_doubled, defBody st__law_doubled, defScope st__law_doubled, [], []⟩,
  ⟨("_law_counted", none), "_law_counted", "_law_counted", defArgs st__law_counted, defBody st__law_counted, defScope st__law_counted, [], []⟩,
  ⟨("law", none), "law", "law", defArgs st_law, defBody st_law, defScope st_law, [], []⟩]
def gloN : List Str := ["shown_machine", "target", "run_code", "number_of", "switch_of", "with_name_collapsing", "collapse", "inner", "shown_plain", "find", "with_name_plain", "chosen", "run_plain", "bound", "compile_plain", "parts_of", "shown_tower", "run", "_law_start", "_law_fill", "_law_take", "_law_turn", "_law_started", "_law_doubled", "_law_counted", "law"]
def methN : List (Nat × Str × Str) := [⟨1, "Machine", "run"⟩, ⟨1, "Machine", "execute"⟩, ⟨1, "Machine", "go"⟩, ⟨1, "Machine", "turn"⟩, ⟨1, "Machine", "step"⟩, ⟨1, "Machine", "operate"⟩, ⟨1, "Machine", "call"⟩, ⟨2, "Numbering", "expression"⟩, ⟨4, "Collapser", "fresh"⟩, ⟨4, "Collapser", "node"⟩, ⟨4, "Collapser", "expression"⟩, ⟨4, "Collapser", "built_in"⟩, ⟨4, "Collapser", "part"⟩, ⟨4, "Collapser", "parts"⟩, ⟨4, "Collapser", "usual"⟩, ⟨4, "Collapser", "other"⟩, ⟨6, "PlainRun", "run"⟩, ⟨6, "PlainRun", "go"⟩, ⟨6, "PlainRun", "wait"⟩, ⟨6, "PlainRun", "step"⟩, ⟨6, "PlainRun", "stick"⟩, ⟨6, "PlainRun", "begin"⟩, ⟨6, "PlainRun", "pass_through"⟩, ⟨6, "PlainRun", "resume"⟩, ⟨6, "PlainRun", "decide"⟩, ⟨6, "PlainRun", "operate"⟩, ⟨6, "PlainRun", "enter"⟩, ⟨7, "Layout", "number"⟩, ⟨7, "Layout", "place"⟩, ⟨7, "Layout", "find_free"⟩, ⟨8, "Block", "label"⟩, ⟨8, "Block", "slot"⟩, ⟨8, "Block", "fill"⟩, ⟨8, "Block", "tasks"⟩, ⟨8, "Block", "captured"⟩, ⟨8, "Block", "binding"⟩, ⟨8, "Block", "branching"⟩, ⟨8, "Block", "made"⟩, ⟨8, "Block", "linked"⟩, ⟨9, "Compiler", "add"⟩, ⟨10, "Setting", "with_name"⟩, ⟨11, "Tower", "run"⟩, ⟨11, "Tower", "go"⟩, ⟨11, "Tower", "go_built_in"⟩, ⟨11, "Tower", "step"⟩, ⟨11, "Tower", "stick"⟩, ⟨11, "Tower", "begin"⟩, ⟨11, "Tower", "change_or_ask"⟩, ⟨11, "Tower", "resume"⟩, ⟨11, "Tower", "put_back"⟩, ⟨11, "Tower", "bind_let"⟩, ⟨11, "Tower", "gathered"⟩, ⟨11, "Tower", "decide"⟩, ⟨11, "Tower", "operate"⟩, ⟨11, "Tower", "enter"⟩]
abbrev FZ (G : Gm) : Prop := FC gloN methN FN G
end Zg
set_option Elab.async false
set_option maxRecDepth 100000
set_option maxHeartbeats 4000000
set_option linter.all false
/-! ZH: the facts that the head tells. -/
namespace Zg
open PySem PySem.Spec PyProof.Rows L2
def clN (c : Nat) : Str := clsN.getD c ""
def faN : List He.Fa := freeN.map .free ++ (clsN.map .cls ++ (clsN.map .glo ++ (clsN.map .mkr ++ (gloN.map .glo ++ (methN.map (fun q => .meth q.2.1 q.2.2) ++ ((List.range 12).flatMap (fun c => (fieldN c).map fun f => .noat (clN c) f) ++ [.int "MOST_NODES" 20000, .glo "KINDS", .glo "CHANGEABLE", .glo "PARTS"]))))))
def tsN : List He.Tab := [(fun K => He.ga K "PARTS", partsOf.map fun q => dS q.1)]
/-- a tuple of the module at a -/
def tupA (K : PySem.W.Frag) (a : Addr) (vs : List V) : Bool := match K.lookup a with
  | some ⟨.type c, none, .seq its _, _⟩ => decide (c = "tuple") && (decide (its.size ≤ sizeLine) && He.relAll vs its.toList)
  | _ => false
theorem tupA_ok {K : PySem.W.Frag} {a : Addr} {vs : List V} (h : tupA K a vs = true) : (∀ H, SqT K H a vs) ∧ ∃ o, K.lookup a = some o ∧ o.cls = .type "tuple" ∧ o.dict = none := by
  unfold tupA at h
  split at h
  · rename_i c its n sl q
    obtain ⟨h1, h2⟩ := and_yes h
    obtain ⟨h3, h4⟩ := and_yes h2
    have e1 := of_decide_eq_true h1
    exact ⟨fun H => .inr ⟨_, its, n, q, congrArg Value.type e1, rfl, of_decide_eq_true h3, He.relAll_ok h4⟩, _, q, congrArg Value.type e1, rfl⟩
  · cases h
def partB (K : PySem.W.Frag) : Bool := partsOf.all fun q => match PySem.W.nsIn K (He.ga K "PARTS") (dS q.1) with
  | some (some (.ref a)) => tupA K a (q.2.map V.int)
  | _ => false
def nolB (K : PySem.W.Frag) : Bool := K.all fun q => match q.2.cls with
  | .type c => !decide (c = "list")
  | _ => true
def exN (K : PySem.W.Frag) : Bool := tupA K (He.ga K "KINDS") ((kindsC.map dS).map V.str) && (tupA K (He.ga K "CHANGEABLE") ((kindsC.map dS).map V.str) && (partB K && nolB K))
theorem lookup_mem' {a : Addr} {o : Obj} : ∀ {l : List (Addr × Obj)}, l.lookup a = some o → (a, o) ∈ l := fun h => He.lookup_mem h
theorem nol_ok {K : PySem.W.Frag} (h : nolB K = true) {a : Addr} {o : Obj} (q : K.lookup a = some o) : o.cls ≠ .type "list" := fun e => by
  have := List.all_eq_true.mp h (a, o) (lookup_mem' q)
  have this : (match o.cls with
    | .type c => !decide (c = "list")
    | _ => true) = true := this
  rw [e] at this
  cases this
/-- the record of the whole at a top -/
def gmN (P : Program) (w : World) (K : PySem.W.Frag) (mg : Str → Option Value) (base : Heap) : Gm := ⟨P, w, K, mg, base, fun c => He.ga K (clN c), fun i => if i = 0 then 1 else 0, rfl, fun i _ => by
  show (0 : Int) ≤ if i = 0 then 1 else 0
  split <;> decide, fun i => if i = 1 then [.non] else [], fun i => by
  show (if i = 1 then [V.non] else []).length ≤ _
  split
  · decide
  · decide, by decide⟩
theorem mem_of {α : Type} {l : List α} {i : Nat} {x : α} (h : l[i]? = some x) : x ∈ l := List.mem_of_getElem? h
section
variable {P : Program} {w : World} {K : PySem.W.Frag} {h : Heap} {mg : Str → Option Value} {base : Heap}
theorem clN_of {c : Nat} {x : Str} (e : clsN[c]? = some x) : clN c = x := by
  unfold clN
  rw [List.getD_eq_getElem?_getD, e]
  rfl
theorem fz_of (X : K.In h) (Gn : h.Ns mainGlobals mg) (S : He.SaysX faN FN tsN [] exN w h K) : FZ (gmN P w K mg base) := by
  have sd : He.SaysD faN FN K := S.t.d
  have fact : ∀ f, f ∈ faN → f.ok K = true := fun f hf => He.SaysD.facts sd hf
  obtain ⟨k1, ex⟩ := and_yes S.more
  obtain ⟨k2, ex⟩ := and_yes ex
  obtain ⟨k3, _⟩ := and_yes ex
  have A1 : ∀ {x}, x ∈ freeN → He.Fa.free x ∈ faN := fun {x} hx => List.mem_append_left _ (List.mem_map.mpr ⟨x, hx, rfl⟩)
  have A2 : ∀ {x}, x ∈ clsN → He.Fa.cls x ∈ faN := fun {x} hx => List.mem_append_right _ (List.mem_append_left _ (List.mem_map.mpr ⟨x, hx, rfl⟩))
  have A3 : ∀ {x}, x ∈ clsN → He.Fa.glo x ∈ faN := fun {x} hx => List.mem_append_right _ (List.mem_append_right _ (List.mem_append_left _ (List.mem_map.mpr ⟨x, hx, rfl⟩)))
  have A4 : ∀ {x}, x ∈ clsN → He.Fa.mkr x ∈ faN := fun {x} hx => List.mem_append_right _ (List.mem_append_right _ (List.mem_append_right _ (List.mem_append_left _ (List.mem_map.mpr ⟨x, hx, rfl⟩))))
  have A5 : ∀ {x}, x ∈ gloN → He.Fa.glo x ∈ faN := fun {x} hx => List.mem_append_right _ (List.mem_append_right _ (List.mem_append_right _ (List.mem_append_right _ (List.mem_append_left _ (List.mem_map.mpr ⟨x, hx, rfl⟩)))))
  have A6 : ∀ {q : Nat × Str × Str}, q ∈ methN → He.Fa.meth q.2.1 q.2.2 ∈ faN := fun {q} hx => List.mem_append_right _ (List.mem_append_right _ (List.mem_append_right _ (List.mem_append_right _ (List.mem_append_right _ (List.mem_append_left _ (List.mem_map.mpr ⟨q, hx, rfl⟩))))))
  have A7 : ∀ {c : Nat} {f : Str}, c < 12 → f ∈ fieldN c → He.Fa.noat (clN c) f ∈ faN := fun {c f} hc hf => List.mem_append_right _ (List.mem_append_right _ (List.mem_append_right _ (List.mem_append_right _ (List.mem_append_right _ (List.mem_append_right _ (List.mem_append_left _ (List.mem_flatMap.mpr ⟨c, List.mem_range.mpr hc, List.mem_map.mpr ⟨f, hf, rfl⟩⟩)))))))
  have A8 : ∀ {f}, f ∈ [He.Fa.int "MOST_NODES" 20000, .glo "KINDS", .glo "CHANGEABLE", .glo "PARTS"] → f ∈ faN := fun {f} hf => List.mem_append_right _ (List.mem_append_right _ (List.mem_append_right _ (List.mem_append_right _ (List.mem_append_right _ (List.mem_append_right _ (List.mem_append_right _ hf))))))
  have cin : ∀ c, c < 12 → clN c ∈ clsN := fun c hc => match c, hc with
    | 0, _ => by decide +kernel
    | 1, _ => by decide +kernel
    | 2, _ => by decide +kernel
    | 3, _ => by decide +kernel
    | 4, _ => by decide +kernel
    | 5, _ => by decide +kernel
    | 6, _ => by decide +kernel
    | 7, _ => by decide +kernel
    | 8, _ => by decide +kernel
    | 9, _ => by decide +kernel
    | 10, _ => by decide +kernel
    | 11, _ => by decide +kernel
    | _ + 12, h => absurd h (by omega)
  have nd : ∀ c, (fieldN c).Nodup ∧ (fieldN c).length ≤ 100 := fun c => match c with
    | 0 => by decide +kernel
    | 1 => by decide +kernel
    | 2 => by decide +kernel
    | 3 => by decide +kernel
    | 4 => by decide +kernel
    | 5 => by decide +kernel
    | 6 => by decide +kernel
    | 7 => by decide +kernel
    | 8 => by decide +kernel
    | 9 => by decide +kernel
    | 10 => by decide +kernel
    | 11 => by decide +kernel
    | _ + 12 => ⟨.nil, Nat.zero_le _⟩
  refine ⟨fun i x e => He.free_ok X Gn (fact _ (A1 (mem_of e))), fun c hc => ⟨He.cls_ok (fact _ (A2 (cin c hc))), fun f hf => He.noat_ok (fact _ (A7 hc hf)), (nd c).1, (nd c).2⟩, fun c x e => ?_, fun i x e => He.glo_ok X Gn (fact _ (A5 (mem_of e))), fun i c C nm e => ?_, fun c C e => ?_, fun i d e => ?_, fun x hx => ?_, ?_, ?_⟩
  · show mg x = some (.ref (He.ga K (clN c)))
    rw [clN_of e]
    exact He.glo_ok X Gn (fact _ (A3 (mem_of e)))
  · have hm := mem_of e
    have : methN.all (fun q => decide (clN q.1 = q.2.1)) = true := by decide +kernel
    have e2 : clN c = C := of_decide_eq_true (List.all_eq_true.mp this _ hm)
    show Meth K (He.ga K (clN c)) nm _
    rw [e2]
    exact He.meth_ok (fact _ (A6 hm))
  · show Mk K (He.ga K (clN c)) _
    rw [clN_of e]
    exact He.mkr_ok (fact _ (A4 (mem_of e)))
  · have hm := mem_of e
    obtain ⟨fd, D⟩ := He.SaysD.defs sd hm
    have : FN.all (fun d => d.dfl.isEmpty && d.kwd.isEmpty) = true := rfl
    obtain ⟨e1, e2⟩ := and_yes (List.all_eq_true.mp this _ hm)
    refine ⟨fd, ?_⟩
    have d1 : d.dvs K = [] := by
      unfold He.DefD.dvs
      rw [List.isEmpty_iff.mp e1]
      rfl
    have d2 : d.kws K = [] := by
      unfold He.DefD.kws
      rw [List.isEmpty_iff.mp e2]
      rfl
    rw [d1, d2] at D
    exact D
  · rcases hx with rfl | rfl
    · obtain ⟨t1, t2⟩ := tupA_ok k1
      exact ⟨_, He.glo_ok X Gn (fact _ (A8 (mem_of (i := 1) rfl))), t1, t2⟩
    · obtain ⟨t1, t2⟩ := tupA_ok k2
      exact ⟨_, He.glo_ok X Gn (fact _ (A8 (mem_of (i := 2) rfl))), t1, t2⟩
  · obtain ⟨es, n, D⟩ := S.t.tab 0 rfl
    refine ⟨_, He.glo_ok X Gn (fact _ (A8 (mem_of (i := 3) rfl))), fun q hq => ?_⟩
    have := List.all_eq_true.mp k3 q hq
    have this : (match PySem.W.nsIn K (He.ga K "PARTS") (dS q.1) with
      | some (some (.ref a)) => tupA K a (q.2.map V.int)
      | _ => false) = true := this
    split at this
    · rename_i a ha
      exact ⟨a, ⟨es, n, .ref a, D.at_, D.lit, ha, rfl⟩, (tupA_ok this).1⟩
    · cases this
  · exact He.int_ok X Gn (fact _ (A8 (mem_of (i := 0) rfl)))
end
end Zg
set_option Elab.async false
set_option maxRecDepth 100000
set_option maxHeartbeats 0
set_option linter.all false
/-! ZT: the head's run. -/
namespace Zg
open PySem PySem.Spec PyProof.Rows L2
abbrev RwZ : PySem.W.OpenRow := PySem.W.OpenLaw.row PySem.Challenge.rw_ziggurat_k15_long_runs
def looseA : List Str := ["Frame", "Machine", "shown", "shown_machine", "target", "run_code", "ZigguratError", "LimitError", "KINDS", "PARTS", "MOST_NODES", "Numbering", "About", "Collapser", "number_of", "switch_of", "with_name", "with_name_collapsing", "collapse", "inner", "shown_plain", "Link", "find"]
def looseB : List Str := ["PlainRun", "with_name_plain", "chosen", "run_plain", "bound", "Layout", "Block", "Compiler", "compile_plain", "CHANGEABLE", "parts_of", "shown_tower", "Setting", "Tower", "run", "_law_start", "_law_fill", "_law_take", "_law_turn", "_law_started", "_law_doubled", "_law_counted"]
def looseN : List Str := looseA ++ looseB
/-- where the objects of the top lie that are looked at -/
def asZ : List Addr := [3, 31, 99, 182, 203, 292, 353, 458, 524, 598, 626, 676, 795, 151, 30, 98, 181, 202, 291, 352,
  457, 523, 597, 625, 675, 794, 652, 110, 117, 124, 303, 310, 469, 317, 324, 329, 336, 364, 476, 483,
  490, 637, 645, 806, 811, 818, 825, 832, 839, 846, 853, 860, 28, 49, 56, 61, 68, 75, 82, 89,
  96, 174, 179, 200, 221, 228, 235, 242, 249, 256, 263, 270, 277, 350, 378, 385, 392, 399, 406, 413,
  420, 427, 434, 441, 448, 455, 502, 507, 514, 521, 540, 547, 554, 561, 568, 573, 580, 585, 590, 595,
  616, 623, 666, 673, 694, 701, 708, 715, 722, 729, 736, 743, 750, 757, 764, 771, 778, 785, 792, 651,
  109, 116, 123, 302, 309, 468, 316, 323, 328, 335, 363, 475, 482, 489, 636, 644, 805, 810, 817, 824,
  831, 838, 845, 852, 859, 27, 48, 55, 60, 67, 74, 81, 88, 95, 173, 178, 199, 220, 227, 234,
  241, 248, 255, 262, 269, 276, 349, 377, 384, 391, 398, 405, 412, 419, 426, 433, 440, 447, 454, 501,
  506, 513, 520, 539, 546, 553, 560, 567, 572, 579, 584, 589, 594, 615, 622, 665, 672, 693, 700, 707,
  714, 721, 728, 735, 742, 749, 756, 763, 770, 777, 784, 791, 150, 638, 152, 153, 154, 155, 156, 157,
  158, 159, 160]
def obsL (fa : List He.Fa) (fn : List He.DefD) (ts : List He.Tab) (ex : PySem.W.Frag → Bool) (as : List Addr) (g : Addr → Option Obj) : He.AlX := (He.obsT fa fn ts (He.frG g as), ex (He.frG g as))
theorem saysL_of {fa : List He.Fa} {fn : List He.DefD} {ts : List He.Tab} {ex : PySem.W.Frag → Bool} {as : List Addr} {w : World} {h : Heap} (e : obsL fa fn ts ex as h.get? = He.valX fn ts w) : He.SaysX fa fn ts [] ex w h (He.frG h.get? as) :=
  ⟨congrArg (fun z : He.AlX => z.1) e, congrArg (fun z : He.AlX => z.2) e, fun p hp => (nomatch hp), fun p hp => (nomatch hp), fun p hp => (nomatch hp)⟩
/-- a Hook that looks at listed objects alone -/
def hookL (fa : List He.Fa) (fn : List He.DefD) (ts : List He.Tab) (ex : PySem.W.Frag → Bool) (as : List Addr) : PySem.W.Hook where
  α := He.AlX
  obs := fun s => obsL fa fn ts ex as s.heap.get?
  val := fun w => He.valX fn ts w
  says := fun w h => ∃ K : PySem.W.Frag, K.In h ∧ He.SaysX fa fn ts [] ex w h K
  of := fun _ _ e => ⟨_, He.frG_in, saysL_of e⟩
  keeps := fun _ _ _ ⟨K, hK, c⟩ k => ⟨K, PySem.W.Frag.In.keeps hK k, ⟨c.t, c.more, fun p hp => (nomatch hp), fun p hp => (nomatch hp), fun p hp => (nomatch hp)⟩⟩
abbrev hkZ : PySem.W.Hook := hookL faN FN tsN exN asZ
def obZ (s : PySem.W.SharedT) : He.AlX := obsL faN FN tsN exN asZ (HandSHeadRun.getT s)
theorem obZ_eq (s : PySem.W.SharedT) : obZ s = hkZ.obs s.abs := by
  have e : HandSHeadRun.getT s = s.abs.heap.get? := funext fun a => HandSHeadRun.getT_eq s a
  show obsL faN FN tsN exN asZ (HandSHeadRun.getT s) = obsL faN FN tsN exN asZ s.abs.heap.get?
  rw [e]
theorem runZ_f (w : World) : HandSHeadRun.RunEq RwZ (PySem.W.view RwZ.prog [55]) hkZ obZ 6200 looseN (w.withFollow "special-get-raises" false) := by
  intro os
  kernel_rfl
theorem runZ_t (w : World) : HandSHeadRun.RunEq RwZ (PySem.W.view RwZ.prog [55]) hkZ obZ 6200 looseN (w.withFollow "special-get-raises" true) := by
  intro os
  kernel_rfl
theorem runZ (w : World) : HandSHeadRun.RunEq RwZ (PySem.W.view RwZ.prog [55]) hkZ obZ 6200 looseN w := PySem.W.byRow2 (P := fun w => HandSHeadRun.RunEq RwZ (PySem.W.view RwZ.prog [55]) hkZ obZ 6200 looseN w) "special-get-raises" runZ_f runZ_t w
end Zg
set_option Elab.async false
set_option maxRecDepth 100000
set_option maxHeartbeats 4000000
set_option linter.all false
/-! ZG1: states of the abstract machine seen again: other numbers of the objects, other unknowns, stacks cut. -/
namespace Zg
open PySem L2
structure Ex where
  ev : Nat → Int
  ev0 : ev 0 = 1
  evp : ∀ i, 3 ≤ i → 0 ≤ ev i
  st : Nat → List V
  stl : ∀ i, (st i).length ≤ 5000000
  stn : st 1 ≠ []
def Gm.re (G : Gm) (x : Ex) : Gm := ⟨G.P, G.w, G.K, G.mg, G.base, G.ca, x.ev, x.ev0, x.evp, x.st, x.stl, x.stn⟩
/-! ### unknowns for unknowns -/
def lsb : List (List Int) → List Int → List Int
  | t :: r, c :: l => ladd (lscl c t) (lsb r l)
  | [], _ => []
  | _, [] => []
def evS (ev : Nat → Int) (t : List (List Int)) (i : Nat) : Int := match t[i]? with
  | some l => lv ev 0 l
  | none => 0
theorem lv_none {ev : Nat → Int} {t : List (List Int)} : ∀ (l : List Int) (i : Nat), t.length ≤ i → lv (evS ev t) i l = 0
  | [], _, _ => rfl
  | c :: l, i, h => by
    show c * evS ev t i + lv (evS ev t) (i + 1) l = 0
    rw [lv_none l (i + 1) (by omega)]
    have : evS ev t i = 0 := by
      unfold evS
      rw [List.getElem?_eq_none_iff.mpr h]
    rw [this, Int.mul_zero, Int.add_zero]
theorem lv_sb' {ev : Nat → Int} {t : List (List Int)} : ∀ (l : List Int) (i : Nat), lv ev 0 (lsb (t.drop i) l) = lv (evS ev t) i l
  | [], i => by
    cases t.drop i <;> rfl
  | c :: l, i => by
    cases e : t.drop i with
    | nil =>
      rw [lv_none (c :: l) i (by simpa using e)]
      rfl
    | cons a r =>
      have h1 : t[i]? = some a := by
        have := congrArg (fun z => z[0]?) e
        simpa using this
      have h2 : t.drop (i + 1) = r := by
        have := congrArg (fun z => z.drop 1) e
        rw [List.drop_drop] at this
        simpa using this
      show lv ev 0 (ladd (lscl c a) (lsb r l)) = c * evS ev t i + lv (evS ev t) (i + 1) l
      rw [lv_add, lv_scl, ← h2, lv_sb' l (i + 1)]
      unfold evS
      rw [h1]
theorem lv_sb {ev : Nat → Int} {t : List (List Int)} (l : List Int) : lv ev 0 (lsb t l) = lv (evS ev t) 0 l := lv_sb' (t := t) l 0
def lz (l : List Int) : Bool := l.all fun x => ieq x 0
theorem lz_ok {ev : Nat → Int} : ∀ (l : List Int) (i : Nat), lz l = true → lv ev i l = 0
  | [], _, _ => rfl
  | c :: l, i, h => by
    obtain ⟨h1, h2⟩ := and_yes (show (ieq c 0 && lz l) = true from h)
    rw [ieq_dec] at h1
    have h1 := of_decide_eq_true h1
    show c * ev i + lv ev (i + 1) l = 0
    rw [lz_ok l (i + 1) h2, h1, Int.zero_mul, Int.add_zero]
def leq (a b : List Int) : Bool := lz (lsub a b)
theorem leq_ok {ev : Nat → Int} {a b : List Int} (h : leq a b = true) : lv ev 0 a = lv ev 0 b := by
  have := lz_ok (ev := ev) _ 0 h
  rw [lv_sub] at this
  omega
def nrm : List Int → AV
  | [] => .int 0
  | c :: r => cond (lz r) (.int c) (.sym (c :: r))
/-! ### objects by other numbers -/
abbrev PM := List (Nat × Nat)
def pget : PM → Nat → Option Nat
  | [], _ => none
  | (i, j) :: r, k => cond (i.beq k) (some j) (pget r k)
def poq (p : PM) (n i j : Nat) : Bool := i.blt n && match pget p i with
  | some k => k.beq j
  | none => false
mutual
def simV (p : PM) (t : List (List Int)) (n : Nat) : AV → AV → Bool
  | .non, y => match y with
    | .non => true
    | _ => false
  | .bl b, y => match y with
    | .bl c => cond b c (!c)
    | _ => false
  | .int i, y => match y with
    | .int j => ieq i j
    | .sym l => leq [i] l
    | _ => false
  | .sym k, y => match y with
    | .int j => leq (lsb t k) [j]
    | .sym l => leq (lsb t k) l
    | _ => false
  | .str c, y => match y with
    | .str d => c.beq d
    | _ => false
  | .tup xs, y => match y with
    | .tup ys => simVs p t n xs ys
    | _ => false
  | .ktup xs, y => match y with
    | .ktup ys => simVs p t n xs ys
    | _ => false
  | .ref i, y => match y with
    | .ref j => poq p n i j
    | _ => false
  | .any, _ => true
def simVs (p : PM) (t : List (List Int)) (n : Nat) : List AV → List AV → Bool
  | [], ys => ys.isEmpty
  | x :: xs, ys => match ys with
    | y :: ys => simV p t n x y && simVs p t n xs ys
    | [] => false
end
def ρp (p : PM) (ρ : Nat → Addr) (i : Nat) : Addr := match pget p i with
  | some j => ρ j
  | none => 0
theorem poq_ok {p : PM} {n i j : Nat} (h : poq p n i j = true) : i < n ∧ pget p i = some j := by
  obtain ⟨h1, h2⟩ := and_yes h
  refine ⟨Nat.blt_eq.mp h1, ?_⟩
  split at h2
  · rename_i k hk
    rw [hk, Nat.eq_of_beq_eq_true h2]
  · cases h2
theorem ρp_ok {p : PM} {ρ : Nat → Addr} {i j : Nat} (h : pget p i = some j) : ρp p ρ i = ρ j := by
  unfold ρp
  rw [h]
theorem lv_int (ev : Nat → Int) (h : ev 0 = 1) (i : Int) : lv ev 0 [i] = i := by
  show i * ev 0 + 0 = i
  rw [h, Int.mul_one, Int.add_zero]
section
variable {G : Gm} {a b : Ex} {p : PM} {t : List (List Int)} {ρ : Nat → Addr} {n m : Nat} {H : Hp}
mutual
theorem simV_ok (he : a.ev = evS b.ev t) : ∀ (x y : AV) (v : V), simV p t n x y = true → RV (G.re b) ρ m H y v → RV (G.re a) (ρp p ρ) n H x v
  | .non, y, v, h, r => by
    cases y <;> first | (cases h; done) | skip
    cases r
    exact .non
  | .bl c, y, v, h, r => by
    cases y <;> first | (cases h; done) | skip
    rename_i d
    cases r
    have : c = d := by
      cases c <;> cases d <;> first | rfl | cases h
    subst this
    exact .bl _
  | .int i, y, v, h, r => by
    cases y <;> first | (cases h; done) | skip
    · cases r
      have := ieq_eq h
      subst this
      exact .int _
    · cases r
      have := leq_ok (ev := b.ev) (show leq [i] _ = true from h)
      rw [lv_int _ b.ev0] at this
      show RV _ _ _ _ _ (.int (lv b.ev 0 _))
      rw [← this]
      exact .int _
  | .sym k, y, v, h, r => by
    cases y <;> first | (cases h; done) | skip
    · rename_i j
      cases r
      have := leq_ok (ev := b.ev) (show leq (lsb t k) [j] = true from h)
      rw [lv_int _ b.ev0, lv_sb, ← he] at this
      rw [← this]
      exact .sym _
    · rename_i l
      cases r
      have := leq_ok (ev := b.ev) (show leq (lsb t k) l = true from h)
      rw [lv_sb, ← he] at this
      show RV _ _ _ _ _ (.int (lv b.ev 0 l))
      rw [← this]
      exact .sym _
  | .str c, y, v, h, r => by
    cases y <;> first | (cases h; done) | skip
    cases r
    have := Nat.eq_of_beq_eq_true h
    subst this
    exact .str _
  | .tup xs, y, v, h, r => by
    cases y <;> first | (cases h; done) | skip
    cases r with
    | tup h1 h2 => exact .tup h1 (simVs_ok he xs _ _ h h2)
  | .ktup xs, y, v, h, r => by
    cases y <;> first | (cases h; done) | skip
    cases r with
    | ktup h1 h2 => exact .ktup h1 (simVs_ok he xs _ _ h h2)
  | .ref i, y, v, h, r => by
    cases y <;> first | (cases h; done) | skip
    cases r
    obtain ⟨h1, h2⟩ := poq_ok h
    rw [← ρp_ok (ρ := ρ) h2]
    exact .ref h1
  | .any, y, v, h, r => .any v
theorem simVs_ok (he : a.ev = evS b.ev t) : ∀ (xs ys : List AV) (vs : List V), simVs p t n xs ys = true → RVs (G.re b) ρ m H ys vs → RVs (G.re a) (ρp p ρ) n H xs vs
  | [], ys, vs, h, r => by
    cases r with
    | nil => exact .nil
    | cons _ _ => cases h
  | x :: xs, ys, vs, h, r => by
    cases r with
    | nil => cases h
    | cons r1 r2 =>
      obtain ⟨h1, h2⟩ := and_yes (show (simV p t n x _ && simVs p t n xs _) = true from h)
      exact .cons (simV_ok he x _ _ h1 r1) (simVs_ok he xs _ _ h2 r2)
end
/-! ### back: by unknowns put in -/
mutual
def mapV (p : PM) (t : List (List Int)) : AV → AV
  | .ref i => .ref ((pget p i).getD 0)
  | .sym l => nrm (lsb t l)
  | .tup xs => .tup (mapVs p t xs)
  | .ktup xs => .ktup (mapVs p t xs)
  | .non => .non
  | .bl b => .bl b
  | .int i => .int i
  | .str c => .str c
  | .any => .any
def mapVs (p : PM) (t : List (List Int)) : List AV → List AV
  | [] => []
  | x :: xs => mapV p t x :: mapVs p t xs
end
/-! the numbers are known -/
mutual
def okV (p : PM) (m : Nat) : AV → Bool
  | .ref i => match pget p i with
    | some j => j.blt m
    | none => false
  | .tup xs => okVs p m xs
  | .ktup xs => okVs p m xs
  | .non => true
  | .bl _ => true
  | .int _ => true
  | .str _ => true
  | .sym _ => true
  | .any => true
def okVs (p : PM) (m : Nat) : List AV → Bool
  | [] => true
  | x :: xs => okV p m x && okVs p m xs
end
theorem nrm_ok {l : List Int} {x : Ex} : RV (G.re x) ρ n H (nrm l) (.int (lv x.ev 0 l)) := by
  unfold nrm
  cases l with
  | nil => exact .int 0
  | cons c r =>
    show RV _ _ _ _ (cond (lz r) (.int c) (.sym (c :: r))) _
    cases e : lz r with
    | true =>
      show RV _ _ _ _ (.int c) (.int (c * x.ev 0 + lv x.ev 1 r))
      rw [lz_ok r 1 e, x.ev0, Int.mul_one, Int.add_zero]
      exact .int _
    | false => exact .sym (G := G.re x) _
mutual
theorem mapV_ok (he : a.ev = evS b.ev t) : ∀ (x : AV) (v : V), okV p m x = true → RV (G.re a) (ρp p ρ) n H x v → RV (G.re b) ρ m H (mapV p t x) v
  | .non, v, h, r => by
    cases r
    exact .non
  | .bl c, v, h, r => by
    cases r
    exact .bl _
  | .int i, v, h, r => by
    cases r
    exact .int _
  | .sym k, v, h, r => by
    cases r
    show RV _ _ _ _ _ (.int (lv a.ev 0 k))
    rw [he, ← lv_sb]
    exact nrm_ok
  | .str c, v, h, r => by
    cases r
    exact .str _
  | .tup xs, v, h, r => by
    cases r with
    | tup h1 h2 => exact .tup h1 (mapVs_ok he xs _ h h2)
  | .ktup xs, v, h, r => by
    cases r with
    | ktup h1 h2 => exact .ktup h1 (mapVs_ok he xs _ h h2)
  | .ref i, v, h, r => by
    cases r
    have h : (match pget p i with
      | some j => j.blt m
      | none => false) = true := h
    split at h
    · rename_i j hj
      rw [ρp_ok hj]
      show RV _ _ _ _ (.ref ((pget p i).getD 0)) _
      rw [hj]
      exact .ref (Nat.blt_eq.mp h)
    · cases h
  | .any, v, h, r => .any v
theorem mapVs_ok (he : a.ev = evS b.ev t) : ∀ (xs : List AV) (vs : List V), okVs p m xs = true → RVs (G.re a) (ρp p ρ) n H xs vs → RVs (G.re b) ρ m H (mapVs p t xs) vs
  | [], vs, h, r => by
    cases r
    exact .nil
  | x :: xs, vs, h, r => by
    cases r with
    | cons r1 r2 =>
      obtain ⟨h1, h2⟩ := and_yes (show (okV p m x && okVs p m xs) = true from h)
      exact .cons (mapV_ok he x _ h1 r1) (mapVs_ok he xs _ h2 r2)
end
end
end Zg
set_option Elab.async false
set_option maxRecDepth 100000
set_option maxHeartbeats 4000000
set_option linter.all false
/-! ZG2: heaps seen again, put in, merged. -/
namespace Zg
open PySem L2
/-! ### all objects of a heap -/
def Tr.chk (f : Nat → AO → Bool) : Tr → (Nat → Nat) → Bool
  | .nil, _ => true
  | .nd v l r, g => (match v with
    | some o => f (g 0) o
    | none => true) && (l.chk f (fun i => g (2 * i + 1)) && r.chk f (fun i => g (2 * i + 2)))
theorem chk_ok {f : Nat → AO → Bool} : ∀ (t : Tr) (g : Nat → Nat) (i : Nat) (o : AO), t.chk f g = true → t.get i = some o → f (g i) o = true
  | .nil, g, i, o, h, e => by cases e
  | .nd v l r, g, 0, o, h, e => by
    obtain ⟨h1, _⟩ := and_yes h
    have e : v = some o := e
    rw [e] at h1
    exact h1
  | .nd v l r, g, j + 1, o, h, e => by
    obtain ⟨_, h2⟩ := and_yes h
    obtain ⟨h3, h4⟩ := and_yes h2
    unfold Tr.get at e
    have hm := Nat.mod_two_eq_zero_or_one j
    cases q : odd j with
    | true =>
      rw [q] at e
      have := chk_ok r _ (j / 2) o h4 e
      have q : (j % 2).beq 1 = true := q
      have q := Nat.eq_of_beq_eq_true q
      have e2 : 2 * (j / 2) + 2 = j + 1 := by omega
      rw [e2] at this
      exact this
    | false =>
      rw [q] at e
      have := chk_ok l _ (j / 2) o h3 e
      have q : (j % 2).beq 1 = false := q
      have e2 : 2 * (j / 2) + 1 = j + 1 := by
        rcases hm with hm | hm
        · omega
        · rw [hm] at q
          cases q
      rw [e2] at this
      exact this
def AH.chk (A : AH) (f : Nat → AO → Bool) : Bool := A.t.chk f fun i => i
theorem achk {A : AH} {f : Nat → AO → Bool} (h : A.chk f = true) {i : Nat} {o : AO} (e : A.get i = some o) : f i o = true := chk_ok A.t _ i o h e
def Tr.map (f : AO → AO) : Tr → Tr
  | .nil => .nil
  | .nd v l r => .nd (v.map f) (l.map f) (r.map f)
theorem get_map {f : AO → AO} : ∀ (t : Tr) (i : Nat), (t.map f).get i = (t.get i).map f
  | .nil, i => rfl
  | .nd v l r, 0 => rfl
  | .nd v l r, j + 1 => by
    show (cond (odd j) ((r.map f).get (j / 2)) ((l.map f).get (j / 2))) = (cond (odd j) (r.get (j / 2)) (l.get (j / 2))).map f
    cases odd j with
    | true => exact get_map r _
    | false => exact get_map l _
/-! ### objects -/
def simK (p : PM) (t : List (List Int)) (n : Nat) : List (AKey × AV) → List (AKey × AV) → Bool
  | [], ys => ys.isEmpty
  | x :: xs, ys => match ys with
    | y :: ys => keq x.1 y.1 && (simV p t n x.2 y.2 && simK p t n xs ys)
    | [] => false
def simT (p : PM) (t : List (List Int)) (n : Nat) : List (List AKey × AV) → List (List AKey × AV) → Bool
  | [], ys => ys.isEmpty
  | x :: xs, ys => match ys with
    | y :: ys => kseq x.1 y.1 && (simV p t n x.2 y.2 && simT p t n xs ys)
    | [] => false
def simO (p : PM) (t : List (List Int)) (n : Nat) : AO → AO → Bool
  | .lst xs, .lst ys => simVs p t n xs ys
  | .dK xs, .dK ys => simK p t n xs ys
  | .dT xs, .dT ys => simT p t n xs ys
  | .ins c xs, .ins d ys => c.beq d && simVs p t n xs ys
  | _, _ => false
def simS (p : PM) (t : List (List Int)) (n : Nat) : SA → SA → Bool
  | [], ys => ys.isEmpty
  | x :: xs, ys => match ys with
    | y :: ys => (match x with
      | none => true
      | some x => match y with
        | some y => simV p t n x y
        | none => false) && simS p t n xs ys
    | [] => false
def mapK (p : PM) (t : List (List Int)) (xs : List (AKey × AV)) : List (AKey × AV) := xs.map fun q => (q.1, mapV p t q.2)
def mapT (p : PM) (t : List (List Int)) (xs : List (List AKey × AV)) : List (List AKey × AV) := xs.map fun q => (q.1, mapV p t q.2)
def mapO (p : PM) (t : List (List Int)) : AO → AO
  | .lst xs => .lst (mapVs p t xs)
  | .dK xs => .dK (mapK p t xs)
  | .dT xs => .dT (mapT p t xs)
  | .ins c xs => .ins c (mapVs p t xs)
  | .fz xs => .fz (mapVs p t xs)
  | .stk k xs => .stk k (mapVs p t xs)
def okO (p : PM) (m : Nat) : AO → Bool
  | .lst xs => okVs p m xs
  | .dK xs => xs.all fun q => okV p m q.2
  | .dT xs => xs.all fun q => okV p m q.2
  | .ins _ xs => okVs p m xs
  | .fz xs => okVs p m xs
  | .stk _ xs => okVs p m xs
def mapS (p : PM) (t : List (List Int)) (s : SA) : SA := s.map fun o => o.map (mapV p t)
def okS (p : PM) (m : Nat) (s : SA) : Bool := s.all fun o => match o with
  | some x => okV p m x
  | none => true
section
variable {G : Gm} {a b : Ex} {p : PM} {t : List (List Int)} {ρ : Nat → Addr} {n m : Nat} {H : Hp} {c : Addr}
theorem keq_eq {x y : AKey} (h : keq x y = true) : x = y := by
  rw [keq_dec] at h
  exact of_decide_eq_true h
theorem kseq_eq {x y : List AKey} (h : kseq x y = true) : x = y := by
  rw [kseq_dec] at h
  exact of_decide_eq_true h
theorem simK_ok (he : a.ev = evS b.ev t) : ∀ {xs ys : List (AKey × AV)} {ks : List (Key × V)}, simK p t n xs ys = true → RKs (G.re b) ρ m H ys ks → RKs (G.re a) (ρp p ρ) n H xs ks
  | [], ys, ks, h, r => by
    cases r with
    | nil => exact .nil
    | cons _ _ => cases h
  | x :: xs, ys, ks, h, r => by
    cases r with
    | nil => cases h
    | @cons y k ys ks r1 r2 =>
      obtain ⟨h1, h2⟩ := and_yes (show (keq x.1 y.1 && (simV p t n x.2 y.2 && simK p t n xs ys)) = true from h)
      obtain ⟨h3, h4⟩ := and_yes h2
      exact .cons ⟨by rw [keq_eq h1]; exact r1.1, simV_ok he _ _ _ h3 r1.2⟩ (simK_ok he h4 r2)
theorem simT_ok (he : a.ev = evS b.ev t) : ∀ {xs ys : List (List AKey × AV)} {ks : List (List Key × V)}, simT p t n xs ys = true → RTs (G.re b) ρ m H ys ks → RTs (G.re a) (ρp p ρ) n H xs ks
  | [], ys, ks, h, r => by
    cases r with
    | nil => exact .nil
    | cons _ _ => cases h
  | x :: xs, ys, ks, h, r => by
    cases r with
    | nil => cases h
    | @cons y k ys ks r1 r2 =>
      obtain ⟨h1, h2⟩ := and_yes (show (kseq x.1 y.1 && (simV p t n x.2 y.2 && simT p t n xs ys)) = true from h)
      obtain ⟨h3, h4⟩ := and_yes h2
      exact .cons ⟨by rw [kseq_eq h1]; exact r1.1, simV_ok he _ _ _ h3 r1.2⟩ (simT_ok he h4 r2)
theorem simO_ok (he : a.ev = evS b.ev t) {x y : AO} (h : simO p t n x y = true) (r : RO (G.re b) ρ m H c y) : RO (G.re a) (ρp p ρ) n H c x := by
  unfold simO at h
  split at h
  · obtain ⟨vs, e, q⟩ := r
    exact ⟨vs, e, simVs_ok he _ _ _ h q⟩
  · obtain ⟨ks, e, q⟩ := r
    exact ⟨ks, e, simK_ok he h q⟩
  · obtain ⟨ks, e, q⟩ := r
    exact ⟨ks, e, simT_ok he h q⟩
  · obtain ⟨h1, h2⟩ := and_yes h
    have := Nat.eq_of_beq_eq_true h1
    subst this
    obtain ⟨dx, ws, e, q, l⟩ := r
    have q2 := simVs_ok he _ _ _ h2 q
    exact ⟨dx, ws, e, q2, by rw [q2.length, ← q.length]; exact l⟩
  · cases h
theorem simS_ok (he : a.ev = evS b.ev t) : ∀ {xs ys : SA} {σ : St}, simS p t n xs ys = true → RSt (G.re b) ρ m H ys σ → RSt (G.re a) (ρp p ρ) n H xs σ := by
  have key : ∀ (xs ys : SA), simS p t n xs ys = true → xs.length = ys.length ∧ ∀ (i : Nat) (v : AV), xs[i]? = some (some v) → ∃ w, ys[i]? = some (some w) ∧ simV p t n v w = true := by
    intro xs
    induction xs with
    | nil =>
      intro ys h
      cases ys with
      | nil => exact ⟨rfl, fun i v h => by simp at h⟩
      | cons _ _ => cases h
    | cons x xs ih =>
      intro ys h
      cases ys with
      | nil => cases h
      | cons y ys =>
        obtain ⟨h1, h2⟩ := and_yes h
        obtain ⟨l, q⟩ := ih ys h2
        refine ⟨congrArg Nat.succ l, fun i v e => ?_⟩
        cases i with
        | zero =>
          have e : x = some v := by simpa using e
          subst e
          cases y with
          | none => cases h1
          | some y => exact ⟨y, rfl, h1⟩
        | succ i =>
          obtain ⟨w, e1, e2⟩ := q i v (by simpa using e)
          exact ⟨w, by simpa using e1, e2⟩
  intro xs ys σ h r
  obtain ⟨l, q⟩ := key xs ys h
  refine ⟨l.trans r.len, fun i v e => ?_⟩
  obtain ⟨w, e1, e2⟩ := q i v e
  obtain ⟨u, e3, r3⟩ := r.at_ i w e1
  exact ⟨u, e3, simV_ok he _ _ _ e2 r3⟩
theorem mapK_ok (he : a.ev = evS b.ev t) : ∀ {xs : List (AKey × AV)} {ks : List (Key × V)}, (xs.all fun q => okV p m q.2) = true → RKs (G.re a) (ρp p ρ) n H xs ks → RKs (G.re b) ρ m H (mapK p t xs) ks
  | [], ks, h, r => by
    cases r
    exact .nil
  | x :: xs, ks, h, r => by
    cases r with
    | cons r1 r2 =>
      rw [List.all_cons] at h
      obtain ⟨h1, h2⟩ := and_yes h
      exact .cons ⟨r1.1, mapV_ok he _ _ h1 r1.2⟩ (mapK_ok he h2 r2)
theorem mapT_ok (he : a.ev = evS b.ev t) : ∀ {xs : List (List AKey × AV)} {ks : List (List Key × V)}, (xs.all fun q => okV p m q.2) = true → RTs (G.re a) (ρp p ρ) n H xs ks → RTs (G.re b) ρ m H (mapT p t xs) ks
  | [], ks, h, r => by
    cases r
    exact .nil
  | x :: xs, ks, h, r => by
    cases r with
    | cons r1 r2 =>
      rw [List.all_cons] at h
      obtain ⟨h1, h2⟩ := and_yes h
      exact .cons ⟨r1.1, mapV_ok he _ _ h1 r1.2⟩ (mapT_ok he h2 r2)
/-- .. but for stacks -/
def noStk : AO → Bool
  | .stk _ _ => false
  | _ => true
theorem mapO_ok (he : a.ev = evS b.ev t) {x : AO} (hn : noStk x = true ∨ a.st = b.st) (h : okO p m x = true) (r : RO (G.re a) (ρp p ρ) n H c x) : RO (G.re b) ρ m H c (mapO p t x) := by
  cases x with
  | lst xs =>
    obtain ⟨vs, e, q⟩ := r
    exact ⟨vs, e, mapVs_ok he _ _ h q⟩
  | dK xs =>
    obtain ⟨ks, e, q⟩ := r
    exact ⟨ks, e, mapK_ok he h q⟩
  | dT xs =>
    obtain ⟨ks, e, q⟩ := r
    exact ⟨ks, e, mapT_ok he h q⟩
  | ins c xs =>
    obtain ⟨dx, ws, e, q, l⟩ := r
    have q2 := mapVs_ok he _ _ h q
    exact ⟨dx, ws, e, q2, by rw [q2.length, ← q.length]; exact l⟩
  | fz xs =>
    obtain ⟨o, vs, e, q⟩ := r
    exact ⟨o, vs, e, mapVs_ok he _ _ h q⟩
  | stk k xs =>
    obtain ⟨vs, e, q⟩ := r
    refine ⟨vs, ?_, mapVs_ok he _ _ h q⟩
    rcases hn with hn | hn
    · cases hn
    · show H c = some (.lst (b.st k ++ vs))
      rw [← hn]
      exact e
theorem mapS_ok (he : a.ev = evS b.ev t) {s : SA} {σ : St} (h : okS p m s = true) (r : RSt (G.re a) (ρp p ρ) n H s σ) : RSt (G.re b) ρ m H (mapS p t s) σ := by
  refine ⟨by unfold mapS; rw [List.length_map]; exact r.len, fun i v e => ?_⟩
  unfold mapS at e
  rw [List.getElem?_map] at e
  cases q : s[i]? with
  | none =>
    rw [q] at e
    cases e
  | some o =>
    rw [q] at e
    cases o with
    | none => cases e
    | some x =>
      cases e
      obtain ⟨u, e1, r1⟩ := r.at_ i x q
      have := List.all_eq_true.mp h (some x) (List.mem_of_getElem? q)
      exact ⟨u, e1, mapV_ok he _ _ this r1⟩
/-! ### put in -/
def idp : Nat → PM
  | 0 => []
  | n + 1 => (n, n) :: idp n
theorem idp_ok : ∀ {n i : Nat}, i < n → pget (idp n) i = some i
  | 0, i, h => by omega
  | n + 1, i, h => by
    show cond (n.beq i) (some n) (pget (idp n) i) = some i
    cases e : n.beq i with
    | true => rw [Nat.eq_of_beq_eq_true e] <;> rfl
    | false =>
      have : n ≠ i := fun z => by rw [z, Nat.beq_refl] at e; cases e
      exact idp_ok (by omega)
def mapA (p : PM) (t : List (List Int)) (A : AH) : AH := ⟨A.n, A.t.map (mapO p t)⟩
def subB (A : AH) (s : SA) : Bool := okS (idp A.n) A.n s && A.chk fun _ o => okO (idp A.n) A.n o
theorem sub_ok {A : AH} {s : SA} {σ : St} (he : a.ev = evS b.ev t) (hs : a.st = b.st) (h : subB A s = true) (c : Cf (G.re a) ρ A s σ H) : Cf (G.re b) ρ (mapA (idp A.n) t A) (mapS (idp A.n) t s) σ H := by
  obtain ⟨h1, h2⟩ := and_yes h
  have ag : ∀ i, i < A.n → ρp (idp A.n) ρ i = ρ i := fun i hi => ρp_ok (idp_ok hi)
  refine ⟨mapS_ok he h1 ⟨c.st.len, fun i v e => let ⟨u, e1, r⟩ := c.st.at_ i v e; ⟨u, e1, r.mono ag (Nat.le_refl _) (fun _ _ q => q)⟩⟩, ?_⟩
  have g : ∀ i o, (mapA (idp A.n) t A).get i = some o → ∃ o0, A.get i = some o0 ∧ o = mapO (idp A.n) t o0 := fun i o e => by
    have e : (A.t.map (mapO (idp A.n) t)).get i = some o := e
    rw [get_map] at e
    cases q : A.t.get i with
    | none =>
      rw [q] at e
      cases e
    | some o0 =>
      rw [q] at e
      cases e
      exact ⟨o0, q, rfl⟩
  refine ⟨fun i o e => ?_, fun i o e => ?_, fun i j o u e1 e2 z => ?_⟩
  · obtain ⟨o0, q, _⟩ := g i o e
    exact c.rel.lt i o0 q
  · obtain ⟨o0, q, rfl⟩ := g i o e
    exact mapO_ok he (.inr hs) (achk h2 q) ((c.rel.ob i o0 q).mono ag (Nat.le_refl _) (fun _ _ q => q) rfl)
  · obtain ⟨_, q1, _⟩ := g i o e1
    obtain ⟨_, q2, _⟩ := g j u e2
    exact c.rel.inj i j _ _ q1 q2 z
end
end Zg
set_option Elab.async false
set_option maxRecDepth 100000
set_option maxHeartbeats 4000000
set_option linter.all false
/-! ZG3: a state seen as another one; the other one's end put back. -/
namespace Zg
open PySem L2
def ndB : List Nat → Bool
  | [] => true
  | x :: r => !(r.any fun y => x.beq y) && ndB r
theorem ndB_ok : ∀ {l : List Nat}, ndB l = true → l.Nodup
  | [], _ => .nil
  | x :: r, h => by
    obtain ⟨h1, h2⟩ := and_yes (show (!(r.any fun y => x.beq y) && ndB r) = true from h)
    refine List.nodup_cons.mpr ⟨fun hm => ?_, ndB_ok h2⟩
    have : (r.any fun y => x.beq y) = true := List.any_eq_true.mpr ⟨x, hm, Nat.beq_refl x⟩
    rw [this] at h1
    cases h1
theorem pget_mem : ∀ {p : PM} {i j : Nat}, pget p i = some j → (i, j) ∈ p
  | [], _, _, h => by cases h
  | (a, c) :: r, i, j, h => by
    have h : cond (a.beq i) (some c) (pget r i) = some j := h
    cases e : a.beq i with
    | true =>
      rw [e] at h
      cases h
      rw [Nat.eq_of_beq_eq_true e]
      exact List.mem_cons_self ..
    | false =>
      rw [e] at h
      exact List.mem_cons_of_mem _ (pget_mem h)
theorem pget_inj {p : PM} (hd : ndB (p.map (·.2)) = true) {i j k : Nat} (h1 : pget p i = some k) (h2 : pget p j = some k) : i = j := by
  have m1 := pget_mem h1
  have m2 := pget_mem h2
  have nd := ndB_ok hd
  clear h1 h2 hd
  induction p with
  | nil => cases m1
  | cons q r ih =>
    rw [List.map_cons, List.nodup_cons] at nd
    rcases List.mem_cons.mp m1 with e | m3
    · rcases List.mem_cons.mp m2 with e2 | m4
      · rw [← e] at e2
        cases e2
        rfl
      · exact absurd (List.mem_map.mpr ⟨_, m4, by rw [← e]⟩) nd.1
    · rcases List.mem_cons.mp m2 with e2 | m4
      · exact absurd (List.mem_map.mpr ⟨_, m3, by rw [← e2]⟩) nd.1
      · exact ih m3 m4 nd.2
def okT (t : List (List Int)) : Bool := match t with
  | a :: r => leq a [1] && (r.drop 2).all nnL
  | [] => false
theorem okT_ok (G : Gm) {x : Ex} {t : List (List Int)} (h : okT t = true) : evS x.ev t 0 = 1 ∧ ∀ i, 3 ≤ i → 0 ≤ evS x.ev t i := by
  cases t with
  | nil => cases h
  | cons a r =>
    obtain ⟨h1, h2⟩ := and_yes (show (leq a [1] && (r.drop 2).all nnL) = true from h)
    refine ⟨?_, fun i hi => ?_⟩
    · have := leq_ok (ev := x.ev) h1
      rw [lv_int _ x.ev0] at this
      exact this
    · unfold evS
      split
      · rename_i l hl
        have : l ∈ r.drop 2 := by
          have : (r.drop 2)[i - 3]? = some l := by
            rw [List.getElem?_drop]
            have e : 2 + (i - 3) + 1 = i := by omega
            rw [← List.getElem?_cons_succ (a := a), e]
            exact hl
          exact List.mem_of_getElem? this
        have q := List.all_eq_true.mp h2 l this
        exact nn_ok (G := G.re x) q
      · exact Int.le_refl 0
def pre (ys xs : List AV) : List AV := xs.take (xs.length - ys.length)
def stkB (p : PM) (t : List (List Int)) (n k : Nat) (ys : List AV) : AO → Bool
  | .lst xs => ys.length.ble xs.length && ((xs.length.ble 1000 && (!k.beq 1 || ys.length.blt xs.length)) && simVs p t n ys (xs.drop (xs.length - ys.length)))
  | .stk l xs => l.beq k && (ys.length.ble xs.length && (xs.length.ble 1000 && simVs p t n ys (xs.drop (xs.length - ys.length))))
  | _ => false
def viewO (p : PM) (t : List (List Int)) (n : Nat) (A2 : AH) (kx : PM) (i : Nat) (o : AO) : Bool := i.blt n && match pget p i with
  | none => false
  | some j => match A2.get j with
    | none => false
    | some o2 => match o with
      | .stk k ys => (match pget kx k with
        | some i' => i'.beq i
        | none => false) && stkB p t n k ys o2
      | o => simO p t n o o2
def view (p : PM) (t : List (List Int)) (kx : PM) (s3 : SA) (A3 : AH) (s2 : SA) (A2 : AH) : Bool := okT t && (ndB (p.map (·.2)) && (simS p t A3.n s3 s2 && A3.chk (viewO p t A3.n A2 kx)))
/-- the lower part of the stack k -/
def dfl (k : Nat) : List V := if k = 1 then [.non] else []
def cutS (A3 : AH) (kx : PM) (p : PM) (ρ : Nat → Addr) (H : Hp) (k : Nat) : List V := match pget kx k with
  | some i => match A3.get i with
    | some (.stk l ys) => if l = k then (match H (ρp p ρ i) with
      | some (.lst us) => us.take (us.length - ys.length)
      | _ => dfl k) else dfl k
    | _ => dfl k
  | none => dfl k
theorem dfl_len {k B : Nat} : (dfl k).length ≤ B + 1000 := by
  unfold dfl
  split
  · exact Nat.le_add_left 1 (B + 999)
  · exact Nat.zero_le _
structure StkOf (G : Gm) (ρ : Nat → Addr) (n : Nat) (H : Hp) (a b : Ex) (k : Nat) (ys : List AV) (o2 : AO) : Prop where
  ex : (∃ xs pv, o2 = .lst xs ∧ RVs (G.re b) ρ n H (pre ys xs) pv ∧ a.st k = pv) ∨ ∃ xs pv, o2 = .stk k xs ∧ RVs (G.re b) ρ n H (pre ys xs) pv ∧ a.st k = b.st k ++ pv
section
variable {G : Gm} {b : Ex} {p kx : PM} {t : List (List Int)} {ρ : Nat → Addr} {H : Hp} {s3 s2 : SA} {A3 A2 : AH} {σ : St} {B : Nat}
theorem cut_len (hB : ∀ k, (b.st k).length ≤ B) (R : Rel (G.re b) ρ A2 H) (hc : A3.chk (viewO p t A3.n A2 kx) = true) (k : Nat) : (cutS A3 kx p ρ H k).length ≤ B + 1000 ∧ (k = 1 → cutS A3 kx p ρ H k ≠ []) := by
  have df : (dfl k).length ≤ B + 1000 ∧ (k = 1 → dfl k ≠ []) := ⟨dfl_len, fun z => by
    subst z
    exact fun z => by cases z⟩
  unfold cutS
  split
  · rename_i i hi
    split
    · rename_i l ys hy
      split
      · rename_i hlk
        subst hlk
        obtain ⟨h1, h2⟩ := and_yes (achk hc hy)
        split at h2
        · cases h2
        · rename_i j hj
          split at h2
          · cases h2
          · rename_i o2 ho
            obtain ⟨_, h3⟩ := and_yes h2
            rw [ρp_ok hj]
            have ro := R.ob j o2 ho
            cases o2 <;> first | (cases h3; done) | skip
            · rename_i xs
              obtain ⟨h4, h5⟩ := and_yes h3
              obtain ⟨h6, _⟩ := and_yes h5
              obtain ⟨h7, h8⟩ := and_yes h6
              obtain ⟨us, e, r⟩ := ro
              rw [e]
              have := Nat.le_of_ble_eq_true h7
              have := r.length
              show (us.take _).length ≤ _ ∧ (_ → us.take _ ≠ [])
              refine ⟨by rw [List.length_take]; omega, fun z => ?_⟩
              subst z
              have h8 := Nat.blt_eq.mp (show ys.length.blt xs.length = true from h8)
              intro z
              have := congrArg List.length z
              rw [List.length_take] at this
              simp only [List.length_nil] at this
              omega
            · rename_i l2 xs
              obtain ⟨h9, h4⟩ := and_yes h3
              have h9 := Nat.eq_of_beq_eq_true h9
              obtain ⟨_, h5⟩ := and_yes h4
              obtain ⟨h6, _⟩ := and_yes h5
              obtain ⟨us, e, r⟩ := ro
              rw [e]
              have := Nat.le_of_ble_eq_true h6
              have := r.length
              have : (b.st l2).length ≤ B := hB l2
              have hy2 := Nat.le_of_ble_eq_true (and_yes h4).1
              show (List.take _ (b.st l2 ++ us)).length ≤ _ ∧ (_ → List.take _ (b.st l2 ++ us) ≠ [])
              refine ⟨by simp only [List.length_take, List.length_append]; omega, fun z => ?_⟩
              subst z
              subst h9
              intro z
              have := congrArg List.length z
              have h0 : 0 < (b.st 1).length := List.length_pos_iff.mpr b.stn
              rw [List.length_take] at this
              have e3 : ((G.re b).st 1).length = (b.st 1).length := rfl
              simp only [List.length_nil, List.length_append] at this
              omega
      · exact df
    · exact df
  · exact df
theorem view_ok (hB : ∀ k, (b.st k).length ≤ B) (hB2 : B + 1000 ≤ 5000000) (h : view p t kx s3 A3 s2 A2 = true) (c : Cf (G.re b) ρ A2 s2 σ H) :
    ∃ a : Ex, a.ev = evS b.ev t ∧ Cf (G.re a) (ρp p ρ) A3 s3 σ H ∧ (∀ k, (a.st k).length ≤ B + 1000) ∧
      ∀ i k ys, A3.get i = some (.stk k ys) → ∃ j o2, pget p i = some j ∧ A2.get j = some o2 ∧ StkOf G ρ A2.n H a b k ys o2 := by
  obtain ⟨h1, h⟩ := and_yes h
  obtain ⟨h2, h⟩ := and_yes h
  obtain ⟨h3, h4⟩ := and_yes h
  have hl := cut_len hB c.rel h4
  refine ⟨⟨evS b.ev t, (okT_ok G h1).1, (okT_ok G h1).2, cutS A3 kx p ρ H, fun k => Nat.le_trans (hl k).1 hB2, (hl 1).2 rfl⟩, rfl, ?_, fun k => (hl k).1, ?_⟩
  · refine ⟨simS_ok rfl h3 c.st, fun i o e => ?_, fun i o e => ?_, fun i j o u e1 e2 z => ?_⟩
    · obtain ⟨q, _⟩ := and_yes (achk h4 e)
      exact Nat.blt_eq.mp q
    · obtain ⟨q, q2⟩ := and_yes (achk h4 e)
      split at q2
      · cases q2
      · rename_i j hj
        split at q2
        · cases q2
        · rename_i o2 ho
          rw [ρp_ok hj]
          have ro := c.rel.ob j o2 ho
          split at q2
          · rename_i k ys
            obtain ⟨q3, q4⟩ := and_yes q2
            have hk : pget kx k = some i := by
              split at q3
              · rename_i i' hi'
                rw [hi', Nat.eq_of_beq_eq_true q3]
              · cases q3
            have hcut : cutS A3 kx p ρ H k = (match H (ρ j) with
              | some (.lst us) => us.take (us.length - ys.length)
              | _ => dfl k) := by
              unfold cutS
              rw [hk]
              show (match A3.get i with
                | some (.stk l ys) => _
                | _ => dfl k) = _
              rw [e]
              show (if k = k then _ else _) = _
              rw [if_pos rfl, ρp_ok hj]
            cases o2 <;> first | (cases q4; done) | skip
            · rename_i xs
              obtain ⟨q5, q6⟩ := and_yes q4
              obtain ⟨_, q7⟩ := and_yes q6
              obtain ⟨us, e5, r⟩ := ro
              rw [e5] at hcut
              refine ⟨us.drop (us.length - ys.length), ?_, ?_⟩
              · show H (ρ j) = some (.lst (cutS A3 kx p ρ H k ++ _))
                rw [hcut]
                show _ = some (HO.lst (us.take _ ++ _))
                rw [List.take_append_drop]
                exact e5
              · rw [← r.length]
                exact simVs_ok rfl _ _ _ q7 (r.drop _)
            · rename_i l xs
              obtain ⟨q8, q9⟩ := and_yes q4
              have := Nat.eq_of_beq_eq_true q8
              subst this
              obtain ⟨q5, q6⟩ := and_yes q9
              obtain ⟨_, q7⟩ := and_yes q6
              have q5 := Nat.le_of_ble_eq_true q5
              obtain ⟨us, e5, r⟩ := ro
              rw [e5] at hcut
              have rl := r.length
              refine ⟨us.drop (us.length - ys.length), ?_, ?_⟩
              · show H (ρ j) = some (.lst (cutS A3 kx p ρ H l ++ _))
                rw [hcut]
                show H (ρ j) = some (HO.lst (List.take ((b.st l ++ us).length - ys.length) (b.st l ++ us) ++ _))
                have e6 : us.drop (us.length - ys.length) = (b.st l ++ us).drop ((b.st l ++ us).length - ys.length) := by
                  have e7 : (b.st l).length + us.length - ys.length - (b.st l).length = us.length - ys.length := by omega
                  have e8 : (b.st l).drop ((b.st l).length + us.length - ys.length) = [] := List.drop_of_length_le (by omega)
                  rw [List.length_append, List.drop_append, e8, e7]
                  rfl
                rw [e6, List.take_append_drop]
                exact e5
              · rw [← r.length]
                exact simVs_ok rfl _ _ _ q7 (r.drop _)
          · exact simO_ok rfl q2 ro
    · obtain ⟨_, q1⟩ := and_yes (achk h4 e1)
      obtain ⟨_, q2⟩ := and_yes (achk h4 e2)
      split at q1
      · cases q1
      · rename_i i' hi
        split at q2
        · cases q2
        · rename_i j' hj
          split at q1
          · cases q1
          · rename_i o1 ho1
            split at q2
            · cases q2
            · rename_i o2 ho2
              rw [ρp_ok hi, ρp_ok hj] at z
              have := c.rel.inj i' j' _ _ ho1 ho2 z
              subst this
              exact pget_inj h2 hi hj
  · intro i k ys e
    obtain ⟨q, q2⟩ := and_yes (achk h4 e)
    split at q2
    · cases q2
    · rename_i j hj
      split at q2
      · cases q2
      · rename_i o2 ho
        refine ⟨j, o2, hj, ho, ?_⟩
        have ro := c.rel.ob j o2 ho
        obtain ⟨q3, q4⟩ := and_yes q2
        have hk : pget kx k = some i := by
          split at q3
          · rename_i i' hi'
            rw [hi', Nat.eq_of_beq_eq_true q3]
          · cases q3
        have hcut : cutS A3 kx p ρ H k = (match H (ρ j) with
          | some (.lst us) => us.take (us.length - ys.length)
          | _ => dfl k) := by
          unfold cutS
          rw [hk]
          show (match A3.get i with
            | some (.stk l ys) => _
            | _ => dfl k) = _
          rw [e]
          show (if k = k then _ else _) = _
          rw [if_pos rfl, ρp_ok hj]
        cases o2 <;> first | (cases q4; done) | skip
        · rename_i xs
          obtain ⟨us, e5, r⟩ := ro
          rw [e5] at hcut
          refine ⟨.inl ⟨xs, _, rfl, ?_, hcut⟩⟩
          show RVs _ _ _ _ (xs.take _) (us.take _)
          rw [r.length]
          exact r.take _
        · rename_i l xs
          obtain ⟨q8, q9⟩ := and_yes q4
          have := Nat.eq_of_beq_eq_true q8
          subst this
          obtain ⟨q5, q6⟩ := and_yes q9
          have q5 := Nat.le_of_ble_eq_true q5
          obtain ⟨us, e5, r⟩ := ro
          rw [e5] at hcut
          have rl := r.length
          refine ⟨.inr ⟨xs, us.take (us.length - ys.length), rfl, ?_, ?_⟩⟩
          · show RVs _ _ _ _ (xs.take _) (us.take _)
            rw [r.length]
            exact r.take _
          · show cutS A3 kx p ρ H l = _
            rw [hcut]
            show List.take ((b.st l ++ us).length - ys.length) (b.st l ++ us) = _
            rw [List.length_append, List.take_append]
            have e7 : (b.st l).length + us.length - ys.length - (b.st l).length = us.length - ys.length := by omega
            rw [e7, List.take_of_length_le (by omega)]
end
end Zg
set_option Elab.async false
set_option maxRecDepth 100000
set_option maxHeartbeats 4000000
set_option linter.all false
/-! ZG4: what a part of the heap has become, put back into the whole. -/
namespace Zg
open PySem L2
section
variable {G : Gm} {a b : Ex} {ρ : Nat → Addr} {n : Nat} {H : Hp}
mutual
theorem re_ev (he : a.ev = b.ev) : ∀ {x : AV} {v : V}, RV (G.re a) ρ n H x v → RV (G.re b) ρ n H x v
  | _, _, .non => .non
  | _, _, .bl c => .bl c
  | _, _, .int i => .int i
  | _, _, .sym k => by
    show RV (G.re b) ρ n H (.sym k) (.int (lv a.ev 0 k))
    rw [he]
    exact .sym (G := G.re b) k
  | _, _, .str c => .str c
  | _, _, .any v => .any v
  | _, _, .ref hi => .ref hi
  | _, _, .tup hs r => .tup hs (res_ev he r)
  | _, _, .ktup hs r => .ktup hs (res_ev he r)
theorem res_ev (he : a.ev = b.ev) : ∀ {x : List AV} {v : List V}, RVs (G.re a) ρ n H x v → RVs (G.re b) ρ n H x v
  | _, _, .nil => .nil
  | _, _, .cons r s => .cons (re_ev he r) (res_ev he s)
end
theorem ro_ev (he : a.ev = b.ev) {c : Addr} {o : AO} (hs : noStk o = true ∨ ∀ k xs, o = .stk k xs → a.st k = b.st k) (r : RO (G.re a) ρ n H c o) : RO (G.re b) ρ n H c o := by
  cases o with
  | lst xs =>
    obtain ⟨vs, e, q⟩ := r
    exact ⟨vs, e, res_ev he q⟩
  | dK xs =>
    obtain ⟨ks, e, q⟩ := r
    exact ⟨ks, e, paired_mono (fun _ _ z => ⟨z.1, re_ev he z.2⟩) q⟩
  | dT xs =>
    obtain ⟨ks, e, q⟩ := r
    exact ⟨ks, e, paired_mono (fun _ _ z => ⟨z.1, re_ev he z.2⟩) q⟩
  | ins c xs =>
    obtain ⟨dx, ws, e, q, l⟩ := r
    exact ⟨dx, ws, e, res_ev he q, l⟩
  | fz xs =>
    obtain ⟨o, vs, e, q⟩ := r
    exact ⟨o, vs, e, res_ev he q⟩
  | stk k xs =>
    obtain ⟨vs, e, q⟩ := r
    refine ⟨vs, ?_, res_ev he q⟩
    rcases hs with hs | hs
    · cases hs
    · show H c = some (.lst (b.st k ++ vs))
      rw [← hs k xs rfl]
      exact e
end
def mrgO (p : PM) (t : List (List Int)) (o : AO) (oS o2 : Option AO) : AO := match o with
  | .stk k zs => cond (k.beq 2) (.stk 2 (mapVs p t zs)) (match oS, o2 with
    | some (.stk _ ys), some (.lst xs) => .lst (pre ys xs ++ mapVs p t zs)
    | some (.stk _ ys), some (.stk _ xs) => .stk k (pre ys xs ++ mapVs p t zs)
    | _, _ => .fz [])
  | o => mapO p t o
def mrg (p : PM) (t : List (List Int)) (S T A2 : AH) : PM → AH → AH
  | [], U => U
  | q :: r, U => mrg p t S T A2 r (match T.get q.1 with
    | none => U.del q.2
    | some o => U.set q.2 (mrgO p t o (S.get q.1) (A2.get q.2)))
section
variable {p : PM} {t : List (List Int)} {S T A2 : AH}
theorem mrg_n : ∀ (r : PM) (U : AH), (mrg p t S T A2 r U).n = U.n
  | [], U => rfl
  | q :: r, U => by
    show (mrg p t S T A2 r _).n = U.n
    rw [mrg_n r]
    cases T.get q.1 <;> rfl
theorem mrg_out : ∀ {r : PM} {U : AH} {i : Nat}, i ∉ r.map (·.2) → (mrg p t S T A2 r U).get i = U.get i
  | [], U, i, h => rfl
  | q :: r, U, i, h => by
    rw [List.map_cons, List.mem_cons, not_or] at h
    show (mrg p t S T A2 r _).get i = U.get i
    rw [mrg_out h.2]
    cases T.get q.1 with
    | none => exact get_del_ne h.1
    | some o => exact get_set_ne h.1
theorem mrg_in : ∀ {r : PM} {U : AH} {i j : Nat}, (r.map (·.2)).Nodup → (j, i) ∈ r → (mrg p t S T A2 r U).get i = (T.get j).map fun o => mrgO p t o (S.get j) (A2.get i)
  | [], U, i, j, h, m => by cases m
  | q :: r, U, i, j, h, m => by
    rw [List.map_cons, List.nodup_cons] at h
    show (mrg p t S T A2 r _).get i = _
    rcases List.mem_cons.mp m with e | m2
    · have hi : i ∉ r.map (·.2) := by
        rw [← e] at h
        exact h.1
      rw [mrg_out hi, ← e]
      show (match T.get j with
        | none => U.del i
        | some o => U.set i (mrgO p t o (S.get j) (A2.get i))).get i = _
      cases T.get j with
      | none => exact get_del
      | some o => exact get_set
    · exact mrg_in h.2 m2
end
def stkN (k : Nat) : AO → Bool
  | .stk l _ => l.beq k
  | _ => false
theorem stkN_ok {k : Nat} {o : AO} (h : stkN k o = true) : ∃ ys, o = .stk k ys := by
  unfold stkN at h
  split at h
  · rename_i l ys
    exact ⟨ys, by rw [Nat.eq_of_beq_eq_true h]⟩
  · cases h
def mrgB (p : PM) (S T A2 : AH) (sT : SA) : Bool :=
  okS p A2.n sT && (A2.chk (fun i o => noStk o || p.any fun q => q.2.beq i) && (T.chk (fun j o => match S.get j with
    | none => false
    | some oS => okO p A2.n o && (match o with
      | .stk k zs => cond (k.beq 2) zs.isEmpty (stkN k oS)
      | _ => true)) && (T.n.beq S.n && ndB (p.map (·.1)))))
theorem pget_of {p : PM} (hd : (p.map (·.1)).Nodup) {j i : Nat} (m : (j, i) ∈ p) : pget p j = some i := by
  induction p with
  | nil => cases m
  | cons q r ih =>
    rw [List.map_cons, List.nodup_cons] at hd
    show cond (q.1.beq j) (some q.2) (pget r j) = some i
    rcases List.mem_cons.mp m with e | m2
    · rw [← e, Nat.beq_refl]
      rfl
    · have : q.1 ≠ j := fun z => hd.1 (List.mem_map.mpr ⟨_, m2, z.symm⟩)
      have e : q.1.beq j = false := by
        cases h : q.1.beq j with
        | false => rfl
        | true => exact absurd (Nat.eq_of_beq_eq_true h) this
      rw [e]
      exact ih hd.2 m2
def Ex.out (b a' : Ex) : Ex := ⟨b.ev, b.ev0, b.evp, fun k => if k = 2 then a'.st 2 else b.st k, fun k => by
  show (if k = 2 then a'.st 2 else b.st k).length ≤ _
  split
  · exact a'.stl 2
  · exact b.stl k, by
  show (if (1 : Nat) = 2 then a'.st 2 else b.st 1) ≠ []
  rw [if_neg (by decide)]
  exact b.stn⟩
section
variable {G : Gm} {a a' b : Ex} {p : PM} {t : List (List Int)} {S T A2 : AH} {sT : SA} {σ : St} {ρ : Nat → Addr} {H H' : Hp} {G1 G2 : Gm}
theorem merge_ok (he : a.ev = evS b.ev t) (he' : a'.ev = a.ev) (hs' : ∀ k, k ≠ 2 → a'.st k = a.st k) (nd : ndB (p.map (·.2)) = true) (vw : ∀ j o, S.get j = some o → ∃ i o2, pget p j = some i ∧ A2.get i = some o2)
    (sk : ∀ i k ys, S.get i = some (.stk k ys) → ∃ j o2, pget p i = some j ∧ A2.get j = some o2 ∧ StkOf G ρ A2.n H a b k ys o2) (h : mrgB p S T A2 sT = true)
    (R2 : Rel (G.re b) ρ A2 H) (E : Ext G1 (ρp p ρ) S H (ρp p ρ) T H') (c : Cf (G.re a') (ρp p ρ) T sT σ H') :
    Cf (G.re (b.out a')) ρ (mrg p t S T A2 p A2) (mapS p t sT) σ H' ∧ Ext G2 ρ A2 H ρ (mrg p t S T A2 p A2) H' := by
  obtain ⟨h1, h⟩ := and_yes h
  obtain ⟨h2, h⟩ := and_yes h
  obtain ⟨h3, h⟩ := and_yes h
  obtain ⟨h4, h5⟩ := and_yes h
  have h4 := Nat.eq_of_beq_eq_true h4
  have hn : (mrg p t S T A2 p A2).n = A2.n := mrg_n p A2
  have hb : a'.ev = evS (b.out a').ev t := he'.trans he
  have live : ∀ {i : Nat} {o : AO}, (mrg p t S T A2 p A2).get i = some o → (i ∉ p.map (·.2) ∧ A2.get i = some o) ∨ ∃ j oT oS o2, (j, i) ∈ p ∧ pget p j = some i ∧ T.get j = some oT ∧ S.get j = some oS ∧ A2.get i = some o2 ∧ o = mrgO p t oT (some oS) (some o2) := by
    intro i o e
    by_cases hi : i ∈ p.map (·.2)
    · obtain ⟨q, m, e2⟩ := List.mem_map.mp hi
      obtain ⟨j, i'⟩ := q
      have e2 : i' = i := e2
      subst e2
      rw [mrg_in (ndB_ok nd) m] at e
      cases hT : T.get j with
      | none =>
        rw [hT] at e
        cases e
      | some oT =>
        rw [hT] at e
        cases hS : S.get j with
        | none =>
          have := achk h3 hT
          rw [hS] at this
          cases this
        | some oS =>
          obtain ⟨i2, o2, g1, g2⟩ := vw j oS hS
          have g3 := pget_of (ndB_ok h5) m
          rw [g3] at g1
          cases g1
          refine .inr ⟨j, oT, oS, o2, m, g3, hT, hS, g2, ?_⟩
          rw [hS, g2] at e
          exact (Option.some.inj e).symm
    · rw [mrg_out hi] at e
      exact .inl ⟨hi, e⟩
  have liveA : ∀ {i : Nat} {o : AO}, (mrg p t S T A2 p A2).get i = some o → ∃ o2, A2.get i = some o2 := by
    intro i o e
    rcases live e with ⟨_, e⟩ | ⟨_, _, _, o2, _, _, _, _, e, _⟩
    · exact ⟨_, e⟩
    · exact ⟨_, e⟩
  have frS : ∀ d, ¬ Img ρ A2 d → ¬ Img (ρp p ρ) S d := fun d hd ⟨j, o, e1, e2⟩ => by
    obtain ⟨i, o2, g1, g2⟩ := vw j o e1
    rw [ρp_ok g1] at e2
    exact hd ⟨i, o2, g2, e2⟩
  have tu := E.tu
  refine ⟨⟨?_, fun i o e => ?_, fun i o e => ?_, fun i j o u e1 e2 z => ?_⟩, fun _ _ => rfl, Nat.le_of_eq hn.symm, fun d o hd ni => ?_, tu⟩
  · rw [hn]
    exact mapS_ok hb h1 c.st
  · obtain ⟨o2, e2⟩ := liveA e
    rw [hn]
    exact R2.lt i o2 e2
  · rw [hn]
    rcases live e with ⟨hi, e⟩ | ⟨j, oT, oS, o2, m, g1, g2, g3, g4, rfl⟩
    · have ns : noStk o = true := by
        rcases Bool.or_eq_true_iff.mp (achk h2 e) with q | q
        · exact q
        · obtain ⟨x, m, hx⟩ := List.any_eq_true.mp q
          exact absurd (List.mem_map.mpr ⟨x, m, Nat.eq_of_beq_eq_true hx⟩) hi
      have ro := R2.ob i o e
      obtain ⟨u, hu, _⟩ := ro.some
      have ni : ¬ Img (ρp p ρ) S (ρ i) := fun ⟨j, oS, e1, e2⟩ => by
        obtain ⟨i2, o2, g1, g2⟩ := vw j oS e1
        rw [ρp_ok g1] at e2
        have := R2.inj i2 i _ _ g2 e e2
        subst this
        exact hi (List.mem_map.mpr ⟨_, pget_mem g1, rfl⟩)
      have := (E.fr _ _ hu ni).1
      exact ro_ev (a := b) (b := b.out a') rfl (.inl ns) (ro.mono (fun _ _ => rfl) (Nat.le_refl _) tu (this.trans hu.symm))
    · have ro := c.rel.ob j oT g2
      rw [ρp_ok g1] at ro
      have ck := achk h3 g2
      rw [g3] at ck
      obtain ⟨k1, k2⟩ := and_yes ck
      cases oT with
      | stk k zs =>
        unfold mrgO
        show RO _ _ _ _ _ (cond (k.beq 2) _ _)
        cases hk : k.beq 2 with
        | true =>
          have hk := Nat.eq_of_beq_eq_true hk
          subst hk
          have k2 : zs.isEmpty = true := k2
          cases zs with
          | cons _ _ => cases k2
          | nil =>
            obtain ⟨vs, e5, r5⟩ := ro
            cases r5
            exact ⟨[], e5, .nil⟩
        | false =>
          have hk2 : k ≠ 2 := fun z => by rw [z] at hk; cases hk
          have k2 : cond (k.beq 2) zs.isEmpty (stkN k oS) = true := k2
          rw [hk] at k2
          have k2 : stkN k oS = true := k2
          obtain ⟨ys, rfl⟩ := stkN_ok k2
          obtain ⟨j2, o2', q1, q2, ⟨q3⟩⟩ := sk j k ys g3
          rw [g1] at q1
          cases q1
          rw [g4] at q2
          cases q2
          obtain ⟨vs, e5, r5⟩ := ro
          have r6 := mapVs_ok hb _ _ k1 r5
          have e5 : H' (ρ i) = some (.lst (a'.st k ++ vs)) := e5
          rcases q3 with ⟨xs, pv, rfl, rp, ep⟩ | ⟨xs, pv, rfl, rp, ep⟩
          · refine ⟨pv ++ vs, ?_, ?_⟩
            · rw [hs' k hk2, ep] at e5
              exact e5
            · exact (res_ev (a := b) (b := b.out a') rfl (rp.mono (fun _ _ => rfl) (Nat.le_refl _) tu)).append r6
          · refine ⟨pv ++ vs, ?_, ?_⟩
            · rw [hs' k hk2, ep] at e5
              show H' (ρ i) = some (.lst ((if k = 2 then a'.st 2 else b.st k) ++ (pv ++ vs)))
              rw [if_neg hk2, ← List.append_assoc]
              exact e5
            · exact (res_ev (a := b) (b := b.out a') rfl (rp.mono (fun _ _ => rfl) (Nat.le_refl _) tu)).append r6
      | lst xs => exact mapO_ok hb (.inl rfl) k1 ro
      | dK xs => exact mapO_ok hb (.inl rfl) k1 ro
      | dT xs => exact mapO_ok hb (.inl rfl) k1 ro
      | ins d xs => exact mapO_ok hb (.inl rfl) k1 ro
      | fz xs => exact mapO_ok hb (.inl rfl) k1 ro
  · obtain ⟨_, g1⟩ := liveA e1
    obtain ⟨_, g2⟩ := liveA e2
    exact R2.inj i j _ _ g1 g2 z
  · obtain ⟨q1, _⟩ := E.fr d o hd (frS d ni)
    refine ⟨q1, fun ⟨i, o, e1, e2⟩ => ?_⟩
    obtain ⟨_, g⟩ := liveA e1
    exact ni ⟨i, _, g, e2⟩
end
end Zg
set_option Elab.async false
set_option maxRecDepth 100000
set_option maxHeartbeats 4000000
set_option linter.all false
/-! ZG5: the loops of an interpreter by steps. -/
namespace Zg
open PySem L2
/-- a loop (two: with a loop inside) -/
structure Lp where
  two : Bool
  to : MT
  so : MS
  ti : MT
  si : MS
abbrev Sta := Nat × SA × AH
def onw (l : Nat) (r : Option (Fl × SA × AH)) : Option Sta := match r with
  | some (.nx, s2, A2) => some (l, s2, A2)
  | _ => none
def Lp.stp (L : Lp) : Sta → Option Sta
  | (0, s, A) => bnd (L.to s A) fun b A1 => cond b (onw (cond L.two 1 0) (L.so s A1)) (some (2, s, A1))
  | (1, s, A) => bnd (L.ti s A) fun b A1 => cond b (onw 1 (L.si s A1)) (some (0, s, A1))
  | _ => none
def Lp.itr (L : Lp) : Nat → Sta → Option Sta
  | 0, q => some q
  | n + 1, q => match L.stp q with
    | some q' => L.itr n q'
    | none => none
section
variable {G : Gm} {L : Lp} {Fin : St → Hp → Prop}
def TOf (G : Gm) (m : MT) : TT := fun σ H Q => ∃ x : Ex, DT (G.re x) m σ H Q
def SOf (G : Gm) (m : MS) : TS := fun D σ H => ∃ x : Ex, DS (G.re x) m D σ H
def WP (G : Gm) (L : Lp) (Fin : St → Hp → Prop) : Nat → Nat → St → Hp → Prop
  | _, 2 => Fin
  | 0, _ => fun _ _ => False
  | m + 1, 0 => fun σ H => TOf G L.to σ H fun b H1 => if b = true then SOf G L.so { nx := WP G L Fin m (cond L.two 1 0), rt := fun _ _ => False } σ H1 else Fin σ H1
  | m + 1, 1 => fun σ H => TOf G L.ti σ H fun b H1 => if b = true then SOf G L.si { nx := WP G L Fin m 1, rt := fun _ _ => False } σ H1 else WP G L Fin m 0 σ H1
  | _ + 1, _ + 3 => fun _ _ => False
theorem post_nx {ρ : Nat → Addr} {A A' : AH} {H : Hp} {s' : SA} {D : Ends} (h : ∀ ρ' H' σ', Ext G ρ A H ρ' A' H' → Rel G ρ' A' H' → RSt G ρ' A'.n H' s' σ' → D.nx σ' H') : Post G ρ A H D (.nx, s', A') := fun ρ' H' e R σ' hs => h ρ' H' σ' e R hs
theorem onw_some {l : Nat} {r : Option (Fl × SA × AH)} {q : Sta} (h : onw l r = some q) : r = some (.nx, q.2.1, q.2.2) ∧ q.1 = l := by
  unfold onw at h
  split at h
  · cases h
    exact ⟨rfl, rfl⟩
  · cases h
theorem stp_ok {x : Ex} {ρ : Nat → Addr} {σ : St} {H : Hp} {m : Nat} {q q' : Sta} (h : L.stp q = some q') (c : Cf (G.re x) ρ q.2.2 q.2.1 σ H)
    (k : ∀ ρ' H' σ', Ext (G.re x) ρ q.2.2 H ρ' q'.2.2 H' → Cf (G.re x) ρ' q'.2.2 q'.2.1 σ' H' → WP G L Fin m q'.1 σ' H') : WP G L Fin (m + 1) q.1 σ H := by
  obtain ⟨l, s, A⟩ := q
  match l, h with
  | 0, h =>
    obtain ⟨b, A1, h1, h2⟩ := bnd_some h
    refine ⟨x, ρ, A, s, b, A1, c, h1, fun ρ1 H1 e1 R1 => ?_⟩
    cases b with
    | true =>
      rw [if_pos rfl]
      obtain ⟨h3, h4⟩ := onw_some h2
      refine ⟨x, ρ1, A1, s, _, c.ext e1 R1, h3, post_nx fun ρ' H' σ' e R hs => ?_⟩
      have := k ρ' H' σ' (e1.trans e) ⟨hs, R⟩
      rw [h4] at this
      exact this
    | false =>
      rw [if_neg (by decide)]
      cases h2
      have := k ρ1 H1 σ e1 (c.ext e1 R1)
      cases m <;> exact this
  | 1, h =>
    obtain ⟨b, A1, h1, h2⟩ := bnd_some h
    refine ⟨x, ρ, A, s, b, A1, c, h1, fun ρ1 H1 e1 R1 => ?_⟩
    cases b with
    | true =>
      rw [if_pos rfl]
      obtain ⟨h3, h4⟩ := onw_some h2
      refine ⟨x, ρ1, A1, s, _, c.ext e1 R1, h3, post_nx fun ρ' H' σ' e R hs => ?_⟩
      have := k ρ' H' σ' (e1.trans e) ⟨hs, R⟩
      rw [h4] at this
      exact this
    | false =>
      rw [if_neg (by decide)]
      cases h2
      exact k ρ1 H1 σ e1 (c.ext e1 R1)
  | 2, h => cases h
  | _ + 3, h => cases h
theorem itr_ok {x : Ex} {m : Nat} : ∀ {n : Nat} {ρ : Nat → Addr} {σ : St} {H : Hp} {q q' : Sta}, L.itr n q = some q' → Cf (G.re x) ρ q.2.2 q.2.1 σ H →
    (∀ ρ' H' σ', Ext (G.re x) ρ q.2.2 H ρ' q'.2.2 H' → Cf (G.re x) ρ' q'.2.2 q'.2.1 σ' H' → WP G L Fin m q'.1 σ' H') → WP G L Fin (m + n) q.1 σ H
  | 0, ρ, σ, H, q, q', h, c, k => by
    cases h
    exact k ρ H σ .refl c
  | n + 1, ρ, σ, H, q, q', h, c, k => by
    have h : (match L.stp q with
      | some q' => L.itr n q'
      | none => none) = some q' := h
    split at h
    · rename_i q1 h1
      exact stp_ok h1 c fun ρ1 H1 σ1 e1 c1 => itr_ok h c1 fun ρ' H' σ' e c' => k ρ' H' σ' (e1.trans e) c'
    · cases h
/-! ### the loops themselves -/
theorem TOf.mono {m : MT} {σ : St} {H : Hp} {Q Q' : Bool → Hp → Prop} (h : TOf G m σ H Q) (q : ∀ b H, Q b H → Q' b H) : TOf G m σ H Q' := by
  obtain ⟨x, ρ, A, s, b, A1, c, h1, k⟩ := h
  exact ⟨x, ρ, A, s, b, A1, c, h1, fun ρ' H' e R => q _ _ (k ρ' H' e R)⟩
theorem SOf.mono {m : MS} {σ : St} {H : Hp} {N : St → Hp → Prop} {D : Ends} (h : SOf G m { nx := N, rt := fun _ _ => False } σ H) (q : ∀ σ H, N σ H → D.nx σ H) : SOf G m D σ H := by
  obtain ⟨x, ρ, A, s, r, c, h1, k⟩ := h
  refine ⟨x, ρ, A, s, r, c, h1, fun ρ' H' e R => ?_⟩
  have := k ρ' H' e R
  obtain ⟨fl, s1, A1⟩ := r
  cases fl with
  | nx => exact fun σ' hs => q _ _ (this σ' hs)
  | bk => exact fun σ' hs => (this σ' hs).elim
  | ct => exact fun σ' hs => (this σ' hs).elim
  | rt v => exact fun u hu => (this u hu).elim
theorem while_one {D : Ends} {m : Nat} {σ : St} {H : Hp} (h2 : L.two = false) (h : WP G L D.nx m 0 σ H) : tWhile (TOf G L.to) (SOf G L.so) D σ H := by
  refine ⟨fun m σ H => WP G L D.nx m 0 σ H, ⟨m, h⟩, ?_⟩
  rintro m σ H h
  cases m with
  | zero => exact h.elim
  | succ m =>
    refine TOf.mono (show TOf G L.to σ H _ from h) fun b H1 q => ?_
    cases b with
    | true =>
      rw [if_pos rfl] at q ⊢
      rw [h2] at q
      exact ⟨fun σ' H' => WP G L D.nx m 0 σ' H', fun σ' H' z => ⟨m, Nat.lt_succ_self m, z⟩, q.mono fun _ _ z => z⟩
    | false =>
      rw [if_neg (by decide)] at q ⊢
      exact q
theorem while_two {D : Ends} {m : Nat} {σ : St} {H : Hp} (h2 : L.two = true) (h : WP G L D.nx m 0 σ H) : tWhile (TOf G L.to) (tSeq (SOf G L.so) (tWhile (TOf G L.ti) (SOf G L.si))) D σ H := by
  refine ⟨fun m σ H => WP G L D.nx m 0 σ H, ⟨m, h⟩, ?_⟩
  rintro m σ H h
  cases m with
  | zero => exact h.elim
  | succ m =>
    refine TOf.mono (show TOf G L.to σ H _ from h) fun b H1 q => ?_
    cases b with
    | true =>
      rw [if_pos rfl] at q ⊢
      rw [h2] at q
      refine ⟨fun σ' H' => ∃ m', m' < m + 1 ∧ WP G L D.nx m' 0 σ' H', fun σ' H' z => z, ?_⟩
      refine SOf.mono q fun σ1 H2 z => ?_
      refine ⟨fun j σ H => j ≤ m ∧ WP G L D.nx j 1 σ H, ⟨m, Nat.le_refl m, z⟩, ?_⟩
      rintro j σ2 H3 ⟨hj, z⟩
      cases j with
      | zero => exact z.elim
      | succ j =>
        refine TOf.mono (show TOf G L.ti σ2 H3 _ from z) fun b H4 q => ?_
        cases b with
        | true =>
          rw [if_pos rfl] at q ⊢
          exact ⟨fun σ' H' => j ≤ m ∧ WP G L D.nx j 1 σ' H', fun σ' H' z => ⟨j, Nat.lt_succ_self j, z⟩, q.mono fun _ _ z => ⟨by omega, z⟩⟩
        | false =>
          rw [if_neg (by decide)] at q ⊢
          exact ⟨j, by omega, q⟩
    | false =>
      rw [if_neg (by decide)] at q ⊢
      exact q
end
end Zg
set_option Elab.async false
set_option maxRecDepth 100000
set_option maxHeartbeats 4000000
set_option linter.all false
/-! ZG6: turns by induction: what a turn of the written program does to an interpreter. -/
namespace Zg
open PySem L2
/-! ### unknowns: 1, x, the result, the number, fuel, a constant -/
def thS : List (List Int) := [[1], [0, 1], [0, 0, 1], [1, 0, 0, 1], [0, 0, 0, 0, 1], [0, 0, 0, 0, 0, 1]]
def thT : List (List Int) := [[1], [0, 2], [0, 0, 1], [0, 0, 0, 1], [0, 0, 0, 0, 1], [0, 0, 0, 0, 0, 1]]
def thZ : List (List Int) := [[1], [0, 1], [0, 1], [], [0, 0, 0, 0, 1], [0, 0, 0, 0, 0, 1]]
def thI : List (List Int) := [[1], [0, 1], [0, 0, 1], [0, 0, 0, 1], [0, 0, 0, 0, 1], [0, 0, 0, 0, 0, 1]]
def dbl : Nat → Int → Int
  | 0, x => x
  | n + 1, x => dbl n (x + x)
structure Inv (n : Nat) (ev : Nat → Int) : Prop where
  k : ev 3 = n
  r : ev 2 = dbl n (ev 1)
  z : ∀ i, 6 ≤ i → ev i = 0
theorem evS_ge {ev : Nat → Int} {t : List (List Int)} {i : Nat} (h : t.length ≤ i) : evS ev t i = 0 := by
  unfold evS
  rw [List.getElem?_eq_none_iff.mpr h]
theorem six {f g : Nat → Int} (h0 : f 0 = g 0) (h1 : f 1 = g 1) (h2 : f 2 = g 2) (h3 : f 3 = g 3) (h4 : f 4 = g 4) (h5 : f 5 = g 5) (h6 : ∀ i, 6 ≤ i → f i = g i) : f = g := by
  funext i
  match i with
  | 0 => exact h0
  | 1 => exact h1
  | 2 => exact h2
  | 3 => exact h3
  | 4 => exact h4
  | 5 => exact h5
  | i + 6 => exact h6 _ (by omega)
theorem evS_I {x : Ex} (hz : ∀ i, 6 ≤ i → x.ev i = 0) : x.ev = evS x.ev thI := by
  refine six ?_ ?_ ?_ ?_ ?_ ?_ fun i hi => ?_
  · show _ = 1 * x.ev 0 + 0
    omega
  · show _ = 0 * x.ev 0 + (1 * x.ev 1 + 0)
    omega
  · show _ = 0 * x.ev 0 + (0 * x.ev 1 + (1 * x.ev 2 + 0))
    omega
  · show _ = 0 * x.ev 0 + (0 * x.ev 1 + (0 * x.ev 2 + (1 * x.ev 3 + 0)))
    omega
  · show _ = 0 * x.ev 0 + (0 * x.ev 1 + (0 * x.ev 2 + (0 * x.ev 3 + (1 * x.ev 4 + 0))))
    omega
  · show _ = 0 * x.ev 0 + (0 * x.ev 1 + (0 * x.ev 2 + (0 * x.ev 3 + (0 * x.ev 4 + (1 * x.ev 5 + 0)))))
    omega
  · rw [hz i hi, evS_ge hi]
theorem evS_Z {x : Ex} (inv : Inv 0 x.ev) : x.ev = evS x.ev thZ := by
  refine six ?_ ?_ ?_ ?_ ?_ ?_ fun i hi => ?_
  · show _ = 1 * x.ev 0 + 0
    omega
  · show _ = 0 * x.ev 0 + (1 * x.ev 1 + 0)
    omega
  · show _ = 0 * x.ev 0 + (1 * x.ev 1 + 0)
    rw [inv.r]
    show x.ev 1 = _
    omega
  · show _ = (0 : Int)
    rw [inv.k]
    rfl
  · show _ = 0 * x.ev 0 + (0 * x.ev 1 + (0 * x.ev 2 + (0 * x.ev 3 + (1 * x.ev 4 + 0))))
    omega
  · show _ = 0 * x.ev 0 + (0 * x.ev 1 + (0 * x.ev 2 + (0 * x.ev 3 + (0 * x.ev 4 + (1 * x.ev 5 + 0)))))
    omega
  · rw [inv.z i hi, evS_ge hi]
/-- the number is less by one -/
def Ex.dn (x : Ex) (n : Nat) : Ex := ⟨fun i => if i = 3 then (n : Int) else x.ev i, by rw [if_neg (by decide)]; exact x.ev0, fun i hi => by
  show 0 ≤ (if i = 3 then (n : Int) else x.ev i)
  split
  · omega
  · exact x.evp i hi, x.st, x.stl, x.stn⟩
theorem evS_S {x : Ex} {n : Nat} (inv : Inv (n + 1) x.ev) : x.ev = evS (x.dn n).ev thS := by
  have h0 := x.ev0
  refine six ?_ ?_ ?_ ?_ ?_ ?_ fun i hi => ?_
  · show _ = 1 * x.ev 0 + 0
    omega
  · show _ = 0 * x.ev 0 + (1 * x.ev 1 + 0)
    omega
  · show _ = 0 * x.ev 0 + (0 * x.ev 1 + (1 * x.ev 2 + 0))
    omega
  · show _ = 1 * x.ev 0 + (0 * x.ev 1 + (0 * x.ev 2 + (1 * (n : Int) + 0)))
    rw [inv.k, h0]
    omega
  · show _ = 0 * x.ev 0 + (0 * x.ev 1 + (0 * x.ev 2 + (0 * (n : Int) + (1 * x.ev 4 + 0))))
    omega
  · show _ = 0 * x.ev 0 + (0 * x.ev 1 + (0 * x.ev 2 + (0 * (n : Int) + (0 * x.ev 4 + (1 * x.ev 5 + 0)))))
    omega
  · rw [inv.z i hi, evS_ge hi]
theorem inv_T {x : Ex} {n : Nat} (inv : Inv (n + 1) x.ev) : Inv n (evS (x.dn n).ev thT) := by
  refine ⟨?_, ?_, fun i hi => evS_ge hi⟩
  · show 0 * x.ev 0 + (0 * x.ev 1 + (0 * x.ev 2 + (1 * (n : Int) + 0))) = _
    omega
  · show 0 * x.ev 0 + (0 * x.ev 1 + (1 * x.ev 2 + 0)) = dbl n (0 * x.ev 0 + (2 * x.ev 1 + 0))
    have e1 : 0 * x.ev 0 + (0 * x.ev 1 + (1 * x.ev 2 + 0)) = x.ev 2 := by omega
    have e2 : 0 * x.ev 0 + (2 * x.ev 1 + 0) = x.ev 1 + x.ev 1 := by omega
    rw [e1, e2, inv.r]
    rfl
/-! ### outputs, closed -/
def cL (k : Nat) : List Int → Option Int
  | [] => some 0
  | [a] => some a
  | [a, b] => cond (ieq b 0) (some a) none
  | [a, b, c] => cond (ieq b 0 && ieq c 0) (some a) none
  | a :: b :: c :: d :: r => cond (ieq b 0 && (ieq c 0 && lz r)) (some (a + d * (k : Int))) none
mutual
def cV (k : Nat) : AV → AV
  | .sym l => .int ((cL k l).getD 0)
  | .tup xs => .tup (cVs k xs)
  | x => x
def cVs (k : Nat) : List AV → List AV
  | [] => []
  | x :: xs => cV k x :: cVs k xs
end
mutual
def okC : AV → Bool
  | .sym l => (cL 0 l).isSome
  | .tup xs => okCs xs
  | .int _ => true
  | _ => false
def okCs : List AV → Bool
  | [] => true
  | x :: xs => okC x && okCs xs
end
theorem cL_ok {x : Ex} {k : Nat} {l : List Int} (hk : x.ev 3 = k) (h : (cL 0 l).isSome = true) : (cL k l).getD 0 = lv x.ev 0 l := by
  have h0 := x.ev0
  match l, h with
  | [], _ => rfl
  | [a], _ =>
    show a = a * x.ev 0 + 0
    rw [h0]
    omega
  | [a, b], h =>
    show (cond (ieq b 0) (some a) none).getD 0 = a * x.ev 0 + (b * x.ev 1 + 0)
    have h : (cond (ieq b 0) (some a) none : Option Int).isSome = true := h
    cases e : ieq b 0 with
    | true =>
      have := ieq_eq e
      rw [this, h0, Int.zero_mul]
      show a = _
      omega
    | false =>
      rw [e] at h
      cases h
  | [a, b, c], h =>
    show (cond (ieq b 0 && ieq c 0) (some a) none).getD 0 = a * x.ev 0 + (b * x.ev 1 + (c * x.ev 2 + 0))
    have h : (cond (ieq b 0 && ieq c 0) (some a) none : Option Int).isSome = true := h
    cases e : (ieq b 0 && ieq c 0) with
    | true =>
      obtain ⟨e1, e2⟩ := and_yes e
      rw [ieq_eq e1, ieq_eq e2, h0, Int.zero_mul, Int.zero_mul]
      show a = _
      omega
    | false =>
      rw [e] at h
      cases h
  | a :: b :: c :: d :: r, h =>
    show (cond (ieq b 0 && (ieq c 0 && lz r)) (some (a + d * (k : Int))) none).getD 0 = a * x.ev 0 + (b * x.ev 1 + (c * x.ev 2 + (d * x.ev 3 + lv x.ev 4 r)))
    have h : (cond (ieq b 0 && (ieq c 0 && lz r)) (some (a + d * ((0 : Nat) : Int))) none : Option Int).isSome = true := h
    cases e : (ieq b 0 && (ieq c 0 && lz r)) with
    | true =>
      obtain ⟨e1, e2⟩ := and_yes e
      obtain ⟨e2, e3⟩ := and_yes e2
      rw [ieq_eq e1, ieq_eq e2, h0, hk, lz_ok r 4 e3, Int.zero_mul, Int.zero_mul]
      show a + d * (k : Int) = _
      omega
    | false =>
      rw [e] at h
      cases h
def OV (G : Gm) (H : Hp) (xs : List AV) (vs : List V) : Prop := ∀ (y : Ex) (ρ : Nat → Addr) (n : Nat), RVs (G.re y) ρ n H xs vs
section
variable {G : Gm} {x y : Ex} {k : Nat} {ρ ρ' : Nat → Addr} {n n' : Nat} {H H' : Hp}
mutual
theorem cV_ok (hk : x.ev 3 = k) : ∀ (a : AV) (v : V), okC a = true → RV (G.re x) ρ n H a v → RV (G.re y) ρ' n' H (cV k a) v
  | .sym l, v, h, r => by
    cases r
    show RV _ _ _ _ (.int ((cL k l).getD 0)) (.int (lv x.ev 0 l))
    rw [cL_ok hk h]
    exact .int _
  | .tup xs, v, h, r => by
    cases r with
    | tup h1 h2 => exact .tup h1 (cVs_ok hk xs _ h h2)
  | .int i, v, h, r => by
    cases r
    exact .int i
  | .non, v, h, r => by cases h
  | .bl _, v, h, r => by cases h
  | .str _, v, h, r => by cases h
  | .ktup _, v, h, r => by cases h
  | .ref _, v, h, r => by cases h
  | .any, v, h, r => by cases h
theorem cVs_ok (hk : x.ev 3 = k) : ∀ (xs : List AV) (vs : List V), okCs xs = true → RVs (G.re x) ρ n H xs vs → RVs (G.re y) ρ' n' H (cVs k xs) vs
  | [], vs, h, r => by
    cases r
    exact .nil
  | a :: xs, vs, h, r => by
    cases r with
    | cons r1 r2 =>
      obtain ⟨h1, h2⟩ := and_yes (show (okC a && okCs xs) = true from h)
      exact .cons (cV_ok hk a _ h1 r1) (cVs_ok hk xs _ h2 r2)
end
theorem OV.mono {xs : List AV} {vs : List V} (h : OV G H xs vs) (tu : ∀ (a : Addr) (vs : List V), H a = some (.tup vs) → H' a = some (.tup vs)) : OV G H' xs vs := fun y ρ n => (h y ρ n).mono (fun _ _ => rfl) (Nat.le_refl _) tu
theorem OV.append {xs ys : List AV} {vs ws : List V} (h : OV G H xs vs) (k : OV G H ys ws) : OV G H (xs ++ ys) (vs ++ ws) := fun y ρ n => (h y ρ n).append (k y ρ n)
end
def outsF (os ob : List AV) : Nat → List AV
  | 0 => cVs 0 ob
  | n + 1 => cVs n os ++ outsF os ob n
/-! ### a turn -/
def bdn (n : Nat) : Nat := 2000 * n + 1000
def TurnP (G : Gm) (L : Lp) (sS : SA) (S : AH) (lT : Nat) (sT : SA) (T : AH) (out : Nat → List AV) (cn : Nat → Nat) (n : Nat) : Prop :=
  ∀ (Fin : St → Hp → Prop) (x : Ex) (ρ : Nat → Addr) (H : Hp) (σ : St) (m B : Nat), Inv n x.ev → (∀ k, (x.st k).length ≤ B) → B + bdn n ≤ 5000000 → Cf (G.re x) ρ S sS σ H →
    (∀ (x' : Ex) (H' : Hp) (σ' : St) (vs : List V), x'.ev = x.ev → (∀ k, k ≠ 2 → x'.st k = x.st k) → (∀ k, (x'.st k).length ≤ B + bdn n) → x'.st 2 = x.st 2 ++ vs → OV G H' (out n) vs →
      Ext G ρ S H ρ T H' → Cf (G.re x') ρ T sT σ' H' → WP G L Fin m lT σ' H') → WP G L Fin (m + cn n) 0 σ H
def stkF (A4 : AH) (i : Nat) (o : AO) : Bool := match o with
  | .stk k ys => match A4.get i with
    | some (.stk l xs) => l.beq k && (k.beq 2 || xs.length.beq ys.length)
    | _ => false
  | _ => true
/-- the end of a turn seen -/
def finB (t : List (List Int)) (kx : PM) (n i2 : Nat) (o4 : List AV) (sT : SA) (T : AH) (s4 : SA) (A4 : AH) : Bool :=
  view (idp n) t kx sT T s4 A4 && (T.n.beq n && (T.chk (stkF A4) && ((match T.get i2 with
    | some (.stk k ys) => k.beq 2 && ys.isEmpty
    | _ => false) && (match A4.get i2 with
    | some (.stk _ xs) => simVs [] thI 0 o4 xs
    | _ => false))))
theorem fin_state {G G1 : Gm} {x z : Ex} {t : List (List Int)} {kx : PM} {n i2 B : Nat} {o4 : List AV} {sT s4 : SA} {S T A4 : AH} {ρ ρ5 : Nat → Addr} {H H5 : Hp} {σ : St}
    (hz : ∀ i, 6 ≤ i → z.ev i = 0) (hx : x.ev = evS z.ev t) (hst : ∀ k, k ≠ 2 → z.st k = x.st k) (hB : ∀ k, (z.st k).length ≤ B) (hB2 : B + 1000 ≤ 5000000) (hxB : ∀ k, (x.st k).length ≤ B) (hn : S.n = n)
    (h : finB t kx n i2 o4 sT T s4 A4 = true) (e : Ext G1 ρ S H ρ5 A4 H5) (c : Cf (G.re z) ρ5 A4 s4 σ H5) :
    ∃ (x' : Ex) (pv : List V), x'.ev = x.ev ∧ (∀ k, k ≠ 2 → x'.st k = x.st k) ∧ (∀ k, (x'.st k).length ≤ B + 1000) ∧ x'.st 2 = z.st 2 ++ pv ∧ RVs (G.re z) ρ5 0 H5 o4 pv ∧ Ext G ρ S H ρ T H5 ∧ Cf (G.re x') ρ T sT σ H5 := by
  obtain ⟨h1, h⟩ := and_yes h
  obtain ⟨h2, h⟩ := and_yes h
  obtain ⟨h3, h⟩ := and_yes h
  obtain ⟨h4, h5⟩ := and_yes h
  have h2 := Nat.eq_of_beq_eq_true h2
  obtain ⟨a, ha, ca, la, sk⟩ := view_ok hB hB2 h1 c
  have vw : ∀ i o, T.get i = some o → ∃ o2, A4.get i = some o2 := fun i o q => by
    obtain ⟨_, v2⟩ := and_yes h1
    obtain ⟨_, v3⟩ := and_yes v2
    obtain ⟨_, v4⟩ := and_yes v3
    obtain ⟨q1, q2⟩ := and_yes (achk v4 q)
    rw [idp_ok (by rw [← h2]; exact Nat.blt_eq.mp q1)] at q2
    have q2 : (match A4.get i with
      | none => false
      | some o2 => _) = true := q2
    cases e4 : A4.get i with
    | none =>
      rw [e4] at q2
      cases q2
    | some o2 => exact ⟨o2, rfl⟩
  have ag : ∀ i, i < T.n → ρ i = ρp (idp n) ρ5 i := fun i hi => by
    rw [h2] at hi
    rw [ρp_ok (idp_ok hi)]
    exact (e.ag i (by rw [hn]; exact hi)).symm
  have st5 : ∀ i k ys, T.get i = some (.stk k ys) → k ≠ 2 → a.st k = x.st k := fun i k ys q hk => by
    obtain ⟨j, o2, q1, q2, ⟨q3⟩⟩ := sk i k ys q
    have li := ca.rel.lt i _ q
    rw [h2] at li
    rw [idp_ok li] at q1
    cases q1
    have q4 := achk h3 q
    unfold stkF at q4
    have q4 : (match A4.get i with
      | some (.stk l xs) => l.beq k && (k.beq 2 || xs.length.beq ys.length)
      | _ => false) = true := q4
    rw [q2] at q4
    rcases q3 with ⟨xs, pv, rfl, rp, ep⟩ | ⟨xs, pv, rfl, rp, ep⟩
    · cases q4
    · obtain ⟨_, q5⟩ := and_yes q4
      have : k.beq 2 = false := by
        cases e2 : k.beq 2 with
        | false => rfl
        | true => exact absurd (Nat.eq_of_beq_eq_true e2) hk
      rw [this] at q5
      have q5 := Nat.eq_of_beq_eq_true (show xs.length.beq ys.length = true from q5)
      have : pre ys xs = [] := by
        unfold pre
        rw [q5, Nat.sub_self]
        rfl
      rw [this] at rp
      cases rp
      rw [ep, List.append_nil]
      exact hst k hk
  have tw : ∃ pv, a.st 2 = z.st 2 ++ pv ∧ RVs (G.re z) ρ5 0 H5 o4 pv := by
    cases e6 : T.get i2 with
    | none =>
      rw [e6] at h4
      cases h4
    | some o =>
      rw [e6] at h4
      cases o <;> first | (cases h4; done) | skip
      rename_i k ys
      obtain ⟨h7, h8⟩ := and_yes h4
      have := Nat.eq_of_beq_eq_true h7
      subst this
      cases ys with
      | cons _ _ => cases h8
      | nil =>
        obtain ⟨j, o2, q1, q2, ⟨q3⟩⟩ := sk i2 2 [] e6
        have li := ca.rel.lt i2 _ e6
        rw [h2] at li
        rw [idp_ok li] at q1
        cases q1
        rw [q2] at h5
        rcases q3 with ⟨xs, pv, rfl, rp, ep⟩ | ⟨xs, pv, rfl, rp, ep⟩
        · cases h5
        · refine ⟨pv, ep, ?_⟩
          have : pre [] xs = xs := by
            unfold pre
            rw [List.length_nil, Nat.sub_zero, List.take_length]
          rw [this] at rp
          have h5 : simVs [] thI 0 o4 xs = true := h5
          exact (simVs_ok (evS_I hz) _ _ _ h5 rp).mono (fun i hi => by omega) (Nat.le_refl 0) (fun _ _ q => q)
  obtain ⟨pv, t1, t2⟩ := tw
  refine ⟨x.out a, pv, rfl, fun k hk => if_neg hk, fun k => ?_, (by show (if (2 : Nat) = 2 then a.st 2 else x.st 2) = _; rw [if_pos rfl]; exact t1), t2, ?_, ?_⟩
  · show (if k = 2 then a.st 2 else x.st k).length ≤ _
    split
    · exact la 2
    · exact Nat.le_trans (hxB k) (Nat.le_add_right _ _)
  · refine ⟨fun _ _ => rfl, by rw [hn, h2] <;> exact Nat.le_refl _, fun d o hd ni => ?_, e.tu⟩
    obtain ⟨q1, q2⟩ := e.fr d o hd ni
    refine ⟨q1, fun ⟨i, oT, g1, g2⟩ => ?_⟩
    obtain ⟨o2, g3⟩ := vw i oT g1
    have li := ca.rel.lt i _ g1
    exact q2 ⟨i, o2, g3, by rw [← g2]; exact e.ag i (by rw [hn, ← h2]; exact li)⟩
  · have hev : a.ev = x.ev := ha.trans hx.symm
    refine ⟨⟨ca.st.len, fun i v q => ?_⟩, ca.rel.lt, fun i o q => ?_, fun i j o u q1 q2 w => ?_⟩
    · obtain ⟨u, e1, r⟩ := ca.st.at_ i v q
      exact ⟨u, e1, re_ev (a := a) (b := x.out a) hev (r.mono ag (Nat.le_refl _) (fun _ _ q => q))⟩
    · have ro := ca.rel.ob i o q
      rw [← ag i (ca.rel.lt i o q)] at ro
      refine ro_ev (a := a) (b := x.out a) hev (.inr fun k xs ek => ?_) (ro.mono ag (Nat.le_refl _) (fun _ _ q => q) rfl)
      show a.st k = if k = 2 then a.st 2 else x.st k
      split
      · rename_i hk
        rw [hk]
      · rename_i hk
        subst ek
        exact st5 i k xs q hk
    · rw [ag i (ca.rel.lt i o q1), ag j (ca.rel.lt j u q2)] at w
      exact ca.rel.inj i j o u q1 q2 w
/-! ### one turn, closed -/
structure TD where
  L : Lp
  sS : SA
  S : AH
  lT : Nat
  sT : SA
  T : AH
  p : PM
  kS : PM
  kT : PM
  iT : Nat
  os : List AV
  ob : List AV
  c1 : Nat
  c2 : Nat
  cb : Nat
def TD.cn (d : TD) : Nat → Nat
  | 0 => d.cb
  | n + 1 => d.c2 + d.cn n + d.c1
abbrev TD.P (d : TD) (G : Gm) (n : Nat) : Prop := TurnP G d.L d.sS d.S d.lT d.sT d.T (outsF d.os d.ob) d.cn n
def putS2 (t : List (List Int)) (s : SA) (A : AH) : Sta := (0, mapS (idp A.n) t s, mapA (idp A.n) t A)
def TD.baseB (d : TD) : Bool := subB d.S d.sS && (okCs d.ob && match d.L.itr d.cb (putS2 thZ d.sS d.S) with
  | some q => q.1.beq d.lT && finB thZ d.kT d.S.n d.iT d.ob d.sT d.T q.2.1 q.2.2
  | none => false)
def is2 : Option AO → Bool
  | some (.stk k ys) => k.beq 2 && ys.isEmpty
  | _ => false
def top2 (os : List AV) : Option AO → Bool
  | some (.stk k xs) => k.beq 2 && simVs [] thI 0 os xs
  | _ => false
/-- the outputs of a turn stand in the whole -/
def outB (p : PM) (iS : Nat) (os : List AV) (S A2 : AH) : Bool := is2 (S.get iS) && match pget p iS with
  | some j => top2 os (A2.get j)
  | none => false
def TD.stepB (d : TD) : Bool := subB d.S d.sS && (okCs d.os && match d.L.itr d.c1 (putS2 thS d.sS d.S) with
  | some q => q.1.beq 0 && (view d.p thT d.kS d.sS d.S q.2.1 q.2.2 && (mrgB d.p d.S d.T q.2.2 d.sT && (outB d.p d.iT d.os d.S q.2.2 && match d.L.itr d.c2 (d.lT, mapS d.p thT d.sT, mrg d.p thT d.S d.T q.2.2 d.p q.2.2) with
    | some r => r.1.beq d.lT && finB thS d.kT d.S.n d.iT [] d.sT d.T r.2.1 r.2.2
    | none => false)))
  | none => false)
theorem view_live {p kx : PM} {t : List (List Int)} {s3 s2 : SA} {A3 A2 : AH} (h : view p t kx s3 A3 s2 A2 = true) : ndB (p.map (·.2)) = true ∧ ∀ i o, A3.get i = some o → ∃ j o2, pget p i = some j ∧ A2.get j = some o2 := by
  obtain ⟨_, h⟩ := and_yes h
  obtain ⟨h2, h⟩ := and_yes h
  obtain ⟨_, h4⟩ := and_yes h
  refine ⟨h2, fun i o e => ?_⟩
  obtain ⟨_, q2⟩ := and_yes (achk h4 e)
  cases e1 : pget p i with
  | none =>
    rw [e1] at q2
    cases q2
  | some j =>
    rw [e1] at q2
    have q2 : (match A2.get j with
      | none => false
      | some o2 => _) = true := q2
    cases e2 : A2.get j with
    | none =>
      rw [e2] at q2
      cases q2
    | some o2 => exact ⟨j, o2, rfl, e2⟩
theorem turn_base {G : Gm} {d : TD} (h : d.baseB = true) : d.P G 0 := by
  intro Fin x ρ H σ m B inv hB hB2 c k
  obtain ⟨h1, h⟩ := and_yes h
  obtain ⟨h2, h⟩ := and_yes h
  split at h
  · rename_i q hq
    obtain ⟨h3, h4⟩ := and_yes h
    have h3 := Nat.eq_of_beq_eq_true h3
    have hz := evS_Z inv
    have c0 : Cf (G.re x) ρ (mapA (idp d.S.n) thZ d.S) (mapS (idp d.S.n) thZ d.sS) σ H := sub_ok (a := x) (b := x) hz rfl h1 c
    refine itr_ok (q := putS2 thZ d.sS d.S) hq c0 fun ρ5 H5 σ5 e5 c5 => ?_
    have e5' : Ext (G.re x) ρ d.S H ρ5 q.2.2 H5 := ⟨e5.ag, e5.le, fun b o hb ni => e5.fr b o hb fun ⟨i, o', g1, g2⟩ => by
      have g1 : (d.S.t.map (mapO (idp d.S.n) thZ)).get i = some o' := g1
      rw [get_map] at g1
      cases g3 : d.S.t.get i with
      | none =>
        rw [g3] at g1
        cases g1
      | some o2 => exact ni ⟨i, o2, g3, g2⟩, e5.tu⟩
    obtain ⟨x', pv, r1, r2, r3, r4, r5, r6, r7⟩ := fin_state (x := x) (z := x) inv.z hz (fun _ _ => rfl) hB (by unfold bdn at hB2; omega) hB rfl h4 e5' c5
    rw [h3]
    refine k x' H5 σ5 pv r1 r2 (fun k => Nat.le_trans (r3 k) (by unfold bdn; omega)) r4 (fun y ρ' n' => ?_) r6 r7
    have e0 : x.ev 3 = ((0 : Nat) : Int) := inv.k
    exact cVs_ok e0 _ _ h2 r5
  · cases h
theorem turn_step {G : Gm} {d : TD} (h : d.stepB = true) {n : Nat} (ih : d.P G n) : d.P G (n + 1) := by
  intro Fin x ρ H σ m B inv hB hB2 c k
  obtain ⟨h1, h⟩ := and_yes h
  obtain ⟨h2, h⟩ := and_yes h
  split at h
  · rename_i q hq
    obtain ⟨h3, h⟩ := and_yes h
    obtain ⟨h4, h⟩ := and_yes h
    obtain ⟨h5, h⟩ := and_yes h
    obtain ⟨h6, h⟩ := and_yes h
    split at h
    · rename_i r hr
      obtain ⟨h7, h8⟩ := and_yes h
      have h3 := Nat.eq_of_beq_eq_true h3
      have h7 := Nat.eq_of_beq_eq_true h7
      have hs := evS_S inv
      have c0 : Cf (G.re (x.dn n)) ρ (mapA (idp d.S.n) thS d.S) (mapS (idp d.S.n) thS d.sS) σ H := sub_ok (a := x) (b := x.dn n) hs rfl h1 c
      have em : m + d.cn (n + 1) = (m + d.c2) + d.cn n + d.c1 := by
        show m + (d.c2 + d.cn n + d.c1) = _
        omega
      rw [em]
      refine itr_ok (q := putS2 thS d.sS d.S) hq c0 fun ρ1 H1 σ1 e1 c1 => ?_
      rw [h3]
      have e1' : Ext (G.re x) ρ d.S H ρ1 q.2.2 H1 := ⟨e1.ag, e1.le, fun b o hb ni => e1.fr b o hb fun ⟨i, o', g1, g2⟩ => by
        have g1 : (d.S.t.map (mapO (idp d.S.n) thS)).get i = some o' := g1
        rw [get_map] at g1
        cases g3 : d.S.t.get i with
        | none =>
          rw [g3] at g1
          cases g1
        | some o2 => exact ni ⟨i, o2, g3, g2⟩, e1.tu⟩
      unfold bdn at hB2
      have hBd : ∀ k, ((x.dn n).st k).length ≤ B := hB
      obtain ⟨a, ha, ca, la, sk⟩ := view_ok hBd (by omega) h4 c1
      obtain ⟨nd, vw⟩ := view_live h4
      have inv' : Inv n a.ev := by
        rw [ha]
        exact inv_T inv
      refine ih Fin a _ H1 σ1 (m + d.c2) (B + 1000) inv' la (by unfold bdn; omega) ca fun a' H2 σ2 vs hev hst hlen hvs hout e2 c2 => ?_
      obtain ⟨cU, eU⟩ := merge_ok (G2 := G.re x) ha hev hst nd vw sk h5 c1.rel e2 c2
      refine itr_ok (q := (d.lT, mapS d.p thT d.sT, mrg d.p thT d.S d.T q.2.2 d.p q.2.2)) hr cU fun ρ5 H5 σ5 e5 c5 => ?_
      have e5' : Ext (G.re x) ρ d.S H ρ5 r.2.2 H5 := (e1'.trans eU).trans ⟨e5.ag, e5.le, e5.fr, e5.tu⟩
      have hz6 : ∀ i, 6 ≤ i → ((x.dn n).out a').ev i = 0 := fun i hi => by
        show (if i = 3 then (n : Int) else x.ev i) = 0
        rw [if_neg (by omega)]
        exact inv.z i hi
      have hBz : ∀ k, (((x.dn n).out a').st k).length ≤ B + 1000 + bdn n := fun k => by
        show (if k = 2 then a'.st 2 else x.st k).length ≤ _
        split
        · exact hlen 2
        · have := hB k
          omega
      obtain ⟨x', pv, r1, r2, r3, r4, r5, r6, r7⟩ := fin_state (x := x) (z := (x.dn n).out a') hz6 hs (fun k hk => if_neg hk) hBz (by unfold bdn; omega) (fun k => by have := hB k; omega) rfl h8 e5' c5
      rw [h7]
      cases r5
      -- the outputs
      have ev3 : (x.dn n).ev 3 = ((n : Nat) : Int) := by
        show (if (3 : Nat) = 3 then (n : Int) else x.ev 3) = _
        rw [if_pos rfl]
      have o2 : ∃ pv2, a.st 2 = x.st 2 ++ pv2 ∧ OV G H1 (cVs n d.os) pv2 := by
        unfold outB at h6
        obtain ⟨i1, i2⟩ := and_yes h6
        cases g1 : d.S.get d.iT with
        | none =>
          rw [g1] at i1
          cases i1
        | some o =>
          rw [g1] at i1
          cases o <;> first | (cases i1; done) | skip
          rename_i kk ys
          obtain ⟨i3, i4⟩ := and_yes (show (kk.beq 2 && ys.isEmpty) = true from i1)
          have := Nat.eq_of_beq_eq_true i3
          subst this
          cases ys with
          | cons _ _ => cases i4
          | nil =>
            obtain ⟨j, o2, g2, g3, ⟨g4⟩⟩ := sk d.iT 2 [] g1
            rw [g2] at i2
            have i2 : top2 d.os (q.2.2.get j) = true := i2
            rw [g3] at i2
            rcases g4 with ⟨xs, pv2, rfl, rp, ep⟩ | ⟨xs, pv2, rfl, rp, ep⟩
            · cases i2
            · refine ⟨pv2, ep, fun y ρ' n' => ?_⟩
              have : pre [] xs = xs := by
                unfold pre
                rw [List.length_nil, Nat.sub_zero, List.take_length]
              rw [this] at rp
              obtain ⟨_, i5⟩ := and_yes (show ((2 : Nat).beq 2 && simVs [] thI 0 d.os xs) = true from i2)
              have hzn : ∀ i, 6 ≤ i → (x.dn n).ev i = 0 := hz6
              exact cVs_ok ev3 _ _ h2 (simVs_ok (a := x.dn n) (evS_I hzn) _ _ _ i5 rp)
      obtain ⟨pv2, s1, s2⟩ := o2
      refine k x' H5 σ5 (pv2 ++ vs) r1 r2 (fun k => Nat.le_trans (r3 k) (by unfold bdn; omega)) ?_ ?_ r6 r7
      · rw [r4, List.append_nil]
        show (if (2 : Nat) = 2 then a'.st 2 else x.st 2) = _
        rw [if_pos rfl, hvs, s1, List.append_assoc]
      · have t25 : ∀ (b : Addr) (us : List V), H2 b = some (.tup us) → H5 b = some (.tup us) := e5.tu
        exact (s2.mono fun b us z => t25 b us (e2.tu b us z)).append (hout.mono t25)
    · cases h
  · cases h
theorem turn_all {G : Gm} {d : TD} (h0 : d.baseB = true) (h1 : d.stepB = true) : ∀ n, d.P G n
  | 0 => turn_base h0
  | n + 1 => turn_step h1 (turn_all h0 h1 n)
end Zg
set_option linter.all false
/-! ZSh: the written programs, the interpreters as loops; printed by gensh.py. -/
namespace Zg
inductive Shp where
  | d
  | c (add sh : Bool) (kind : Nat)
/-- the program of a shape: a the number, b the int x -/
def progF : Shp → AV → AV → AV
  | .d, a, b => .tup [.str 1782516, .str 13295, .tup [.str 13166, .str 102, .tup [.str 13166, .str 110, .tup [.str 13166, .str 120, .tup [.str 13542, .tup [.str 228162035, .tup [.str 1817325, .int 0], .tup [.str 232290021, .str 110]], .tup [.str 209221228, .tup [.str 209221228, .tup [.str 209221228, .tup [.str 232290021, .str 102], .tup [.str 232290021, .str 102]], .tup [.str 1899245, .tup [.str 232290021, .str 110], .tup [.str 1817325, .int (-1)]]], .tup [.str 1899245, .tup [.str 232290021, .str 120], .tup [.str 232290021, .str 120]]], .tup [.str 232290021, .str 120]]]]], .tup [.str 209221228, .tup [.str 209221228, .tup [.str 209221228, .tup [.str 232290021, .str 13295], .tup [.str 232290021, .str 13295]], .tup [.str 1817325, a]], .tup [.str 1817325, b]]]
  | .c false false 0, a, b => .tup [.str 1782516, .str 13295, .tup [.str 13166, .str 102, .tup [.str 13166, .str 110, .tup [.str 13542, .tup [.str 228162035, .tup [.str 1817325, .int 0], .tup [.str 232290021, .str 110]], .tup [.str 209221228, .tup [.str 209221228, .tup [.str 232290021, .str 102], .tup [.str 232290021, .str 102]], .tup [.str 1899245, .tup [.str 232290021, .str 110], .tup [.str 1817325, .int (-1)]]], .tup [.str 1817325, .int 7]]]], .tup [.str 209221228, .tup [.str 209221228, .tup [.str 232290021, .str 13295], .tup [.str 232290021, .str 13295]], .tup [.str 1817325, a]]]
  | .c false false 1, a, b => .tup [.str 241006181, .str 228162035, .tup [.str 1782516, .str 118, .tup [.str 31650050284], .tup [.str 232290021, .str 118]], .tup [.str 1782516, .str 13295, .tup [.str 13166, .str 102, .tup [.str 13166, .str 110, .tup [.str 13542, .tup [.str 228162035, .tup [.str 1817325, .int 0], .tup [.str 232290021, .str 110]], .tup [.str 209221228, .tup [.str 209221228, .tup [.str 232290021, .str 102], .tup [.str 232290021, .str 102]], .tup [.str 1899245, .tup [.str 232290021, .str 110], .tup [.str 1817325, .int (-1)]]], .tup [.str 1817325, .int 7]]]], .tup [.str 209221228, .tup [.str 209221228, .tup [.str 232290021, .str 13295], .tup [.str 232290021, .str 13295]], .tup [.str 1817325, a]]]]
  | .c false false 2, a, b => .tup [.str 241006181, .str 1896697, .tup [.str 1782516, .str 118, .tup [.str 1896697, .tup [.str 1817325, .int 5]], .tup [.str 31650050284]], .tup [.str 1782516, .str 13295, .tup [.str 13166, .str 102, .tup [.str 13166, .str 110, .tup [.str 13542, .tup [.str 228162035, .tup [.str 1817325, .int 0], .tup [.str 232290021, .str 110]], .tup [.str 209221228, .tup [.str 209221228, .tup [.str 232290021, .str 102], .tup [.str 232290021, .str 102]], .tup [.str 1899245, .tup [.str 232290021, .str 110], .tup [.str 1817325, .int (-1)]]], .tup [.str 1817325, .int 7]]]], .tup [.str 209221228, .tup [.str 209221228, .tup [.str 232290021, .str 13295], .tup [.str 232290021, .str 13295]], .tup [.str 1817325, a]]]]
  | .c false false _, a, b => .tup [.str 1782516, .str 13295, .tup [.str 13166, .str 102, .tup [.str 13166, .str 110, .tup [.str 241006181, .str 228162035, .tup [.str 228162035, .tup [.str 236484980, .int 0], .tup [.str 236484980, .int 1]], .tup [.str 13542, .tup [.str 228162035, .tup [.str 1817325, .int 0], .tup [.str 232290021, .str 110]], .tup [.str 209221228, .tup [.str 209221228, .tup [.str 232290021, .str 102], .tup [.str 232290021, .str 102]], .tup [.str 1899245, .tup [.str 232290021, .str 110], .tup [.str 1817325, .int (-1)]]], .tup [.str 1817325, .int 7]]]]], .tup [.str 209221228, .tup [.str 209221228, .tup [.str 232290021, .str 13295], .tup [.str 232290021, .str 13295]], .tup [.str 1817325, a]]]
  | .c false true 0, a, b => .tup [.str 1782516, .str 13295, .tup [.str 13166, .str 102, .tup [.str 13166, .str 110, .tup [.str 13542, .tup [.str 228162035, .tup [.str 1817325, .int 0], .tup [.str 1896697, .tup [.str 232290021, .str 110]]], .tup [.str 209221228, .tup [.str 209221228, .tup [.str 232290021, .str 102], .tup [.str 232290021, .str 102]], .tup [.str 1899245, .tup [.str 232290021, .str 110], .tup [.str 1817325, .int (-1)]]], .tup [.str 1817325, .int 7]]]], .tup [.str 209221228, .tup [.str 209221228, .tup [.str 232290021, .str 13295], .tup [.str 232290021, .str 13295]], .tup [.str 1817325, a]]]
  | .c false true 1, a, b => .tup [.str 241006181, .str 228162035, .tup [.str 1782516, .str 118, .tup [.str 31650050284], .tup [.str 232290021, .str 118]], .tup [.str 1782516, .str 13295, .tup [.str 13166, .str 102, .tup [.str 13166, .str 110, .tup [.str 13542, .tup [.str 228162035, .tup [.str 1817325, .int 0], .tup [.str 1896697, .tup [.str 232290021, .str 110]]], .tup [.str 209221228, .tup [.str 209221228, .tup [.str 232290021, .str 102], .tup [.str 232290021, .str 102]], .tup [.str 1899245, .tup [.str 232290021, .str 110], .tup [.str 1817325, .int (-1)]]], .tup [.str 1817325, .int 7]]]], .tup [.str 209221228, .tup [.str 209221228, .tup [.str 232290021, .str 13295], .tup [.str 232290021, .str 13295]], .tup [.str 1817325, a]]]]
  | .c false true 2, a, b => .tup [.str 241006181, .str 1896697, .tup [.str 1782516, .str 118, .tup [.str 1896697, .tup [.str 1817325, .int 5]], .tup [.str 31650050284]], .tup [.str 1782516, .str 13295, .tup [.str 13166, .str 102, .tup [.str 13166, .str 110, .tup [.str 13542, .tup [.str 228162035, .tup [.str 1817325, .int 0], .tup [.str 1896697, .tup [.str 232290021, .str 110]]], .tup [.str 209221228, .tup [.str 209221228, .tup [.str 232290021, .str 102], .tup [.str 232290021, .str 102]], .tup [.str 1899245, .tup [.str 232290021, .str 110], .tup [.str 1817325, .int (-1)]]], .tup [.str 1817325, .int 7]]]], .tup [.str 209221228, .tup [.str 209221228, .tup [.str 232290021, .str 13295], .tup [.str 232290021, .str 13295]], .tup [.str 1817325, a]]]]
  | .c false true _, a, b => .tup [.str 1782516, .str 13295, .tup [.str 13166, .str 102, .tup [.str 13166, .str 110, .tup [.str 241006181, .str 228162035, .tup [.str 228162035, .tup [.str 236484980, .int 0], .tup [.str 236484980, .int 1]], .tup [.str 13542, .tup [.str 228162035, .tup [.str 1817325, .int 0], .tup [.str 1896697, .tup [.str 232290021, .str 110]]], .tup [.str 209221228, .tup [.str 209221228, .tup [.str 232290021, .str 102], .tup [.str 232290021, .str 102]], .tup [.str 1899245, .tup [.str 232290021, .str 110], .tup [.str 1817325, .int (-1)]]], .tup [.str 1817325, .int 7]]]]], .tup [.str 209221228, .tup [.str 209221228, .tup [.str 232290021, .str 13295], .tup [.str 232290021, .str 13295]], .tup [.str 1817325, a]]]
  | .c true false 0, a, b => .tup [.str 1782516, .str 13295, .tup [.str 13166, .str 102, .tup [.str 13166, .str 110, .tup [.str 13542, .tup [.str 228162035, .tup [.str 1817325, .int 0], .tup [.str 232290021, .str 110]], .tup [.str 1899245, .tup [.str 1817325, .int 2], .tup [.str 209221228, .tup [.str 209221228, .tup [.str 232290021, .str 102], .tup [.str 232290021, .str 102]], .tup [.str 1899245, .tup [.str 232290021, .str 110], .tup [.str 1817325, .int (-1)]]]], .tup [.str 1817325, .int 7]]]], .tup [.str 209221228, .tup [.str 209221228, .tup [.str 232290021, .str 13295], .tup [.str 232290021, .str 13295]], .tup [.str 1817325, a]]]
  | .c true false 1, a, b => .tup [.str 241006181, .str 228162035, .tup [.str 1782516, .str 118, .tup [.str 31650050284], .tup [.str 232290021, .str 118]], .tup [.str 1782516, .str 13295, .tup [.str 13166, .str 102, .tup [.str 13166, .str 110, .tup [.str 13542, .tup [.str 228162035, .tup [.str 1817325, .int 0], .tup [.str 232290021, .str 110]], .tup [.str 1899245, .tup [.str 1817325, .int 2], .tup [.str 209221228, .tup [.str 209221228, .tup [.str 232290021, .str 102], .tup [.str 232290021, .str 102]], .tup [.str 1899245, .tup [.str 232290021, .str 110], .tup [.str 1817325, .int (-1)]]]], .tup [.str 1817325, .int 7]]]], .tup [.str 209221228, .tup [.str 209221228, .tup [.str 232290021, .str 13295], .tup [.str 232290021, .str 13295]], .tup [.str 1817325, a]]]]
  | .c true false 2, a, b => .tup [.str 241006181, .str 1896697, .tup [.str 1782516, .str 118, .tup [.str 1896697, .tup [.str 1817325, .int 5]], .tup [.str 31650050284]], .tup [.str 1782516, .str 13295, .tup [.str 13166, .str 102, .tup [.str 13166, .str 110, .tup [.str 13542, .tup [.str 228162035, .tup [.str 1817325, .int 0], .tup [.str 232290021, .str 110]], .tup [.str 1899245, .tup [.str 1817325, .int 2], .tup [.str 209221228, .tup [.str 209221228, .tup [.str 232290021, .str 102], .tup [.str 232290021, .str 102]], .tup [.str 1899245, .tup [.str 232290021, .str 110], .tup [.str 1817325, .int (-1)]]]], .tup [.str 1817325, .int 7]]]], .tup [.str 209221228, .tup [.str 209221228, .tup [.str 232290021, .str 13295], .tup [.str 232290021, .str 13295]], .tup [.str 1817325, a]]]]
  | .c true false _, a, b => .tup [.str 1782516, .str 13295, .tup [.str 13166, .str 102, .tup [.str 13166, .str 110, .tup [.str 241006181, .str 228162035, .tup [.str 228162035, .tup [.str 236484980, .int 0], .tup [.str 236484980, .int 1]], .tup [.str 13542, .tup [.str 228162035, .tup [.str 1817325, .int 0], .tup [.str 232290021, .str 110]], .tup [.str 1899245, .tup [.str 1817325, .int 2], .tup [.str 209221228, .tup [.str 209221228, .tup [.str 232290021, .str 102], .tup [.str 232290021, .str 102]], .tup [.str 1899245, .tup [.str 232290021, .str 110], .tup [.str 1817325, .int (-1)]]]], .tup [.str 1817325, .int 7]]]]], .tup [.str 209221228, .tup [.str 209221228, .tup [.str 232290021, .str 13295], .tup [.str 232290021, .str 13295]], .tup [.str 1817325, a]]]
  | .c true true 0, a, b => .tup [.str 1782516, .str 13295, .tup [.str 13166, .str 102, .tup [.str 13166, .str 110, .tup [.str 13542, .tup [.str 228162035, .tup [.str 1817325, .int 0], .tup [.str 1896697, .tup [.str 232290021, .str 110]]], .tup [.str 1899245, .tup [.str 1817325, .int 2], .tup [.str 209221228, .tup [.str 209221228, .tup [.str 232290021, .str 102], .tup [.str 232290021, .str 102]], .tup [.str 1899245, .tup [.str 232290021, .str 110], .tup [.str 1817325, .int (-1)]]]], .tup [.str 1817325, .int 7]]]], .tup [.str 209221228, .tup [.str 209221228, .tup [.str 232290021, .str 13295], .tup [.str 232290021, .str 13295]], .tup [.str 1817325, a]]]
  | .c true true 1, a, b => .tup [.str 241006181, .str 228162035, .tup [.str 1782516, .str 118, .tup [.str 31650050284], .tup [.str 232290021, .str 118]], .tup [.str 1782516, .str 13295, .tup [.str 13166, .str 102, .tup [.str 13166, .str 110, .tup [.str 13542, .tup [.str 228162035, .tup [.str 1817325, .int 0], .tup [.str 1896697, .tup [.str 232290021, .str 110]]], .tup [.str 1899245, .tup [.str 1817325, .int 2], .tup [.str 209221228, .tup [.str 209221228, .tup [.str 232290021, .str 102], .tup [.str 232290021, .str 102]], .tup [.str 1899245, .tup [.str 232290021, .str 110], .tup [.str 1817325, .int (-1)]]]], .tup [.str 1817325, .int 7]]]], .tup [.str 209221228, .tup [.str 209221228, .tup [.str 232290021, .str 13295], .tup [.str 232290021, .str 13295]], .tup [.str 1817325, a]]]]
  | .c true true 2, a, b => .tup [.str 241006181, .str 1896697, .tup [.str 1782516, .str 118, .tup [.str 1896697, .tup [.str 1817325, .int 5]], .tup [.str 31650050284]], .tup [.str 1782516, .str 13295, .tup [.str 13166, .str 102, .tup [.str 13166, .str 110, .tup [.str 13542, .tup [.str 228162035, .tup [.str 1817325, .int 0], .tup [.str 1896697, .tup [.str 232290021, .str 110]]], .tup [.str 1899245, .tup [.str 1817325, .int 2], .tup [.str 209221228, .tup [.str 209221228, .tup [.str 232290021, .str 102], .tup [.str 232290021, .str 102]], .tup [.str 1899245, .tup [.str 232290021, .str 110], .tup [.str 1817325, .int (-1)]]]], .tup [.str 1817325, .int 7]]]], .tup [.str 209221228, .tup [.str 209221228, .tup [.str 232290021, .str 13295], .tup [.str 232290021, .str 13295]], .tup [.str 1817325, a]]]]
  | .c true true _, a, b => .tup [.str 1782516, .str 13295, .tup [.str 13166, .str 102, .tup [.str 13166, .str 110, .tup [.str 241006181, .str 228162035, .tup [.str 228162035, .tup [.str 236484980, .int 0], .tup [.str 236484980, .int 1]], .tup [.str 13542, .tup [.str 228162035, .tup [.str 1817325, .int 0], .tup [.str 1896697, .tup [.str 232290021, .str 110]]], .tup [.str 1899245, .tup [.str 1817325, .int 2], .tup [.str 209221228, .tup [.str 209221228, .tup [.str 232290021, .str 102], .tup [.str 232290021, .str 102]], .tup [.str 1899245, .tup [.str 232290021, .str 110], .tup [.str 1817325, .int (-1)]]]], .tup [.str 1817325, .int 7]]]]], .tup [.str 209221228, .tup [.str 209221228, .tup [.str 232290021, .str 13295], .tup [.str 232290021, .str 13295]], .tup [.str 1817325, a]]]
/-! what collapse and compile_plain make of them (the machine's answers, shown right elsewhere) -/
def plainF : Shp → AV → AV → AV
  | .d, a, b => .tup [.str 1782516, .str 15409, .tup [.str 13166, .int 0, .str 15410, .tup [.str 13166, .int 0, .str 15411, .tup [.str 13166, .int 0, .str 15412, .tup [.str 13542, .int 0, .tup [.str 228162035, .int 0, .tup [.str 1817325, .int 0], .tup [.str 232290021, .str 15411]], .tup [.str 209221228, .int 0, .tup [.str 209221228, .int 0, .tup [.str 209221228, .int 0, .tup [.str 232290021, .str 15410], .tup [.str 232290021, .str 15410]], .tup [.str 1899245, .int 0, .tup [.str 232290021, .str 15411], .tup [.str 1817325, .int (-1)]]], .tup [.str 1899245, .int 0, .tup [.str 232290021, .str 15412], .tup [.str 232290021, .str 15412]]], .tup [.str 232290021, .str 15412]]]]], .tup [.str 209221228, .int 0, .tup [.str 209221228, .int 0, .tup [.str 209221228, .int 0, .tup [.str 232290021, .str 15409], .tup [.str 232290021, .str 15409]], .tup [.str 1817325, a]], .tup [.str 1817325, b]]]
  | .c false false 0, a, b => .tup [.str 1782516, .str 15409, .tup [.str 13166, .int 0, .str 15410, .tup [.str 13166, .int 0, .str 15411, .tup [.str 13542, .int 0, .tup [.str 228162035, .int 0, .tup [.str 1817325, .int 0], .tup [.str 232290021, .str 15411]], .tup [.str 209221228, .int 0, .tup [.str 209221228, .int 0, .tup [.str 232290021, .str 15410], .tup [.str 232290021, .str 15410]], .tup [.str 1899245, .int 0, .tup [.str 232290021, .str 15411], .tup [.str 1817325, .int (-1)]]], .tup [.str 1817325, .int 7]]]], .tup [.str 209221228, .int 0, .tup [.str 209221228, .int 0, .tup [.str 232290021, .str 15409], .tup [.str 232290021, .str 15409]], .tup [.str 1817325, a]]]
  | .c false false 1, a, b => .tup [.str 1897204, .int 5, .int 1, .tup [.str 1782516, .str 15409, .tup [.str 13166, .int 0, .str 15410, .tup [.str 13166, .int 0, .str 15411, .tup [.str 13542, .int 0, .tup [.str 27057139961, .str 12852, .tup [.str 228162035, .int 0, .tup [.str 1817325, .int 0], .tup [.str 232290021, .str 15411]], .tup [.str 3983535845864, .int 5, .tup [.tup [.int 1, .tup [.str 1782516, .str 15413, .tup [.str 245002731, .tup [.str 27615080933, .str 12852]], .tup [.str 232290021, .str 15413]]]], .tup [.str 27615080933, .str 12852]]], .tup [.str 209221228, .int 0, .tup [.str 209221228, .int 0, .tup [.str 232290021, .str 15410], .tup [.str 232290021, .str 15410]], .tup [.str 1899245, .int 0, .tup [.str 232290021, .str 15411], .tup [.str 1817325, .int (-1)]]], .tup [.str 1817325, .int 7]]]], .tup [.str 209221228, .int 0, .tup [.str 209221228, .int 0, .tup [.str 232290021, .str 15409], .tup [.str 232290021, .str 15409]], .tup [.str 1817325, a]]]]
  | .c false false 2, a, b => .tup [.str 1897204, .int 8, .int 1, .tup [.str 1782516, .str 15409, .tup [.str 13166, .int 0, .str 15410, .tup [.str 13166, .int 0, .str 15411, .tup [.str 13542, .int 0, .tup [.str 228162035, .int 0, .tup [.str 1817325, .int 0], .tup [.str 232290021, .str 15411]], .tup [.str 209221228, .int 0, .tup [.str 209221228, .int 0, .tup [.str 232290021, .str 15410], .tup [.str 232290021, .str 15410]], .tup [.str 1899245, .int 0, .tup [.str 232290021, .str 15411], .tup [.str 1817325, .int (-1)]]], .tup [.str 1817325, .int 7]]]], .tup [.str 209221228, .int 0, .tup [.str 209221228, .int 0, .tup [.str 232290021, .str 15409], .tup [.str 232290021, .str 15409]], .tup [.str 1817325, a]]]]
  | .c false false _, a, b => .tup [.str 1782516, .str 15409, .tup [.str 13166, .int 0, .str 15410, .tup [.str 13166, .int 0, .str 15411, .tup [.str 1897204, .int 5, .int 1, .tup [.str 13542, .int 0, .tup [.str 27057139961, .str 12852, .tup [.str 228162035, .int 0, .tup [.str 1817325, .int 0], .tup [.str 232290021, .str 15411]], .tup [.str 3983535845864, .int 5, .tup [.tup [.int 1, .tup [.str 228162035, .int 1, .tup [.str 245002731, .tup [.str 1817325, .int 0]], .tup [.str 245002731, .tup [.str 232290021, .str 15411]]]]], .tup [.str 27615080933, .str 12852]]], .tup [.str 209221228, .int 0, .tup [.str 209221228, .int 0, .tup [.str 232290021, .str 15410], .tup [.str 232290021, .str 15410]], .tup [.str 1899245, .int 0, .tup [.str 232290021, .str 15411], .tup [.str 1817325, .int (-1)]]], .tup [.str 1817325, .int 7]]]]], .tup [.str 209221228, .int 0, .tup [.str 209221228, .int 0, .tup [.str 232290021, .str 15409], .tup [.str 232290021, .str 15409]], .tup [.str 1817325, a]]]
  | .c false true 0, a, b => .tup [.str 1782516, .str 15409, .tup [.str 13166, .int 0, .str 15410, .tup [.str 13166, .int 0, .str 15411, .tup [.str 13542, .int 0, .tup [.str 228162035, .int 0, .tup [.str 1817325, .int 0], .tup [.str 1896697, .int 0, .tup [.str 232290021, .str 15411]]], .tup [.str 209221228, .int 0, .tup [.str 209221228, .int 0, .tup [.str 232290021, .str 15410], .tup [.str 232290021, .str 15410]], .tup [.str 1899245, .int 0, .tup [.str 232290021, .str 15411], .tup [.str 1817325, .int (-1)]]], .tup [.str 1817325, .int 7]]]], .tup [.str 209221228, .int 0, .tup [.str 209221228, .int 0, .tup [.str 232290021, .str 15409], .tup [.str 232290021, .str 15409]], .tup [.str 1817325, a]]]
  | .c false true 1, a, b => .tup [.str 1897204, .int 5, .int 1, .tup [.str 1782516, .str 15409, .tup [.str 13166, .int 0, .str 15410, .tup [.str 13166, .int 0, .str 15411, .tup [.str 13542, .int 0, .tup [.str 27057139961, .str 12852, .tup [.str 1896697, .int 0, .tup [.str 232290021, .str 15411]], .tup [.str 27057139961, .str 12853, .tup [.str 228162035, .int 0, .tup [.str 1817325, .int 0], .tup [.str 27615080933, .str 12852]], .tup [.str 3983535845864, .int 5, .tup [.tup [.int 1, .tup [.str 1782516, .str 15414, .tup [.str 245002731, .tup [.str 27615080933, .str 12853]], .tup [.str 232290021, .str 15414]]]], .tup [.str 27615080933, .str 12853]]]], .tup [.str 209221228, .int 0, .tup [.str 209221228, .int 0, .tup [.str 232290021, .str 15410], .tup [.str 232290021, .str 15410]], .tup [.str 1899245, .int 0, .tup [.str 232290021, .str 15411], .tup [.str 1817325, .int (-1)]]], .tup [.str 1817325, .int 7]]]], .tup [.str 209221228, .int 0, .tup [.str 209221228, .int 0, .tup [.str 232290021, .str 15409], .tup [.str 232290021, .str 15409]], .tup [.str 1817325, a]]]]
  | .c false true 2, a, b => .tup [.str 1897204, .int 8, .int 1, .tup [.str 1782516, .str 15409, .tup [.str 13166, .int 0, .str 15410, .tup [.str 13166, .int 0, .str 15411, .tup [.str 13542, .int 0, .tup [.str 228162035, .int 0, .tup [.str 1817325, .int 0], .tup [.str 27057139961, .str 12852, .tup [.str 1896697, .int 0, .tup [.str 232290021, .str 15411]], .tup [.str 3983535845864, .int 8, .tup [.tup [.int 1, .tup [.str 1782516, .str 15413, .tup [.str 1896697, .int 1, .tup [.str 1817325, .int 5]], .tup [.str 245002731, .tup [.str 27615080933, .str 12852]]]]], .tup [.str 27615080933, .str 12852]]]], .tup [.str 209221228, .int 0, .tup [.str 209221228, .int 0, .tup [.str 232290021, .str 15410], .tup [.str 232290021, .str 15410]], .tup [.str 1899245, .int 0, .tup [.str 232290021, .str 15411], .tup [.str 1817325, .int (-1)]]], .tup [.str 1817325, .int 7]]]], .tup [.str 209221228, .int 0, .tup [.str 209221228, .int 0, .tup [.str 232290021, .str 15409], .tup [.str 232290021, .str 15409]], .tup [.str 1817325, a]]]]
  | .c false true _, a, b => .tup [.str 1782516, .str 15409, .tup [.str 13166, .int 0, .str 15410, .tup [.str 13166, .int 0, .str 15411, .tup [.str 1897204, .int 5, .int 1, .tup [.str 13542, .int 0, .tup [.str 27057139961, .str 12852, .tup [.str 1896697, .int 0, .tup [.str 232290021, .str 15411]], .tup [.str 27057139961, .str 12853, .tup [.str 228162035, .int 0, .tup [.str 1817325, .int 0], .tup [.str 27615080933, .str 12852]], .tup [.str 3983535845864, .int 5, .tup [.tup [.int 1, .tup [.str 228162035, .int 1, .tup [.str 245002731, .tup [.str 1817325, .int 0]], .tup [.str 245002731, .tup [.str 27615080933, .str 12852]]]]], .tup [.str 27615080933, .str 12853]]]], .tup [.str 209221228, .int 0, .tup [.str 209221228, .int 0, .tup [.str 232290021, .str 15410], .tup [.str 232290021, .str 15410]], .tup [.str 1899245, .int 0, .tup [.str 232290021, .str 15411], .tup [.str 1817325, .int (-1)]]], .tup [.str 1817325, .int 7]]]]], .tup [.str 209221228, .int 0, .tup [.str 209221228, .int 0, .tup [.str 232290021, .str 15409], .tup [.str 232290021, .str 15409]], .tup [.str 1817325, a]]]
  | .c true false 0, a, b => .tup [.str 1782516, .str 15409, .tup [.str 13166, .int 0, .str 15410, .tup [.str 13166, .int 0, .str 15411, .tup [.str 13542, .int 0, .tup [.str 228162035, .int 0, .tup [.str 1817325, .int 0], .tup [.str 232290021, .str 15411]], .tup [.str 1899245, .int 0, .tup [.str 1817325, .int 2], .tup [.str 209221228, .int 0, .tup [.str 209221228, .int 0, .tup [.str 232290021, .str 15410], .tup [.str 232290021, .str 15410]], .tup [.str 1899245, .int 0, .tup [.str 232290021, .str 15411], .tup [.str 1817325, .int (-1)]]]], .tup [.str 1817325, .int 7]]]], .tup [.str 209221228, .int 0, .tup [.str 209221228, .int 0, .tup [.str 232290021, .str 15409], .tup [.str 232290021, .str 15409]], .tup [.str 1817325, a]]]
  | .c true false 1, a, b => .tup [.str 1897204, .int 5, .int 1, .tup [.str 1782516, .str 15409, .tup [.str 13166, .int 0, .str 15410, .tup [.str 13166, .int 0, .str 15411, .tup [.str 13542, .int 0, .tup [.str 27057139961, .str 12852, .tup [.str 228162035, .int 0, .tup [.str 1817325, .int 0], .tup [.str 232290021, .str 15411]], .tup [.str 3983535845864, .int 5, .tup [.tup [.int 1, .tup [.str 1782516, .str 15413, .tup [.str 245002731, .tup [.str 27615080933, .str 12852]], .tup [.str 232290021, .str 15413]]]], .tup [.str 27615080933, .str 12852]]], .tup [.str 1899245, .int 0, .tup [.str 1817325, .int 2], .tup [.str 209221228, .int 0, .tup [.str 209221228, .int 0, .tup [.str 232290021, .str 15410], .tup [.str 232290021, .str 15410]], .tup [.str 1899245, .int 0, .tup [.str 232290021, .str 15411], .tup [.str 1817325, .int (-1)]]]], .tup [.str 1817325, .int 7]]]], .tup [.str 209221228, .int 0, .tup [.str 209221228, .int 0, .tup [.str 232290021, .str 15409], .tup [.str 232290021, .str 15409]], .tup [.str 1817325, a]]]]
  | .c true false 2, a, b => .tup [.str 1897204, .int 8, .int 1, .tup [.str 1782516, .str 15409, .tup [.str 13166, .int 0, .str 15410, .tup [.str 13166, .int 0, .str 15411, .tup [.str 13542, .int 0, .tup [.str 228162035, .int 0, .tup [.str 1817325, .int 0], .tup [.str 232290021, .str 15411]], .tup [.str 1899245, .int 0, .tup [.str 1817325, .int 2], .tup [.str 209221228, .int 0, .tup [.str 209221228, .int 0, .tup [.str 232290021, .str 15410], .tup [.str 232290021, .str 15410]], .tup [.str 1899245, .int 0, .tup [.str 232290021, .str 15411], .tup [.str 1817325, .int (-1)]]]], .tup [.str 1817325, .int 7]]]], .tup [.str 209221228, .int 0, .tup [.str 209221228, .int 0, .tup [.str 232290021, .str 15409], .tup [.str 232290021, .str 15409]], .tup [.str 1817325, a]]]]
  | .c true false _, a, b => .tup [.str 1782516, .str 15409, .tup [.str 13166, .int 0, .str 15410, .tup [.str 13166, .int 0, .str 15411, .tup [.str 1897204, .int 5, .int 1, .tup [.str 13542, .int 0, .tup [.str 27057139961, .str 12852, .tup [.str 228162035, .int 0, .tup [.str 1817325, .int 0], .tup [.str 232290021, .str 15411]], .tup [.str 3983535845864, .int 5, .tup [.tup [.int 1, .tup [.str 228162035, .int 1, .tup [.str 245002731, .tup [.str 1817325, .int 0]], .tup [.str 245002731, .tup [.str 232290021, .str 15411]]]]], .tup [.str 27615080933, .str 12852]]], .tup [.str 1899245, .int 0, .tup [.str 1817325, .int 2], .tup [.str 209221228, .int 0, .tup [.str 209221228, .int 0, .tup [.str 232290021, .str 15410], .tup [.str 232290021, .str 15410]], .tup [.str 1899245, .int 0, .tup [.str 232290021, .str 15411], .tup [.str 1817325, .int (-1)]]]], .tup [.str 1817325, .int 7]]]]], .tup [.str 209221228, .int 0, .tup [.str 209221228, .int 0, .tup [.str 232290021, .str 15409], .tup [.str 232290021, .str 15409]], .tup [.str 1817325, a]]]
  | .c true true 0, a, b => .tup [.str 1782516, .str 15409, .tup [.str 13166, .int 0, .str 15410, .tup [.str 13166, .int 0, .str 15411, .tup [.str 13542, .int 0, .tup [.str 228162035, .int 0, .tup [.str 1817325, .int 0], .tup [.str 1896697, .int 0, .tup [.str 232290021, .str 15411]]], .tup [.str 1899245, .int 0, .tup [.str 1817325, .int 2], .tup [.str 209221228, .int 0, .tup [.str 209221228, .int 0, .tup [.str 232290021, .str 15410], .tup [.str 232290021, .str 15410]], .tup [.str 1899245, .int 0, .tup [.str 232290021, .str 15411], .tup [.str 1817325, .int (-1)]]]], .tup [.str 1817325, .int 7]]]], .tup [.str 209221228, .int 0, .tup [.str 209221228, .int 0, .tup [.str 232290021, .str 15409], .tup [.str 232290021, .str 15409]], .tup [.str 1817325, a]]]
  | .c true true 1, a, b => .tup [.str 1897204, .int 5, .int 1, .tup [.str 1782516, .str 15409, .tup [.str 13166, .int 0, .str 15410, .tup [.str 13166, .int 0, .str 15411, .tup [.str 13542, .int 0, .tup [.str 27057139961, .str 12852, .tup [.str 1896697, .int 0, .tup [.str 232290021, .str 15411]], .tup [.str 27057139961, .str 12853, .tup [.str 228162035, .int 0, .tup [.str 1817325, .int 0], .tup [.str 27615080933, .str 12852]], .tup [.str 3983535845864, .int 5, .tup [.tup [.int 1, .tup [.str 1782516, .str 15414, .tup [.str 245002731, .tup [.str 27615080933, .str 12853]], .tup [.str 232290021, .str 15414]]]], .tup [.str 27615080933, .str 12853]]]], .tup [.str 1899245, .int 0, .tup [.str 1817325, .int 2], .tup [.str 209221228, .int 0, .tup [.str 209221228, .int 0, .tup [.str 232290021, .str 15410], .tup [.str 232290021, .str 15410]], .tup [.str 1899245, .int 0, .tup [.str 232290021, .str 15411], .tup [.str 1817325, .int (-1)]]]], .tup [.str 1817325, .int 7]]]], .tup [.str 209221228, .int 0, .tup [.str 209221228, .int 0, .tup [.str 232290021, .str 15409], .tup [.str 232290021, .str 15409]], .tup [.str 1817325, a]]]]
  | .c true true 2, a, b => .tup [.str 1897204, .int 8, .int 1, .tup [.str 1782516, .str 15409, .tup [.str 13166, .int 0, .str 15410, .tup [.str 13166, .int 0, .str 15411, .tup [.str 13542, .int 0, .tup [.str 228162035, .int 0, .tup [.str 1817325, .int 0], .tup [.str 27057139961, .str 12852, .tup [.str 1896697, .int 0, .tup [.str 232290021, .str 15411]], .tup [.str 3983535845864, .int 8, .tup [.tup [.int 1, .tup [.str 1782516, .str 15413, .tup [.str 1896697, .int 1, .tup [.str 1817325, .int 5]], .tup [.str 245002731, .tup [.str 27615080933, .str 12852]]]]], .tup [.str 27615080933, .str 12852]]]], .tup [.str 1899245, .int 0, .tup [.str 1817325, .int 2], .tup [.str 209221228, .int 0, .tup [.str 209221228, .int 0, .tup [.str 232290021, .str 15410], .tup [.str 232290021, .str 15410]], .tup [.str 1899245, .int 0, .tup [.str 232290021, .str 15411], .tup [.str 1817325, .int (-1)]]]], .tup [.str 1817325, .int 7]]]], .tup [.str 209221228, .int 0, .tup [.str 209221228, .int 0, .tup [.str 232290021, .str 15409], .tup [.str 232290021, .str 15409]], .tup [.str 1817325, a]]]]
  | .c true true _, a, b => .tup [.str 1782516, .str 15409, .tup [.str 13166, .int 0, .str 15410, .tup [.str 13166, .int 0, .str 15411, .tup [.str 1897204, .int 5, .int 1, .tup [.str 13542, .int 0, .tup [.str 27057139961, .str 12852, .tup [.str 1896697, .int 0, .tup [.str 232290021, .str 15411]], .tup [.str 27057139961, .str 12853, .tup [.str 228162035, .int 0, .tup [.str 1817325, .int 0], .tup [.str 27615080933, .str 12852]], .tup [.str 3983535845864, .int 5, .tup [.tup [.int 1, .tup [.str 228162035, .int 1, .tup [.str 245002731, .tup [.str 1817325, .int 0]], .tup [.str 245002731, .tup [.str 27615080933, .str 12852]]]]], .tup [.str 27615080933, .str 12853]]]], .tup [.str 1899245, .int 0, .tup [.str 1817325, .int 2], .tup [.str 209221228, .int 0, .tup [.str 209221228, .int 0, .tup [.str 232290021, .str 15410], .tup [.str 232290021, .str 15410]], .tup [.str 1899245, .int 0, .tup [.str 232290021, .str 15411], .tup [.str 1817325, .int (-1)]]]], .tup [.str 1817325, .int 7]]]]], .tup [.str 209221228, .int 0, .tup [.str 209221228, .int 0, .tup [.str 232290021, .str 15409], .tup [.str 232290021, .str 15409]], .tup [.str 1817325, a]]]
def codeF : Shp → AV → AV → AV
  | .d, a, b => .tup [.tup [.int 1, .tup [.tup [.str 26803436005, .int 1, .int 0, .tup []], .tup [.str 31115180389, .int 0], .tup [.str 228323556, .int 0], .tup [.str 228323556, .int 0], .tup [.str 209221228, .int 0], .tup [.str 1734516, a], .tup [.str 209221228, .int 0], .tup [.str 1734516, b], .tup [.str 209221228, .int 0], .tup [.str 3944367356270]]], .tup [.int 1, .tup [.tup [.str 26803436005, .int 2, .int 0, .tup [.int 0]], .tup [.str 3944367356270]]], .tup [.int 2, .tup [.tup [.str 26803436005, .int 3, .int 0, .tup [.int 0, .int 1]], .tup [.str 3944367356270]]], .tup [.int 3, .tup [.tup [.str 1734516, .int 0], .tup [.str 228323556, .int 1], .tup [.str 228162035, .int 0], .tup [.str 244939252, .int 0, .int 16], .tup [.str 228323556, .int 0], .tup [.str 228323556, .int 0], .tup [.str 209221228, .int 0], .tup [.str 228323556, .int 1], .tup [.str 1734516, .int (-1)], .tup [.str 1899245, .int 0], .tup [.str 209221228, .int 0], .tup [.str 228323556, .int 2], .tup [.str 228323556, .int 2], .tup [.str 1899245, .int 0], .tup [.str 209221228, .int 0], .tup [.str 224229104, .int 17], .tup [.str 228323556, .int 2], .tup [.str 3944367356270]]]]
  | .c false false 0, a, b => .tup [.tup [.int 1, .tup [.tup [.str 26803436005, .int 1, .int 0, .tup []], .tup [.str 31115180389, .int 0], .tup [.str 228323556, .int 0], .tup [.str 228323556, .int 0], .tup [.str 209221228, .int 0], .tup [.str 1734516, a], .tup [.str 209221228, .int 0], .tup [.str 3944367356270]]], .tup [.int 1, .tup [.tup [.str 26803436005, .int 2, .int 0, .tup [.int 0]], .tup [.str 3944367356270]]], .tup [.int 2, .tup [.tup [.str 1734516, .int 0], .tup [.str 228323556, .int 1], .tup [.str 228162035, .int 0], .tup [.str 244939252, .int 0, .int 12], .tup [.str 228323556, .int 0], .tup [.str 228323556, .int 0], .tup [.str 209221228, .int 0], .tup [.str 228323556, .int 1], .tup [.str 1734516, .int (-1)], .tup [.str 1899245, .int 0], .tup [.str 209221228, .int 0], .tup [.str 224229104, .int 13], .tup [.str 1734516, .int 7], .tup [.str 3944367356270]]]]
  | .c false false 1, a, b => .tup [.tup [.int 1, .tup [.tup [.str 27344581362, .int 5, .int 1], .tup [.str 26803436005, .int 1, .int 0, .tup []], .tup [.str 31115180389, .int 0], .tup [.str 228323556, .int 0], .tup [.str 228323556, .int 0], .tup [.str 209221228, .int 0], .tup [.str 1734516, a], .tup [.str 209221228, .int 0], .tup [.str 29204446053, .int 5], .tup [.str 3944367356270]]], .tup [.int 1, .tup [.tup [.str 26803436005, .int 2, .int 0, .tup [.int 0]], .tup [.str 3944367356270]]], .tup [.int 4, .tup [.tup [.str 31358547819, .int 3, .tup [.int 1]], .tup [.str 31115180389, .int 2], .tup [.str 3983535845864, .int 5, .tup [.tup [.int 1, .int 3]], .int 8], .tup [.str 245002731], .tup [.str 27615080933, .int 2], .tup [.str 31115180389, .int 3], .tup [.str 228323556, .int 3], .tup [.str 224229104, .int 10], .tup [.str 27615080933, .int 2], .tup [.str 224229104, .int 10], .tup [.str 244939252, .int 0, .int 19], .tup [.str 228323556, .int 0], .tup [.str 228323556, .int 0], .tup [.str 209221228, .int 0], .tup [.str 228323556, .int 1], .tup [.str 1734516, .int (-1)], .tup [.str 1899245, .int 0], .tup [.str 209221228, .int 0], .tup [.str 224229104, .int 20], .tup [.str 1734516, .int 7], .tup [.str 3944367356270]]], .tup [.int 1, .tup [.tup [.str 1734516, .int 0], .tup [.str 228323556, .int 0], .tup [.str 228162035, .int 0], .tup [.str 3944367356270]]]]
  | .c false false 2, a, b => .tup [.tup [.int 1, .tup [.tup [.str 27344581362, .int 8, .int 1], .tup [.str 26803436005, .int 1, .int 0, .tup []], .tup [.str 31115180389, .int 0], .tup [.str 228323556, .int 0], .tup [.str 228323556, .int 0], .tup [.str 209221228, .int 0], .tup [.str 1734516, a], .tup [.str 209221228, .int 0], .tup [.str 29204446053, .int 8], .tup [.str 3944367356270]]], .tup [.int 1, .tup [.tup [.str 26803436005, .int 2, .int 0, .tup [.int 0]], .tup [.str 3944367356270]]], .tup [.int 2, .tup [.tup [.str 1734516, .int 0], .tup [.str 228323556, .int 1], .tup [.str 228162035, .int 0], .tup [.str 244939252, .int 0, .int 12], .tup [.str 228323556, .int 0], .tup [.str 228323556, .int 0], .tup [.str 209221228, .int 0], .tup [.str 228323556, .int 1], .tup [.str 1734516, .int (-1)], .tup [.str 1899245, .int 0], .tup [.str 209221228, .int 0], .tup [.str 224229104, .int 13], .tup [.str 1734516, .int 7], .tup [.str 3944367356270]]]]
  | .c false false _, a, b => .tup [.tup [.int 1, .tup [.tup [.str 26803436005, .int 1, .int 0, .tup []], .tup [.str 31115180389, .int 0], .tup [.str 228323556, .int 0], .tup [.str 228323556, .int 0], .tup [.str 209221228, .int 0], .tup [.str 1734516, a], .tup [.str 209221228, .int 0], .tup [.str 3944367356270]]], .tup [.int 1, .tup [.tup [.str 26803436005, .int 2, .int 0, .tup [.int 0]], .tup [.str 3944367356270]]], .tup [.int 3, .tup [.tup [.str 27344581362, .int 5, .int 1], .tup [.str 31358547819, .int 3, .tup [.int 1]], .tup [.str 31115180389, .int 2], .tup [.str 3983535845864, .int 5, .tup [.tup [.int 1, .int 4]], .int 10], .tup [.str 245002731], .tup [.str 1734516, .int 0], .tup [.str 245002731], .tup [.str 228323556, .int 1], .tup [.str 228162035, .int 1], .tup [.str 224229104, .int 12], .tup [.str 27615080933, .int 2], .tup [.str 224229104, .int 12], .tup [.str 244939252, .int 0, .int 21], .tup [.str 228323556, .int 0], .tup [.str 228323556, .int 0], .tup [.str 209221228, .int 0], .tup [.str 228323556, .int 1], .tup [.str 1734516, .int (-1)], .tup [.str 1899245, .int 0], .tup [.str 209221228, .int 0], .tup [.str 224229104, .int 22], .tup [.str 1734516, .int 7], .tup [.str 29204446053, .int 5], .tup [.str 3944367356270]]], .tup [.int 1, .tup [.tup [.str 1734516, .int 0], .tup [.str 228323556, .int 0], .tup [.str 228162035, .int 0], .tup [.str 3944367356270]]]]
  | .c false true 0, a, b => .tup [.tup [.int 1, .tup [.tup [.str 26803436005, .int 1, .int 0, .tup []], .tup [.str 31115180389, .int 0], .tup [.str 228323556, .int 0], .tup [.str 228323556, .int 0], .tup [.str 209221228, .int 0], .tup [.str 1734516, a], .tup [.str 209221228, .int 0], .tup [.str 3944367356270]]], .tup [.int 1, .tup [.tup [.str 26803436005, .int 2, .int 0, .tup [.int 0]], .tup [.str 3944367356270]]], .tup [.int 2, .tup [.tup [.str 1734516, .int 0], .tup [.str 228323556, .int 1], .tup [.str 1896697, .int 0], .tup [.str 228162035, .int 0], .tup [.str 244939252, .int 0, .int 13], .tup [.str 228323556, .int 0], .tup [.str 228323556, .int 0], .tup [.str 209221228, .int 0], .tup [.str 228323556, .int 1], .tup [.str 1734516, .int (-1)], .tup [.str 1899245, .int 0], .tup [.str 209221228, .int 0], .tup [.str 224229104, .int 14], .tup [.str 1734516, .int 7], .tup [.str 3944367356270]]]]
  | .c false true 1, a, b => .tup [.tup [.int 1, .tup [.tup [.str 27344581362, .int 5, .int 1], .tup [.str 26803436005, .int 1, .int 0, .tup []], .tup [.str 31115180389, .int 0], .tup [.str 228323556, .int 0], .tup [.str 228323556, .int 0], .tup [.str 209221228, .int 0], .tup [.str 1734516, a], .tup [.str 209221228, .int 0], .tup [.str 29204446053, .int 5], .tup [.str 3944367356270]]], .tup [.int 1, .tup [.tup [.str 26803436005, .int 2, .int 0, .tup [.int 0]], .tup [.str 3944367356270]]], .tup [.int 5, .tup [.tup [.str 31358547819, .int 3, .tup [.int 1]], .tup [.str 31115180389, .int 2], .tup [.str 31358547819, .int 4, .tup [.int 2]], .tup [.str 31115180389, .int 3], .tup [.str 3983535845864, .int 5, .tup [.tup [.int 1, .int 5]], .int 10], .tup [.str 245002731], .tup [.str 27615080933, .int 3], .tup [.str 31115180389, .int 4], .tup [.str 228323556, .int 4], .tup [.str 224229104, .int 12], .tup [.str 27615080933, .int 3], .tup [.str 224229104, .int 12], .tup [.str 244939252, .int 0, .int 21], .tup [.str 228323556, .int 0], .tup [.str 228323556, .int 0], .tup [.str 209221228, .int 0], .tup [.str 228323556, .int 1], .tup [.str 1734516, .int (-1)], .tup [.str 1899245, .int 0], .tup [.str 209221228, .int 0], .tup [.str 224229104, .int 22], .tup [.str 1734516, .int 7], .tup [.str 3944367356270]]], .tup [.int 1, .tup [.tup [.str 228323556, .int 0], .tup [.str 1896697, .int 0], .tup [.str 3944367356270]]], .tup [.int 1, .tup [.tup [.str 1734516, .int 0], .tup [.str 27615080933, .int 0], .tup [.str 228162035, .int 0], .tup [.str 3944367356270]]]]
  | .c false true 2, a, b => .tup [.tup [.int 1, .tup [.tup [.str 27344581362, .int 8, .int 1], .tup [.str 26803436005, .int 1, .int 0, .tup []], .tup [.str 31115180389, .int 0], .tup [.str 228323556, .int 0], .tup [.str 228323556, .int 0], .tup [.str 209221228, .int 0], .tup [.str 1734516, a], .tup [.str 209221228, .int 0], .tup [.str 29204446053, .int 8], .tup [.str 3944367356270]]], .tup [.int 1, .tup [.tup [.str 26803436005, .int 2, .int 0, .tup [.int 0]], .tup [.str 3944367356270]]], .tup [.int 4, .tup [.tup [.str 1734516, .int 0], .tup [.str 31358547819, .int 3, .tup [.int 1]], .tup [.str 31115180389, .int 2], .tup [.str 3983535845864, .int 8, .tup [.tup [.int 1, .int 4]], .int 10], .tup [.str 1734516, .int 5], .tup [.str 1896697, .int 1], .tup [.str 31115180389, .int 3], .tup [.str 245002731], .tup [.str 27615080933, .int 2], .tup [.str 224229104, .int 12], .tup [.str 27615080933, .int 2], .tup [.str 224229104, .int 12], .tup [.str 228162035, .int 0], .tup [.str 244939252, .int 0, .int 22], .tup [.str 228323556, .int 0], .tup [.str 228323556, .int 0], .tup [.str 209221228, .int 0], .tup [.str 228323556, .int 1], .tup [.str 1734516, .int (-1)], .tup [.str 1899245, .int 0], .tup [.str 209221228, .int 0], .tup [.str 224229104, .int 23], .tup [.str 1734516, .int 7], .tup [.str 3944367356270]]], .tup [.int 1, .tup [.tup [.str 228323556, .int 0], .tup [.str 1896697, .int 0], .tup [.str 3944367356270]]]]
  | .c false true _, a, b => .tup [.tup [.int 1, .tup [.tup [.str 26803436005, .int 1, .int 0, .tup []], .tup [.str 31115180389, .int 0], .tup [.str 228323556, .int 0], .tup [.str 228323556, .int 0], .tup [.str 209221228, .int 0], .tup [.str 1734516, a], .tup [.str 209221228, .int 0], .tup [.str 3944367356270]]], .tup [.int 1, .tup [.tup [.str 26803436005, .int 2, .int 0, .tup [.int 0]], .tup [.str 3944367356270]]], .tup [.int 4, .tup [.tup [.str 27344581362, .int 5, .int 1], .tup [.str 31358547819, .int 3, .tup [.int 1]], .tup [.str 31115180389, .int 2], .tup [.str 31358547819, .int 4, .tup [.int 2]], .tup [.str 31115180389, .int 3], .tup [.str 3983535845864, .int 5, .tup [.tup [.int 1, .int 6]], .int 12], .tup [.str 245002731], .tup [.str 1734516, .int 0], .tup [.str 245002731], .tup [.str 27615080933, .int 2], .tup [.str 228162035, .int 1], .tup [.str 224229104, .int 14], .tup [.str 27615080933, .int 3], .tup [.str 224229104, .int 14], .tup [.str 244939252, .int 0, .int 23], .tup [.str 228323556, .int 0], .tup [.str 228323556, .int 0], .tup [.str 209221228, .int 0], .tup [.str 228323556, .int 1], .tup [.str 1734516, .int (-1)], .tup [.str 1899245, .int 0], .tup [.str 209221228, .int 0], .tup [.str 224229104, .int 24], .tup [.str 1734516, .int 7], .tup [.str 29204446053, .int 5], .tup [.str 3944367356270]]], .tup [.int 1, .tup [.tup [.str 228323556, .int 0], .tup [.str 1896697, .int 0], .tup [.str 3944367356270]]], .tup [.int 1, .tup [.tup [.str 1734516, .int 0], .tup [.str 27615080933, .int 0], .tup [.str 228162035, .int 0], .tup [.str 3944367356270]]]]
  | .c true false 0, a, b => .tup [.tup [.int 1, .tup [.tup [.str 26803436005, .int 1, .int 0, .tup []], .tup [.str 31115180389, .int 0], .tup [.str 228323556, .int 0], .tup [.str 228323556, .int 0], .tup [.str 209221228, .int 0], .tup [.str 1734516, a], .tup [.str 209221228, .int 0], .tup [.str 3944367356270]]], .tup [.int 1, .tup [.tup [.str 26803436005, .int 2, .int 0, .tup [.int 0]], .tup [.str 3944367356270]]], .tup [.int 2, .tup [.tup [.str 1734516, .int 0], .tup [.str 228323556, .int 1], .tup [.str 228162035, .int 0], .tup [.str 244939252, .int 0, .int 14], .tup [.str 1734516, .int 2], .tup [.str 228323556, .int 0], .tup [.str 228323556, .int 0], .tup [.str 209221228, .int 0], .tup [.str 228323556, .int 1], .tup [.str 1734516, .int (-1)], .tup [.str 1899245, .int 0], .tup [.str 209221228, .int 0], .tup [.str 1899245, .int 0], .tup [.str 224229104, .int 15], .tup [.str 1734516, .int 7], .tup [.str 3944367356270]]]]
  | .c true false 1, a, b => .tup [.tup [.int 1, .tup [.tup [.str 27344581362, .int 5, .int 1], .tup [.str 26803436005, .int 1, .int 0, .tup []], .tup [.str 31115180389, .int 0], .tup [.str 228323556, .int 0], .tup [.str 228323556, .int 0], .tup [.str 209221228, .int 0], .tup [.str 1734516, a], .tup [.str 209221228, .int 0], .tup [.str 29204446053, .int 5], .tup [.str 3944367356270]]], .tup [.int 1, .tup [.tup [.str 26803436005, .int 2, .int 0, .tup [.int 0]], .tup [.str 3944367356270]]], .tup [.int 4, .tup [.tup [.str 31358547819, .int 3, .tup [.int 1]], .tup [.str 31115180389, .int 2], .tup [.str 3983535845864, .int 5, .tup [.tup [.int 1, .int 3]], .int 8], .tup [.str 245002731], .tup [.str 27615080933, .int 2], .tup [.str 31115180389, .int 3], .tup [.str 228323556, .int 3], .tup [.str 224229104, .int 10], .tup [.str 27615080933, .int 2], .tup [.str 224229104, .int 10], .tup [.str 244939252, .int 0, .int 21], .tup [.str 1734516, .int 2], .tup [.str 228323556, .int 0], .tup [.str 228323556, .int 0], .tup [.str 209221228, .int 0], .tup [.str 228323556, .int 1], .tup [.str 1734516, .int (-1)], .tup [.str 1899245, .int 0], .tup [.str 209221228, .int 0], .tup [.str 1899245, .int 0], .tup [.str 224229104, .int 22], .tup [.str 1734516, .int 7], .tup [.str 3944367356270]]], .tup [.int 1, .tup [.tup [.str 1734516, .int 0], .tup [.str 228323556, .int 0], .tup [.str 228162035, .int 0], .tup [.str 3944367356270]]]]
  | .c true false 2, a, b => .tup [.tup [.int 1, .tup [.tup [.str 27344581362, .int 8, .int 1], .tup [.str 26803436005, .int 1, .int 0, .tup []], .tup [.str 31115180389, .int 0], .tup [.str 228323556, .int 0], .tup [.str 228323556, .int 0], .tup [.str 209221228, .int 0], .tup [.str 1734516, a], .tup [.str 209221228, .int 0], .tup [.str 29204446053, .int 8], .tup [.str 3944367356270]]], .tup [.int 1, .tup [.tup [.str 26803436005, .int 2, .int 0, .tup [.int 0]], .tup [.str 3944367356270]]], .tup [.int 2, .tup [.tup [.str 1734516, .int 0], .tup [.str 228323556, .int 1], .tup [.str 228162035, .int 0], .tup [.str 244939252, .int 0, .int 14], .tup [.str 1734516, .int 2], .tup [.str 228323556, .int 0], .tup [.str 228323556, .int 0], .tup [.str 209221228, .int 0], .tup [.str 228323556, .int 1], .tup [.str 1734516, .int (-1)], .tup [.str 1899245, .int 0], .tup [.str 209221228, .int 0], .tup [.str 1899245, .int 0], .tup [.str 224229104, .int 15], .tup [.str 1734516, .int 7], .tup [.str 3944367356270]]]]
  | .c true false _, a, b => .tup [.tup [.int 1, .tup [.tup [.str 26803436005, .int 1, .int 0, .tup []], .tup [.str 31115180389, .int 0], .tup [.str 228323556, .int 0], .tup [.str 228323556, .int 0], .tup [.str 209221228, .int 0], .tup [.str 1734516, a], .tup [.str 209221228, .int 0], .tup [.str 3944367356270]]], .tup [.int 1, .tup [.tup [.str 26803436005, .int 2, .int 0, .tup [.int 0]], .tup [.str 3944367356270]]], .tup [.int 3, .tup [.tup [.str 27344581362, .int 5, .int 1], .tup [.str 31358547819, .int 3, .tup [.int 1]], .tup [.str 31115180389, .int 2], .tup [.str 3983535845864, .int 5, .tup [.tup [.int 1, .int 4]], .int 10], .tup [.str 245002731], .tup [.str 1734516, .int 0], .tup [.str 245002731], .tup [.str 228323556, .int 1], .tup [.str 228162035, .int 1], .tup [.str 224229104, .int 12], .tup [.str 27615080933, .int 2], .tup [.str 224229104, .int 12], .tup [.str 244939252, .int 0, .int 23], .tup [.str 1734516, .int 2], .tup [.str 228323556, .int 0], .tup [.str 228323556, .int 0], .tup [.str 209221228, .int 0], .tup [.str 228323556, .int 1], .tup [.str 1734516, .int (-1)], .tup [.str 1899245, .int 0], .tup [.str 209221228, .int 0], .tup [.str 1899245, .int 0], .tup [.str 224229104, .int 24], .tup [.str 1734516, .int 7], .tup [.str 29204446053, .int 5], .tup [.str 3944367356270]]], .tup [.int 1, .tup [.tup [.str 1734516, .int 0], .tup [.str 228323556, .int 0], .tup [.str 228162035, .int 0], .tup [.str 3944367356270]]]]
  | .c true true 0, a, b => .tup [.tup [.int 1, .tup [.tup [.str 26803436005, .int 1, .int 0, .tup []], .tup [.str 31115180389, .int 0], .tup [.str 228323556, .int 0], .tup [.str 228323556, .int 0], .tup [.str 209221228, .int 0], .tup [.str 1734516, a], .tup [.str 209221228, .int 0], .tup [.str 3944367356270]]], .tup [.int 1, .tup [.tup [.str 26803436005, .int 2, .int 0, .tup [.int 0]], .tup [.str 3944367356270]]], .tup [.int 2, .tup [.tup [.str 1734516, .int 0], .tup [.str 228323556, .int 1], .tup [.str 1896697, .int 0], .tup [.str 228162035, .int 0], .tup [.str 244939252, .int 0, .int 15], .tup [.str 1734516, .int 2], .tup [.str 228323556, .int 0], .tup [.str 228323556, .int 0], .tup [.str 209221228, .int 0], .tup [.str 228323556, .int 1], .tup [.str 1734516, .int (-1)], .tup [.str 1899245, .int 0], .tup [.str 209221228, .int 0], .tup [.str 1899245, .int 0], .tup [.str 224229104, .int 16], .tup [.str 1734516, .int 7], .tup [.str 3944367356270]]]]
  | .c true true 1, a, b => .tup [.tup [.int 1, .tup [.tup [.str 27344581362, .int 5, .int 1], .tup [.str 26803436005, .int 1, .int 0, .tup []], .tup [.str 31115180389, .int 0], .tup [.str 228323556, .int 0], .tup [.str 228323556, .int 0], .tup [.str 209221228, .int 0], .tup [.str 1734516, a], .tup [.str 209221228, .int 0], .tup [.str 29204446053, .int 5], .tup [.str 3944367356270]]], .tup [.int 1, .tup [.tup [.str 26803436005, .int 2, .int 0, .tup [.int 0]], .tup [.str 3944367356270]]], .tup [.int 5, .tup [.tup [.str 31358547819, .int 3, .tup [.int 1]], .tup [.str 31115180389, .int 2], .tup [.str 31358547819, .int 4, .tup [.int 2]], .tup [.str 31115180389, .int 3], .tup [.str 3983535845864, .int 5, .tup [.tup [.int 1, .int 5]], .int 10], .tup [.str 245002731], .tup [.str 27615080933, .int 3], .tup [.str 31115180389, .int 4], .tup [.str 228323556, .int 4], .tup [.str 224229104, .int 12], .tup [.str 27615080933, .int 3], .tup [.str 224229104, .int 12], .tup [.str 244939252, .int 0, .int 23], .tup [.str 1734516, .int 2], .tup [.str 228323556, .int 0], .tup [.str 228323556, .int 0], .tup [.str 209221228, .int 0], .tup [.str 228323556, .int 1], .tup [.str 1734516, .int (-1)], .tup [.str 1899245, .int 0], .tup [.str 209221228, .int 0], .tup [.str 1899245, .int 0], .tup [.str 224229104, .int 24], .tup [.str 1734516, .int 7], .tup [.str 3944367356270]]], .tup [.int 1, .tup [.tup [.str 228323556, .int 0], .tup [.str 1896697, .int 0], .tup [.str 3944367356270]]], .tup [.int 1, .tup [.tup [.str 1734516, .int 0], .tup [.str 27615080933, .int 0], .tup [.str 228162035, .int 0], .tup [.str 3944367356270]]]]
  | .c true true 2, a, b => .tup [.tup [.int 1, .tup [.tup [.str 27344581362, .int 8, .int 1], .tup [.str 26803436005, .int 1, .int 0, .tup []], .tup [.str 31115180389, .int 0], .tup [.str 228323556, .int 0], .tup [.str 228323556, .int 0], .tup [.str 209221228, .int 0], .tup [.str 1734516, a], .tup [.str 209221228, .int 0], .tup [.str 29204446053, .int 8], .tup [.str 3944367356270]]], .tup [.int 1, .tup [.tup [.str 26803436005, .int 2, .int 0, .tup [.int 0]], .tup [.str 3944367356270]]], .tup [.int 4, .tup [.tup [.str 1734516, .int 0], .tup [.str 31358547819, .int 3, .tup [.int 1]], .tup [.str 31115180389, .int 2], .tup [.str 3983535845864, .int 8, .tup [.tup [.int 1, .int 4]], .int 10], .tup [.str 1734516, .int 5], .tup [.str 1896697, .int 1], .tup [.str 31115180389, .int 3], .tup [.str 245002731], .tup [.str 27615080933, .int 2], .tup [.str 224229104, .int 12], .tup [.str 27615080933, .int 2], .tup [.str 224229104, .int 12], .tup [.str 228162035, .int 0], .tup [.str 244939252, .int 0, .int 24], .tup [.str 1734516, .int 2], .tup [.str 228323556, .int 0], .tup [.str 228323556, .int 0], .tup [.str 209221228, .int 0], .tup [.str 228323556, .int 1], .tup [.str 1734516, .int (-1)], .tup [.str 1899245, .int 0], .tup [.str 209221228, .int 0], .tup [.str 1899245, .int 0], .tup [.str 224229104, .int 25], .tup [.str 1734516, .int 7], .tup [.str 3944367356270]]], .tup [.int 1, .tup [.tup [.str 228323556, .int 0], .tup [.str 1896697, .int 0], .tup [.str 3944367356270]]]]
  | .c true true _, a, b => .tup [.tup [.int 1, .tup [.tup [.str 26803436005, .int 1, .int 0, .tup []], .tup [.str 31115180389, .int 0], .tup [.str 228323556, .int 0], .tup [.str 228323556, .int 0], .tup [.str 209221228, .int 0], .tup [.str 1734516, a], .tup [.str 209221228, .int 0], .tup [.str 3944367356270]]], .tup [.int 1, .tup [.tup [.str 26803436005, .int 2, .int 0, .tup [.int 0]], .tup [.str 3944367356270]]], .tup [.int 4, .tup [.tup [.str 27344581362, .int 5, .int 1], .tup [.str 31358547819, .int 3, .tup [.int 1]], .tup [.str 31115180389, .int 2], .tup [.str 31358547819, .int 4, .tup [.int 2]], .tup [.str 31115180389, .int 3], .tup [.str 3983535845864, .int 5, .tup [.tup [.int 1, .int 6]], .int 12], .tup [.str 245002731], .tup [.str 1734516, .int 0], .tup [.str 245002731], .tup [.str 27615080933, .int 2], .tup [.str 228162035, .int 1], .tup [.str 224229104, .int 14], .tup [.str 27615080933, .int 3], .tup [.str 224229104, .int 14], .tup [.str 244939252, .int 0, .int 25], .tup [.str 1734516, .int 2], .tup [.str 228323556, .int 0], .tup [.str 228323556, .int 0], .tup [.str 209221228, .int 0], .tup [.str 228323556, .int 1], .tup [.str 1734516, .int (-1)], .tup [.str 1899245, .int 0], .tup [.str 209221228, .int 0], .tup [.str 1899245, .int 0], .tup [.str 224229104, .int 26], .tup [.str 1734516, .int 7], .tup [.str 29204446053, .int 5], .tup [.str 3944367356270]]], .tup [.int 1, .tup [.tup [.str 228323556, .int 0], .tup [.str 1896697, .int 0], .tup [.str 3944367356270]]], .tup [.int 1, .tup [.tup [.str 1734516, .int 0], .tup [.str 27615080933, .int 0], .tup [.str 228162035, .int 0], .tup [.str 3944367356270]]]]
end Zg
set_option Elab.async false
set_option maxRecDepth 100000
set_option maxHeartbeats 4000000
set_option linter.all false
/-! ZSim: the closed data of the turns: the states of the three interpreters. -/
namespace Zg
/-- an interpreter: class, __init__, loop, slots, the fields of fuel, of the waiting, of the outputs, of the end, those that are dead behind a turn, its list of values -/
structure Ipr where
  cls : Nat
  ini : MF
  L : Lp
  ns : Nat
  fu : Nat
  wa : Nat
  ou : Nat
  en : Nat
  dead : List Nat
  vals : Option Nat
def iTow : Ipr := ⟨11, m_Tower_init, ⟨true, mB (mOp oIsN (mFld (mVar 0) 11 7) (mC .non)), mSet 1 (mMeth 11 m_Tower_begin (mVar 0) mNil), mAnd (mB (mOp oNotN (mVar 1) (mC .non))) (mB (mOp oIsN (mFld (mVar 0) 11 7) (mC .non))), mSet 1 (mMeth 11 m_Tower_resume (mVar 0) (mCons (mVar 1) mNil))⟩, 2, 3, 5, 6, 7, [0, 1, 2], none⟩
def iPla : Ipr := ⟨6, m_PlainRun_init, ⟨true, mB (mOp oIsN (mFld (mVar 0) 6 6) (mC .non)), mSet 1 (mMeth 6 m_PlainRun_begin (mVar 0) mNil), mAnd (mB (mOp oNotN (mVar 1) (mC .non))) (mB (mOp oIsN (mFld (mVar 0) 6 6) (mC .non))), mSet 1 (mMeth 6 m_PlainRun_resume (mVar 0) (mCons (mVar 1) mNil))⟩, 2, 2, 3, 5, 6, [0, 1], none⟩
def iMac : Ipr := ⟨1, m_Machine_init, ⟨false, mB (mOp oIsN (mFld (mVar 0) 1 6) (mC .non)), mSeq (mSet 1 (mOp oIx (mFld (mVar 0) 1 3) (mC (.int (-1))))) (mSeq (mSet 2 (mOp oIx (mFld (mVar 1) 0 0) (mFld (mVar 1) 0 2))) (mSeq (mAugF oAdd (mVar 1) 0 2 (mC (.int 1))) (mExpr (mMeth 1 m_Machine_execute (mVar 0) (mCons (mVar 1) (mCons (mVar 2) mNil)))))), mB (mC .non), mNext⟩, 3, 1, 3, 5, 6, [], some 2⟩
def mkI (P : Ipr) (e f : AV) : Option Sta := match mMake P.cls P.ini (mCons (mC e) (mCons (mC f) mNil)) [] emp with
  | some (v, A) => some (0, some v :: List.replicate (P.ns - 1) none, A)
  | none => none
/-! ### what is reached -/
mutual
def refsV : AV → List Nat
  | .ref i => [i]
  | .tup xs => refsVs xs
  | _ => []
def refsVs : List AV → List Nat
  | [] => []
  | x :: xs => refsV x ++ refsVs xs
end
def refsO : Option AO → List Nat
  | some (.lst xs) => refsVs xs
  | some (.dK xs) => refsVs (xs.map (·.2))
  | some (.dT xs) => refsVs (xs.map (·.2))
  | some (.ins _ xs) => refsVs xs
  | some (.fz xs) => refsVs xs
  | some (.stk _ xs) => refsVs xs
  | none => []
def memN (i : Nat) (l : List Nat) : Bool := l.any fun j => i.beq j
def reach (A : AH) : Nat → List Nat → List Nat → List Nat
  | 0, _, d => d
  | _ + 1, [], d => d
  | f + 1, i :: r, d => cond (memN i d) (reach A f r d) (reach A f (refsO (A.get i) ++ r) (i :: d))
def refsS (s : SA) : List Nat := refsVs (s.map fun o => match o with
  | some x => x
  | none => .non)
def numb : List Nat → Nat → PM
  | [], _ => []
  | i :: r, k => (i, k) :: numb r (k + 1)
def fill (p : PM) (A : AH) : PM → AH → AH
  | [], B => B
  | (i, k) :: r, B => fill p A r (match A.get i with
    | some o => B.set k (mapO p thI o)
    | none => B)
/-- only what is reached, with numbers of its own -/
def compact (s : SA) (A : AH) : SA × AH :=
  let p := numb (reach A 3000 (refsS s) []) 0
  (mapS p thI s, fill p A p ⟨p.length, .nil⟩)
def selfR (s : SA) : Nat := match s with
  | some (.ref r) :: _ => r
  | _ => 0
def fldR (A : AH) (r i : Nat) : Nat := match A.get r with
  | some (.ins _ vs) => match vs[i]? with
    | some (.ref j) => j
    | _ => 0
  | _ => 0
def lastN (k : Nat) (xs : List AV) : List AV := xs.drop (xs.length - k)
def toStk (k m : Nat) (A : AH) (r : Nat) : AH := match A.get r with
  | some (.lst xs) => A.set r (.stk k (lastN m xs))
  | some (.stk _ xs) => A.set r (.stk k (lastN m xs))
  | _ => A
/-- the state at the start of a turn -/
def mkS (P : Ipr) (s : SA) (A : AH) : SA × AH :=
  let r := selfR s
  let s0 : SA := (s.take 1) ++ List.replicate (P.ns - 1) none
  let A1 := toStk 2 0 A (fldR A r P.ou)
  let A2 := match P.vals with
    | none => toStk 0 0 A1 (fldR A r P.wa)
    | some v => toStk 1 1 (toStk 0 0 A1 (fldR A r v)) (fldR A r P.wa)
  compact s0 A2
def kxOf (A : AH) : Nat → PM
  | 0 => []
  | i + 1 => match A.get i with
    | some (.stk k _) => (k, i) :: kxOf A i
    | _ => kxOf A i
/-! ### pairs of objects -/
mutual
def prsV : AV → AV → PM
  | .ref i, y => match y with
    | .ref j => [(i, j)]
    | _ => []
  | .tup xs, y => match y with
    | .tup ys => prsVs xs ys
    | _ => []
  | _, _ => []
def prsVs : List AV → List AV → PM
  | [], _ => []
  | x :: xs, ys => match ys with
    | y :: ys => prsV x y ++ prsVs xs ys
    | [] => []
end
def itemsO : Option AO → List AV
  | some (.lst xs) => xs
  | some (.dK xs) => xs.map (·.2)
  | some (.dT xs) => xs.map (·.2)
  | some (.ins _ xs) => xs
  | some (.fz xs) => xs
  | some (.stk _ xs) => xs
  | none => []
def prsO (o o2 : Option AO) : PM := match o with
  | some (.stk _ ys) => prsVs ys (lastN ys.length (itemsO o2))
  | o => prsVs (itemsO o) (itemsO o2)
def mtch (S A2 : AH) : Nat → PM → PM → PM
  | 0, _, d => d
  | _ + 1, [], d => d
  | f + 1, (i, j) :: r, d => match pget d i with
    | some _ => mtch S A2 f r d
    | none => mtch S A2 f (prsO (S.get i) (A2.get j) ++ r) ((i, j) :: d)
def slotsV (s : SA) : List AV := s.map fun o => match o with
  | some x => x
  | none => .non
def mtchS (sS : SA) (S : AH) (s2 : SA) (A2 : AH) : PM := mtch S A2 3000 (prsVs (slotsV sS) (slotsV s2)) []
/-! ### the state at the end of a turn -/
mutual
def clip (S : AH) : AV → AV
  | .ref i => match S.get i with
    | some _ => .ref i
    | none => .any
  | .tup xs => .tup (clips S xs)
  | x => x
def clips (S : AH) : List AV → List AV
  | [] => []
  | x :: xs => clip S x :: clips S xs
end
def clipO (S : AH) : AO → AO
  | .lst xs => .lst (clips S xs)
  | .dK xs => .dK (xs.map fun q => (q.1, clip S q.2))
  | .dT xs => .dT (xs.map fun q => (q.1, clip S q.2))
  | .ins c xs => .ins c (clips S xs)
  | .fz xs => .fz (clips S xs)
  | .stk k xs => .stk k (clips S xs)
def mkT1 (S S0 A4 : AH) : Nat → AH → AH
  | 0, B => B
  | i + 1, B => mkT1 S S0 A4 i (match S.get i, S0.get i, A4.get i with
    | some o, some o0, some o4 => B.set i (cond (simO (idp S.n) thI S.n o0 o4) o (clipO S o4))
    | _, _, _ => B)
def setAll (v : AV) : List Nat → List AV → List AV
  | [], xs => xs
  | i :: r, xs => setAll v r (xs.set i v)
/-- the frame that is left goes, with its slots -/
def delR (S B : AH) (w : Nat) : AH := match S.get w with
  | some (.stk _ [.ref f]) => (B.del f).del (fldR S f 1)
  | _ => B
def mkT (P : Ipr) (tv : AV) (sS : SA) (S : AH) (A4 : AH) : SA × AH :=
  let B := mkT1 S (mapA (idp S.n) thZ S) A4 S.n ⟨S.n, .nil⟩
  let r := selfR sS
  let B1 := match B.get r, A4.get r with
    | some (.ins c vs), some (.ins _ ws) => B.set r (.ins c ((setAll .any P.dead vs).set P.fu ((ws[P.fu]?).getD .any)))
    | _, _ => B
  let B2 := toStk 2 0 B1 (fldR S r P.ou)
  match P.vals with
  | none => (sS.take 1 ++ [some tv], B2)
  | some v => (sS, match B2.get (fldR S r P.wa) with
    | some (.stk _ _) => delR S ((B2.set (fldR S r v) (.stk 0 [tv])).set (fldR S r P.wa) (.stk 1 [])) (fldR S r P.wa)
    | _ => B2)
/-- the end by 'more' -/
def mkM (P : Ipr) (sS : SA) (S : AH) (A4 : AH) : SA × AH :=
  let r := selfR sS
  (sS, match A4.get r with
  | some (.ins c vs) => (AH.set ⟨S.n, .nil⟩ r (.ins c ((List.replicate vs.length .any).set P.ou (.ref (fldR S r P.ou)) |>.set P.en ((vs[P.en]?).getD .any)))).set (fldR S r P.ou) (.stk 2 [])
  | _ => emp)
/-! ### the data of a turn -/
/-- the int x of the next turn, told by the first -/
def halfL : List Int → List Int
  | [_, _, _, _, 2] => [0, 1]
  | l => l
mutual
def halfV : AV → AV
  | .sym l => .sym (halfL l)
  | .tup xs => .tup (halfVs xs)
  | x => x
def halfVs : List AV → List AV
  | [] => []
  | x :: xs => halfV x :: halfVs xs
end
def halfO : AO → AO
  | .lst xs => .lst (halfVs xs)
  | .dK xs => .dK (xs.map fun q => (q.1, halfV q.2))
  | .dT xs => .dT (xs.map fun q => (q.1, halfV q.2))
  | .ins c xs => .ins c (halfVs xs)
  | .fz xs => .fz (halfVs xs)
  | .stk k xs => .stk k (halfVs xs)
def getSta (o : Option Sta) : Sta := match o with
  | some q => q
  | none => (7, [], emp)
def setF0 (s : SA) (A : AH) (e : AV) : AH := match A.get (selfR s) with
  | some (.ins c vs) => A.set (selfR s) (.ins c (vs.set 0 e))
  | _ => A
/-- the state at the start of a turn, by the first one -/
def sOf (P : Ipr) (ec : Option AV) (q : Sta) : SA × AH :=
  let S0 := mkS P q.2.1 (match ec with
    | some e5 => setF0 q.2.1 q.2.2 e5
    | none => q.2.2)
  (S0.1, ⟨S0.2.n, S0.2.t.map halfO⟩)
def exD (P : Ipr) (S : SA × AH) (tv : AV) (os ob : List AV) (c1 c2 cb : Nat) : TD :=
  let q4 := getSta (P.L.itr cb (putS2 thZ S.1 S.2))
  let T := mkT P tv S.1 S.2 q4.2.2
  let q2 := getSta (P.L.itr c1 (putS2 thS S.1 S.2))
  ⟨P.L, S.1, S.2, (match P.vals with
    | none => 1
    | some _ => 0), T.1, T.2, mtchS S.1 S.2 q2.2.1 q2.2.2, kxOf S.2 S.2.n, kxOf T.2 T.2.n, fldR S.2 (selfR S.1) P.ou, os, ob, c1, c2, cb⟩
def moD (P : Ipr) (S : SA × AH) (os ob : List AV) (c1 cb : Nat) : TD :=
  let q4 := getSta (P.L.itr cb (putS2 thZ S.1 S.2))
  let T := mkM P S.1 S.2 q4.2.2
  let q2 := getSta (P.L.itr c1 (putS2 thS S.1 S.2))
  ⟨P.L, S.1, S.2, 2, T.1, T.2, mtchS S.1 S.2 q2.2.1 q2.2.2, kxOf S.2 S.2.n, kxOf T.2 T.2.n, fldR S.2 (selfR S.1) P.ou, os, ob, c1, 0, cb⟩
end Zg
set_option Elab.async false
set_option maxRecDepth 100000
set_option maxHeartbeats 4000000
set_option linter.all false
/-! ZG7: a whole run of an interpreter. -/
namespace Zg
open PySem L2
def lst2 (xs0 : List AV) : Option AO → Bool
  | some (.lst xs) => simVs [] thI 0 xs0 xs
  | _ => false
def finTop (io : Nat) (A : AH) : Bool := is2 (A.get io) && A.chk fun i o => noStk o || i.beq io
def topR (d : TD) (q : Sta) (cf : Nat) (pt : PM) (t : List (List Int)) : Option Sta := d.L.itr cf (d.lT, mapS pt t d.sT, mrg pt t d.S d.T q.2.2 pt q.2.2)
def topB (d : TD) (q : Sta) (cf : Nat) (pt : PM) (t : List (List Int)) (xs0 : List AV) (io : Nat) (r : Sta) : Bool :=
  q.1.beq 0 && (okCs xs0 && (view pt t d.kS d.sS d.S q.2.1 q.2.2 && (mrgB pt d.S d.T q.2.2 d.sT && ((match pget pt d.iT with
    | some j => lst2 xs0 (q.2.2.get j)
    | none => false) && (is2 (d.S.get d.iT) && (r.1.beq 2 && finTop io r.2.2))))))
section
variable {G : Gm}
theorem top_ok {d : TD} (ht : ∀ n, d.P G n) {q0 q r : Sta} {c0 cf io k : Nat} {pt : PM} {t : List (List Int)} {xs0 : List AV} (h0 : d.L.itr c0 q0 = some q) (hr : topR d q cf pt t = some r) (h : topB d q cf pt t xs0 io r = true)
    {x : Ex} (inv : Inv k (evS x.ev t)) (hx3 : x.ev 3 = k) (hx6 : ∀ i, 6 ≤ i → x.ev i = 0) (hst : ∀ i, (x.st i).length ≤ 1) (hk : k ≤ 2000) {ρ : Nat → Addr} {H : Hp} {σ : St} (c : Cf (G.re x) ρ q0.2.2 q0.2.1 σ H) {Fin : St → Hp → Prop}
    (fin : ∀ ρ' H' σ', Ext (G.re x) ρ q0.2.2 H ρ' (r.2.2.set io (.lst (cVs k xs0 ++ outsF d.os d.ob k))) H' → Cf (G.re x) ρ' (r.2.2.set io (.lst (cVs k xs0 ++ outsF d.os d.ob k))) r.2.1 σ' H' → Fin σ' H') : ∃ m, WP G d.L Fin m q0.1 σ H := by
  obtain ⟨h1, h⟩ := and_yes h
  obtain ⟨h2, h⟩ := and_yes h
  obtain ⟨h3, h⟩ := and_yes h
  obtain ⟨h4, h⟩ := and_yes h
  obtain ⟨h5, h⟩ := and_yes h
  obtain ⟨h6, h⟩ := and_yes h
  obtain ⟨h7, h8⟩ := and_yes h
  obtain ⟨h9, h10⟩ := and_yes h8
  have h1 := Nat.eq_of_beq_eq_true h1
  have h7 := Nat.eq_of_beq_eq_true h7
  refine ⟨0 + cf + d.cn k + c0, ?_⟩
  refine itr_ok h0 c fun ρ1 H1 σ1 e1 c1 => ?_
  rw [h1]
  obtain ⟨a, ha, ca, la, sk⟩ := view_ok hst (by decide) h3 c1
  obtain ⟨nd, vw⟩ := view_live h3
  refine ht k Fin a _ H1 σ1 (0 + cf) (1 + 1000) (by rw [ha]; exact inv) la (by unfold bdn; omega) ca fun a' H2 σ2 vs hev hst2 hlen hvs hout e2 c2 => ?_
  obtain ⟨cU, eU⟩ := merge_ok (G2 := G.re x) ha hev hst2 nd vw sk h4 c1.rel e2 c2
  refine itr_ok (q := (d.lT, mapS pt t d.sT, mrg pt t d.S d.T q.2.2 pt q.2.2)) hr cU fun ρ5 H5 σ5 e5 c5 => ?_
  rw [h7]
  show Fin σ5 H5
  -- the outputs
  have o2 : ∃ pv, a.st 2 = pv ∧ OV G H1 (cVs k xs0) pv := by
    cases g1 : d.S.get d.iT with
    | none =>
      rw [g1] at h6
      cases h6
    | some o =>
      rw [g1] at h6
      cases o <;> first | (cases h6; done) | skip
      rename_i kk ys
      obtain ⟨i3, i4⟩ := and_yes (show (kk.beq 2 && ys.isEmpty) = true from h6)
      have := Nat.eq_of_beq_eq_true i3
      subst this
      cases ys with
      | cons _ _ => cases i4
      | nil =>
        obtain ⟨j, o2, g2, g3, ⟨g4⟩⟩ := sk d.iT 2 [] g1
        rw [g2] at h5
        have h5 : lst2 xs0 (q.2.2.get j) = true := h5
        rw [g3] at h5
        rcases g4 with ⟨xs, pv2, rfl, rp, ep⟩ | ⟨xs, pv2, rfl, rp, ep⟩
        · refine ⟨pv2, ep, fun y ρ' n' => ?_⟩
          have : pre [] xs = xs := by
            unfold pre
            rw [List.length_nil, Nat.sub_zero, List.take_length]
          rw [this] at rp
          have h5 : simVs [] thI 0 xs0 xs = true := h5
          exact cVs_ok hx3 _ _ h2 (simVs_ok (a := x) (evS_I hx6) _ _ _ h5 rp)
        · cases h5
  obtain ⟨pv, s1, s2⟩ := o2
  have t25 : ∀ (b : Addr) (us : List V), H2 b = some (.tup us) → H5 b = some (.tup us) := e5.tu
  have ov : OV G H5 (cVs k xs0 ++ outsF d.os d.ob k) (a'.st 2) := by
    rw [hvs, s1]
    exact (s2.mono fun b us z => t25 b us (e2.tu b us z)).append (hout.mono t25)
  have e5' : Ext (G.re x) ρ q0.2.2 H ρ5 r.2.2 H5 := (e1.trans eU).trans ⟨e5.ag, e5.le, e5.fr, e5.tu⟩
  cases g7 : r.2.2.get io with
  | none =>
    rw [g7] at h9
    cases h9
  | some o =>
    rw [g7] at h9
    cases o <;> first | (cases h9; done) | skip
    rename_i kk ys
    obtain ⟨i3, i4⟩ := and_yes (show (kk.beq 2 && ys.isEmpty) = true from h9)
    have := Nat.eq_of_beq_eq_true i3
    subst this
    cases ys with
    | cons _ _ => cases i4
    | nil =>
      have back : ∀ {m : Nat} {w : AO}, (r.2.2.set io (.lst (cVs k xs0 ++ outsF d.os d.ob k))).get m = some w → ∃ w', r.2.2.get m = some w' := fun {m w} q => by
        by_cases h : m = io
        · rw [h]
          exact ⟨_, g7⟩
        · rw [get_set_ne h] at q
          exact ⟨w, q⟩
      refine fin ρ5 H5 σ5 ⟨e5'.ag, e5'.le, fun b o hb ni => ?_, e5'.tu⟩ ⟨⟨c5.st.len, fun i v q => ?_⟩, fun i o q => ?_, fun i o q => ?_, fun i j o u q1 q2 z => ?_⟩
      · obtain ⟨q1, q2⟩ := e5'.fr b o hb ni
        refine ⟨q1, fun ⟨i, w, z1, z2⟩ => ?_⟩
        obtain ⟨w', z3⟩ := back z1
        exact q2 ⟨i, w', z3, z2⟩
      · obtain ⟨u, w1, w2⟩ := c5.st.at_ i v q
        exact ⟨u, w1, re_ev (a := x.out a') (b := x) rfl w2⟩
      · obtain ⟨w', z3⟩ := back q
        exact c5.rel.lt i w' z3
      · by_cases hi : i = io
        · subst hi
          rw [get_set] at q
          cases q
          obtain ⟨ws, w1, w2⟩ := c5.rel.ob _ _ g7
          cases w2
          rw [List.append_nil] at w1
          refine ⟨a'.st 2, w1, ov x ρ5 _⟩
        · rw [get_set_ne hi] at q
          have ns : noStk o = true := by
            rcases Bool.or_eq_true_iff.mp (achk h10 q) with w | w
            · exact w
            · exact absurd (Nat.eq_of_beq_eq_true w) hi
          exact ro_ev (a := x.out a') (b := x) rfl (.inl ns) (c5.rel.ob i o q)
      · obtain ⟨_, z1⟩ := back q1
        obtain ⟨_, z2⟩ := back q2
        exact c5.rel.inj i j _ _ z1 z2 z
/-- a run without turns -/
theorem dir_ok {L : Lp} {q0 r : Sta} {c0 : Nat} (h0 : L.itr c0 q0 = some r) (h2 : r.1 = 2) {x : Ex} {ρ : Nat → Addr} {H : Hp} {σ : St} (c : Cf (G.re x) ρ q0.2.2 q0.2.1 σ H) {Fin : St → Hp → Prop}
    (fin : ∀ ρ' H' σ', Ext (G.re x) ρ q0.2.2 H ρ' r.2.2 H' → Cf (G.re x) ρ' r.2.2 r.2.1 σ' H' → Fin σ' H') : ∃ m, WP G L Fin m q0.1 σ H := by
  refine ⟨0 + c0, itr_ok h0 c fun ρ1 H1 σ1 e1 c1 => ?_⟩
  rw [h2]
  exact fin ρ1 H1 σ1 e1 c1
end
end Zg
set_option Elab.async false
set_option maxRecDepth 1000000
set_option maxHeartbeats 0
set_option linter.all false
/-! ZG8: the closed checks. -/
namespace Zg
mutual
def gV (ev : Nat → Int) : AV → AV
  | .sym l => .int (lv ev 0 l)
  | .tup xs => .tup (gVs ev xs)
  | .non => .non
  | .bl b => .bl b
  | .int i => .int i
  | .str c => .str c
  | .ktup xs => .ktup xs
  | .ref i => .ref i
  | .any => .any
def gVs (ev : Nat → Int) : List AV → List AV
  | [] => []
  | x :: xs => gV ev x :: gVs ev xs
end
mutual
def flt : AV → Bool
  | .sym _ => true
  | .tup xs => flts xs
  | .non => true
  | .bl _ => true
  | .int _ => true
  | .str _ => true
  | _ => false
def flts : List AV → Bool
  | [] => true
  | x :: xs => flt x && flts xs
end
def endB (P : Ipr) (r : Sta) (io : Nat) (endv : AV) : Bool := match r.2.2.get 0 with
  | some (.ins c vs) => c.beq P.cls && ((match vs[P.ou]? with
    | some (.ref i) => i.beq io
    | _ => false) && (match vs[P.en]? with
    | some v => simV [] thI 0 endv v
    | none => false))
  | _ => false
def chkD (P : Ipr) (d : TD) (q : Sta) (pt : PM) (t : List (List Int)) (cf : Nat) (xs0 : List AV) (endv : AV) : Bool := d.baseB && (d.stepB && match topR d q cf pt t with
  | none => false
  | some r => topB d q cf pt t xs0 (fldR r.2.2 0 P.ou) r && (endB P r (fldR r.2.2 0 P.ou) endv && flt endv))
def cls0 (P : Ipr) (q : Sta) : Bool := match q.2.2.get 0 with
  | some (.ins c _) => c.beq P.cls
  | _ => false
def chkE (P : Ipr) (e f : AV) (c0 : Nat) (k : Sta → Sta → Bool) : Bool := match mkI P e f with
  | none => false
  | some q0 => cls0 P q0 && match P.L.itr c0 q0 with
    | none => false
    | some q => k q0 q
def kp1 : AV := .sym [1, 0, 0, 1]
def kp2 : AV := .sym [2, 0, 0, 1]
def x4 : AV := .sym [-4, 0, 0, 0, 1]
def v5 : AV := .sym [0, 0, 0, 0, 0, 1]
/-- at the first turn's end, the number c more -/
def thN (c : Int) : List (List Int) := [[1], [-8, 0, 0, 0, 2], [0, 0, 1], [0, 0, 0, 1], [0, 0, 0, 0, 1], [c, 0, 0, 1]]
def fin2 (L : Lp) : Nat → Sta → Option Sta
  | 0, _ => none
  | n + 1, q => cond (q.1.beq 2) (some q) (match L.stp q with
    | some q' => fin2 L n q'
    | none => none)
/-- without turns -/
def chkZ (P : Ipr) (q r : Sta) (xs0 : List AV) (endv : AV) : Bool := r.1.beq 2 && (endB P r (fldR r.2.2 0 P.ou) endv && (flt endv && (match r.2.2.get (fldR r.2.2 0 P.ou) with
  | some (.lst xs) => simVs [] thI 0 xs0 xs && flts xs0
  | _ => false)))
/-! ### the written programs -/
/-- steps: so many a turn, so many more -/
def stepsC : Shp → Int × Int
  | .d => (3, 3)
  | .c _ sh k => match k with
    | 0 => (2, 2)
    | 1 => (3, 3)
    | 2 => cond sh (3, 3) (2, 2)
    | _ => (4, 4)
/-- what a turn puts out, n its number -/
def osF (n : AV) : Shp → List AV
  | .d => []
  | .c _ sh k => cond sh (match k with
    | 2 => [.tup [.int 1, .int 5], .tup [.int 0, n]]
    | _ => [.tup [.int 0, n]]) []
/-- .. with fuel for one step less: the last but one turn, the last -/
def ob1 : Shp → List AV
  | .d => []
  | .c _ sh k => cond sh (match k with
    | 2 => [.tup [.int 1, .int 5], .tup [.int 0, .int 1], .tup [.int 1, .int 5]]
    | _ => [.tup [.int 0, .int 1]]) []
def ob0 : Shp → List AV
  | .d => []
  | .c _ sh k => cond sh (match k with
    | 2 => [.tup [.int 1, .int 5]]
    | _ => []) []
def vEnd (v : AV) : AV := .tup [.str 31880592101, v]
def mEnd : AV := .tup [.str 230422885]
def tvF : Shp → AV
  | .d => .sym [0, 0, 1]
  | .c a _ _ => cond a (.sym [7, 0, 0, 2]) (.int 7)
def evF : Shp → AV
  | .d => .sym [0, 0, 1]
  | .c a _ _ => cond a (.sym [9, 0, 0, 2]) (.int 7)
def ezF : Shp → AV
  | .d => x4
  | .c _ _ _ => .int 7
/-- the counts of steps: to the second turn, a turn down, a turn up, the last turn, the end; the last turns with fuel for one step less -/
structure Row where
  c0 : Nat
  c1 : Nat
  c2 : Nat
  cb : Nat
  cf : Nat
  cm : Nat
abbrev Prg := AV → AV → AV
def ecF (P : Ipr) (e : Prg) : Option AV := match P.vals with
  | none => none
  | some _ => some (e v5 x4)
def exB (P : Ipr) (e : Prg) (sh : Shp) (n : Row) : Bool := chkE P (e kp1 x4) (.sym [(stepsC sh).1 + (stepsC sh).2, 0, 0, (stepsC sh).1]) n.c0 fun _ q =>
  chkD P (exD P (sOf P (ecF P e) q) (tvF sh) (osF kp1 sh) (osF (.int 0) sh) n.c1 n.c2 n.cb) q (mtchS (sOf P (ecF P e) q).1 (sOf P (ecF P e) q).2 q.2.1 q.2.2) (thN 1) n.cf (osF kp1 sh) (vEnd (evF sh))
def moB (P : Ipr) (e : Prg) (sh : Shp) (n : Row) : Bool := chkE P (e kp2 x4) (.sym [2 * (stepsC sh).1 + (stepsC sh).2 - 1, 0, 0, (stepsC sh).1]) n.c0 fun _ q =>
  chkD P (moD P (sOf P (ecF P e) q) (osF kp2 sh) (ob1 sh) n.c1 n.cm) q (mtchS (sOf P (ecF P e) q).1 (sOf P (ecF P e) q).2 q.2.1 q.2.2) (thN 2) 0 (osF kp2 sh) mEnd
def ziB (P : Ipr) (e : Prg) (n f : Int) (os : List AV) (endv : AV) : Bool := chkE P (e (.int n) x4) (.int f) 0 fun q0 _ => match fin2 P.L 300 q0 with
  | none => false
  | some r => chkZ P q0 r os endv
def shB (P : Ipr) (e : Prg) (sh : Shp) (n : Row) : Bool := exB P e sh n && (moB P e sh n && (ziB P e 0 (stepsC sh).2 (osF (.int 0) sh) (vEnd (ezF sh)) && (ziB P e 0 ((stepsC sh).2 - 1) (ob0 sh) mEnd && ziB P e 1 ((stepsC sh).1 + (stepsC sh).2 - 1) (ob1 sh) mEnd)))
/-- run(program, fuel): what its loop is shown to do put in -/
def bR (P : Ipr) (mr : MF) : MS := mSeq (mSet 2 (mMake P.cls P.ini (mCons (mVar 0) (mCons (mVar 1) mNil)))) (mSeq (mExpr (mMeth P.cls mr (mVar 2) mNil)) (mRet (mTup (mCons (mCall cTuple (mCons (mFld (mVar 2) P.cls P.ou) mNil)) (mCons (mFld (mVar 2) P.cls P.en) mNil)))))
end Zg
set_option Elab.async false
set_option maxRecDepth 1000000
set_option maxHeartbeats 0
set_option linter.all false
/-! ZK: the closed checks; printed by genk.py. -/
namespace Zg
theorem k_d_tow : shB iTow (progF (.d)) (.d) ⟨76, 47, 0, 12, 3, 48⟩ = true := by decide +kernel
theorem k_d_pla : shB iPla (plainF (.d)) (.d) ⟨76, 47, 0, 12, 3, 48⟩ = true := by decide +kernel
theorem k_d_mac : shB iMac (codeF (.d)) (.d) ⟨32, 19, 2, 6, 4, 20⟩ = true := by decide +kernel
theorem k_cff0_tow : shB iTow (progF (.c false false 0)) (.c false false 0) ⟨54, 33, 0, 12, 3, 34⟩ = true := by decide +kernel
theorem k_cff0_pla : shB iPla (plainF (.c false false 0)) (.c false false 0) ⟨54, 33, 0, 12, 3, 34⟩ = true := by decide +kernel
theorem k_cff0_mac : shB iMac (codeF (.c false false 0)) (.c false false 0) ⟨22, 13, 2, 6, 4, 14⟩ = true := by decide +kernel
theorem k_cff1_tow : shB iTow (progF (.c false false 1)) (.c false false 1) ⟨65, 42, 0, 21, 4, 51⟩ = true := by decide +kernel
theorem k_cff1_pla : shB iPla (plainF (.c false false 1)) (.c false false 1) ⟨69, 46, 0, 25, 4, 57⟩ = true := by decide +kernel
theorem k_cff1_mac : shB iMac (codeF (.c false false 1)) (.c false false 1) ⟨32, 22, 2, 15, 5, 27⟩ = true := by decide +kernel
theorem k_cff2_tow : shB iTow (progF (.c false false 2)) (.c false false 2) ⟨56, 33, 0, 12, 4, 34⟩ = true := by decide +kernel
theorem k_cff2_pla : shB iPla (plainF (.c false false 2)) (.c false false 2) ⟨56, 33, 0, 12, 4, 34⟩ = true := by decide +kernel
theorem k_cff2_mac : shB iMac (codeF (.c false false 2)) (.c false false 2) ⟨23, 13, 2, 6, 5, 14⟩ = true := by decide +kernel
theorem k_cff3_tow : shB iTow (progF (.c false false 3)) (.c false false 3) ⟨64, 41, 1, 18, 5, 55⟩ = true := by decide +kernel
theorem k_cff3_pla : shB iPla (plainF (.c false false 3)) (.c false false 3) ⟨66, 43, 1, 20, 5, 59⟩ = true := by decide +kernel
theorem k_cff3_mac : shB iMac (codeF (.c false false 3)) (.c false false 3) ⟨29, 20, 3, 14, 5, 28⟩ = true := by decide +kernel
theorem k_cft0_tow : shB iTow (progF (.c false true 0)) (.c false true 0) ⟨57, 36, 0, 15, 3, 37⟩ = true := by decide +kernel
theorem k_cft0_pla : shB iPla (plainF (.c false true 0)) (.c false true 0) ⟨57, 36, 0, 15, 3, 37⟩ = true := by decide +kernel
theorem k_cft0_mac : shB iMac (codeF (.c false true 0)) (.c false true 0) ⟨23, 14, 2, 7, 4, 15⟩ = true := by decide +kernel
theorem k_cft1_tow : shB iTow (progF (.c false true 1)) (.c false true 1) ⟨68, 45, 0, 24, 4, 54⟩ = true := by decide +kernel
theorem k_cft1_pla : shB iPla (plainF (.c false true 1)) (.c false true 1) ⟨76, 53, 0, 32, 4, 66⟩ = true := by decide +kernel
theorem k_cft1_mac : shB iMac (codeF (.c false true 1)) (.c false true 1) ⟨37, 27, 2, 20, 5, 34⟩ = true := by decide +kernel
theorem k_cft2_tow : shB iTow (progF (.c false true 2)) (.c false true 2) ⟨71, 48, 0, 27, 4, 68⟩ = true := by decide +kernel
theorem k_cft2_pla : shB iPla (plainF (.c false true 2)) (.c false true 2) ⟨75, 52, 0, 31, 4, 74⟩ = true := by decide +kernel
theorem k_cft2_mac : shB iMac (codeF (.c false true 2)) (.c false true 2) ⟨34, 24, 2, 17, 5, 33⟩ = true := by decide +kernel
theorem k_cft3_tow : shB iTow (progF (.c false true 3)) (.c false true 3) ⟨67, 44, 1, 21, 5, 58⟩ = true := by decide +kernel
theorem k_cft3_pla : shB iPla (plainF (.c false true 3)) (.c false true 3) ⟨73, 50, 1, 27, 5, 68⟩ = true := by decide +kernel
theorem k_cft3_mac : shB iMac (codeF (.c false true 3)) (.c false true 3) ⟨34, 25, 3, 19, 5, 35⟩ = true := by decide +kernel
theorem k_ctf0_tow : shB iTow (progF (.c true false 0)) (.c true false 0) ⟨59, 38, 1, 12, 4, 39⟩ = true := by decide +kernel
theorem k_ctf0_pla : shB iPla (plainF (.c true false 0)) (.c true false 0) ⟨59, 38, 1, 12, 4, 39⟩ = true := by decide +kernel
theorem k_ctf0_mac : shB iMac (codeF (.c true false 0)) (.c true false 0) ⟨23, 14, 3, 6, 5, 15⟩ = true := by decide +kernel
theorem k_ctf1_tow : shB iTow (progF (.c true false 1)) (.c true false 1) ⟨70, 47, 1, 21, 5, 56⟩ = true := by decide +kernel
theorem k_ctf1_pla : shB iPla (plainF (.c true false 1)) (.c true false 1) ⟨74, 51, 1, 25, 5, 62⟩ = true := by decide +kernel
theorem k_ctf1_mac : shB iMac (codeF (.c true false 1)) (.c true false 1) ⟨33, 23, 3, 15, 6, 28⟩ = true := by decide +kernel
theorem k_ctf2_tow : shB iTow (progF (.c true false 2)) (.c true false 2) ⟨61, 38, 1, 12, 5, 39⟩ = true := by decide +kernel
theorem k_ctf2_pla : shB iPla (plainF (.c true false 2)) (.c true false 2) ⟨61, 38, 1, 12, 5, 39⟩ = true := by decide +kernel
theorem k_ctf2_mac : shB iMac (codeF (.c true false 2)) (.c true false 2) ⟨24, 14, 3, 6, 6, 15⟩ = true := by decide +kernel
theorem k_ctf3_tow : shB iTow (progF (.c true false 3)) (.c true false 3) ⟨69, 46, 2, 18, 6, 60⟩ = true := by decide +kernel
theorem k_ctf3_pla : shB iPla (plainF (.c true false 3)) (.c true false 3) ⟨71, 48, 2, 20, 6, 64⟩ = true := by decide +kernel
theorem k_ctf3_mac : shB iMac (codeF (.c true false 3)) (.c true false 3) ⟨30, 21, 4, 14, 6, 29⟩ = true := by decide +kernel
theorem k_ctt0_tow : shB iTow (progF (.c true true 0)) (.c true true 0) ⟨62, 41, 1, 15, 4, 42⟩ = true := by decide +kernel
theorem k_ctt0_pla : shB iPla (plainF (.c true true 0)) (.c true true 0) ⟨62, 41, 1, 15, 4, 42⟩ = true := by decide +kernel
theorem k_ctt0_mac : shB iMac (codeF (.c true true 0)) (.c true true 0) ⟨24, 15, 3, 7, 5, 16⟩ = true := by decide +kernel
theorem k_ctt1_tow : shB iTow (progF (.c true true 1)) (.c true true 1) ⟨73, 50, 1, 24, 5, 59⟩ = true := by decide +kernel
theorem k_ctt1_pla : shB iPla (plainF (.c true true 1)) (.c true true 1) ⟨81, 58, 1, 32, 5, 71⟩ = true := by decide +kernel
theorem k_ctt1_mac : shB iMac (codeF (.c true true 1)) (.c true true 1) ⟨38, 28, 3, 20, 6, 35⟩ = true := by decide +kernel
theorem k_ctt2_tow : shB iTow (progF (.c true true 2)) (.c true true 2) ⟨76, 53, 1, 27, 5, 73⟩ = true := by decide +kernel
theorem k_ctt2_pla : shB iPla (plainF (.c true true 2)) (.c true true 2) ⟨80, 57, 1, 31, 5, 79⟩ = true := by decide +kernel
theorem k_ctt2_mac : shB iMac (codeF (.c true true 2)) (.c true true 2) ⟨35, 25, 3, 17, 6, 34⟩ = true := by decide +kernel
theorem k_ctt3_tow : shB iTow (progF (.c true true 3)) (.c true true 3) ⟨72, 49, 2, 21, 6, 63⟩ = true := by decide +kernel
theorem k_ctt3_pla : shB iPla (plainF (.c true true 3)) (.c true true 3) ⟨78, 55, 2, 27, 6, 73⟩ = true := by decide +kernel
theorem k_ctt3_mac : shB iMac (codeF (.c true true 3)) (.c true true 3) ⟨35, 26, 4, 19, 6, 36⟩ = true := by decide +kernel
end Zg
set_option Elab.async false
set_option maxRecDepth 100000
set_option maxHeartbeats 4000000
set_option linter.all false
/-! ZO: promises at given arguments. -/
namespace Zg
open PySem L2
section
variable {G : Gm} {x : Ex} {ρ ρ' : Nat → Addr} {n n' : Nat} {H : Hp}
mutual
theorem gV_ok : ∀ (a : AV) (u : V), flt a = true → RV (G.re x) ρ n H a u → RV G ρ' n' H (gV x.ev a) u
  | .sym l, u, h, r => by
    cases r
    exact .int _
  | .tup xs, u, h, r => by
    cases r with
    | tup h1 h2 => exact .tup h1 (gVs_ok xs _ h h2)
  | .non, u, h, r => by
    cases r
    exact .non
  | .bl b, u, h, r => by
    cases r
    exact .bl b
  | .int i, u, h, r => by
    cases r
    exact .int i
  | .str c, u, h, r => by
    cases r
    exact .str c
  | .ktup _, u, h, r => by cases h
  | .ref _, u, h, r => by cases h
  | .any, u, h, r => by cases h
theorem gVs_ok : ∀ (xs : List AV) (us : List V), flts xs = true → RVs (G.re x) ρ n H xs us → RVs G ρ' n' H (gVs x.ev xs) us
  | [], us, h, r => by
    cases r
    exact .nil
  | a :: xs, us, h, r => by
    cases r with
    | cons r1 r2 =>
      obtain ⟨h1, h2⟩ := and_yes (show (flt a && flts xs) = true from h)
      exact .cons (gV_ok a _ h1 r1) (gVs_ok xs _ h2 r2)
end
mutual
theorem gV_back : ∀ (a : AV) (u : V), flt a = true → RV G ρ n H (gV x.ev a) u → RV (G.re x) ρ' n' H a u
  | .sym l, u, h, r => by
    cases r
    exact .sym (G := G.re x) l
  | .tup xs, u, h, r => by
    cases r with
    | tup h1 h2 => exact .tup h1 (gVs_back xs _ h h2)
  | .non, u, h, r => by
    cases r
    exact .non
  | .bl b, u, h, r => by
    cases r
    exact .bl b
  | .int i, u, h, r => by
    cases r
    exact .int i
  | .str c, u, h, r => by
    cases r
    exact .str c
  | .ktup _, u, h, r => by cases h
  | .ref _, u, h, r => by cases h
  | .any, u, h, r => by cases h
theorem gVs_back : ∀ (xs : List AV) (us : List V), flts xs = true → RVs G ρ n H (gVs x.ev xs) us → RVs (G.re x) ρ' n' H xs us
  | [], us, h, r => by
    cases r
    exact .nil
  | a :: xs, us, h, r => by
    cases r with
    | cons r1 r2 =>
      obtain ⟨h1, h2⟩ := and_yes (show (flt a && flts xs) = true from h)
      exact .cons (gV_back a _ h1 r1) (gVs_back xs _ h2 r2)
end
end
/-! ### what is closed stays -/
mutual
theorem gV_c (ev : Nat → Int) (k : Nat) : ∀ a : AV, okC a = true → gV ev (cV k a) = cV k a ∧ flt (cV k a) = true
  | .sym l, h => ⟨rfl, rfl⟩
  | .tup xs, h => by
    obtain ⟨h1, h2⟩ := gVs_c ev k xs h
    exact ⟨congrArg AV.tup h1, h2⟩
  | .int i, h => ⟨rfl, rfl⟩
  | .non, h => by cases h
  | .bl _, h => by cases h
  | .str _, h => by cases h
  | .ktup _, h => by cases h
  | .ref _, h => by cases h
  | .any, h => by cases h
theorem gVs_c (ev : Nat → Int) (k : Nat) : ∀ xs : List AV, okCs xs = true → gVs ev (cVs k xs) = cVs k xs ∧ flts (cVs k xs) = true
  | [], h => ⟨rfl, rfl⟩
  | a :: xs, h => by
    obtain ⟨h1, h2⟩ := and_yes (show (okC a && okCs xs) = true from h)
    obtain ⟨a1, a2⟩ := gV_c ev k a h1
    obtain ⟨b1, b2⟩ := gVs_c ev k xs h2
    refine ⟨?_, ?_⟩
    · show gV ev (cV k a) :: gVs ev (cVs k xs) = cV k a :: cVs k xs
      rw [a1, b1]
    · show (flt (cV k a) && flts (cVs k xs)) = true
      rw [a2, b2]
      rfl
end
theorem gVs_app (ev : Nat → Int) : ∀ xs ys : List AV, gVs ev (xs ++ ys) = gVs ev xs ++ gVs ev ys
  | [], ys => rfl
  | x :: xs, ys => congrArg (gV ev x :: ·) (gVs_app ev xs ys)
theorem flts_app : ∀ xs ys : List AV, flts (xs ++ ys) = (flts xs && flts ys)
  | [], ys => rfl
  | x :: xs, ys => by
    show (flt x && flts (xs ++ ys)) = ((flt x && flts xs) && flts ys)
    rw [flts_app xs ys, Bool.and_assoc]
theorem outsF_c (ev : Nat → Int) {os ob : List AV} (h1 : okCs os = true) (h2 : okCs ob = true) : ∀ k, gVs ev (outsF os ob k) = outsF os ob k ∧ flts (outsF os ob k) = true
  | 0 => gVs_c ev 0 ob h2
  | k + 1 => by
    obtain ⟨a1, a2⟩ := gVs_c ev k os h1
    obtain ⟨b1, b2⟩ := outsF_c ev h1 h2 k
    refine ⟨?_, ?_⟩
    · show gVs ev (cVs k os ++ outsF os ob k) = _
      rw [gVs_app, a1, b1]
      rfl
    · show flts (cVs k os ++ outsF os ob k) = true
      rw [flts_app, a2, b2]
      rfl
/-! ### promises -/
open Classical in
noncomputable def orc (avs : List AV) (w : AV) : MF := fun xs A => if xs = avs then some (w, A) else none
theorem orc_some {avs xs : List AV} {w : AV} {A : AH} {r : AV × AH} (h : orc avs w xs A = some r) : xs = avs ∧ r = (w, A) := by
  unfold orc at h
  split at h
  · rename_i e
    cases h
    exact ⟨e, rfl⟩
  · cases h
theorem orc_at {avs : List AV} {w : AV} {A : AH} : orc avs w avs A = some (w, A) := if_pos rfl
/-- one or the other -/
def orM (m1 m2 : MF) : MF := fun xs A => match m1 xs A with
  | some r => some r
  | none => m2 xs A
section
variable {G : Gm} {j : Nat} {f : Addr} {ps : List Str}
theorem fo_orM {m1 m2 : MF} (h1 : Fo G j f ps m1) (h2 : Fo G j f ps m2) : Fo G j f ps (orM m1 m2) := by
  obtain ⟨fd, a1, a2, a3⟩ := h1.ex
  obtain ⟨fd2, b1, b2, b3⟩ := h2.ex
  have := a3.uniq b3
  subst this
  have key : ∀ avs A r, orM m1 m2 avs A = some r → m1 avs A = some r ∨ m2 avs A = some r := fun avs A r h => by
    unfold orM at h
    split at h
    · rename_i q hq
      cases h
      exact .inl hq
    · exact .inr h
  have sp : ∀ vs H Q E, SpF G (orM m1 m2) ps.length vs H Q E → SpF G m1 ps.length vs H Q E ∨ SpF G m2 ps.length vs H Q E := fun vs H Q E ⟨hl, ρ, A, avs, v, A', R, r, hm, o⟩ => by
    rcases key _ _ _ hm with h | h
    · exact .inl ⟨hl, ρ, A, avs, v, A', R, r, h, o⟩
    · exact .inr ⟨hl, ρ, A, avs, v, A', R, r, h, o⟩
  refine ⟨⟨fd, ⟨fun vs H Q E h => h.1, fun A outer s H args us vs Q E hr he hb hv hs => ?_⟩, a2, a3⟩, h1.kp, fun avs A r h => ?_⟩
  · rcases sp _ _ _ _ hs with h | h
    · exact a1.run A outer s H args us vs Q E hr he hb hv h
    · exact b1.run A outer s H args us vs Q E hr he hb hv h
  · rcases key _ _ _ h with h | h
    · exact h1.ar _ _ _ h
    · exact h2.ar _ _ _ h
theorem emp_get (i : Nat) : emp.get i = none := rfl
theorem rel_emp {G : Gm} {ρ : Nat → Addr} {H : Hp} : Rel G ρ emp H := ⟨fun i o h => (nomatch h), fun i o h => (nomatch h), fun i j o u h => (nomatch h)⟩
/-- what is shown on the empty heap holds on any -/
theorem fo_orc {x : Ex} {m : MF} {avs avsS : List AV} {v w : AV} {A' : AH} (h : Fo (G.re x) j f ps m) (he : m avsS emp = some (v, A')) (hl : avs.length = avsS.length)
    (ha : ∀ ρ n H us, RVs G ρ n H avs us → ∀ ρ', RVs (G.re x) ρ' 0 H avsS us) (hr : ∀ ρ n H u, RV (G.re x) ρ n H v u → ∀ ρ' n', RV G ρ' n' H w u) : Fo G j f ps (orc avs w) := by
  obtain ⟨fd, h1, h2, h3⟩ := h.ex
  have h1 : FnOk G.P G.w G.K G.mg G.base CX0 j f fd ps (SpF (G.re x) m ps.length) := h1
  refine ⟨⟨fd, h1.imp fun vs H Q E ⟨hv, ρ, A, as, w2, A2, R, r, hm, o⟩ => ?_, h2, h3⟩, h.kp, fun as A r hm => ?_⟩
  · obtain ⟨rfl, e⟩ := orc_some hm
    cases e
    refine ⟨hv, ρ, emp, avsS, v, A', rel_emp, ha _ _ _ _ r ρ, he, fun ρ' H' u e R' ru => ?_⟩
    have fr : ∀ b o, H b = some o → H' b = some o := fun b o hb => (e.fr b o hb fun ⟨i, o', g, _⟩ => by cases g).1
    refine o ρ H' u ⟨fun _ _ => rfl, Nat.le_refl _, fun b o hb ni => ⟨fr b o hb, ni⟩, e.tu⟩ ⟨R.lt, fun i o g => ?_, R.inj⟩ (hr _ _ _ _ ru ρ _)
    obtain ⟨z, hz, _⟩ := (R.ob i o g).some
    exact (R.ob i o g).mono (fun _ _ => rfl) (Nat.le_refl _) e.tu ((fr _ _ hz).trans hz.symm)
  · obtain ⟨rfl, _⟩ := orc_some hm
    rw [hl]
    exact h.ar _ _ _ he
end
end Zg
set_option Elab.async false
set_option maxRecDepth 100000
set_option maxHeartbeats 4000000
set_option linter.all false
/-! ZDer: the derivations of the defs; printed by gen.py. -/
namespace Zg
open PySem L2
theorem s_1734516 : dS 1734516 = ("int" : Str) := by decide +kernel
theorem s_228323556 : dS 228323556 = ("load" : Str) := by decide +kernel
theorem s_31115180389 : dS 31115180389 = ("store" : Str) := by decide +kernel
theorem s_26803436005 : dS 26803436005 = ("close" : Str) := by decide +kernel
theorem s_13166 : dS 13166 = ("fn" : Str) := by decide +kernel
theorem s_31358547819 : dS 31358547819 = ("thunk" : Str) := by decide +kernel
theorem s_27615080933 : dS 27615080933 = ("force" : Str) := by decide +kernel
theorem s_3983535845864 : dS 3983535845864 = ("switch" : Str) := by decide +kernel
theorem s_244939252 : dS 244939252 = ("test" : Str) := by decide +kernel
theorem s_224229104 : dS 224229104 = ("jump" : Str) := by decide +kernel
theorem s_1850100 : dS 1850100 = ("put" : Str) := by decide +kernel
theorem s_29204446053 : dS 29204446053 = ("leave" : Str) := by decide +kernel
theorem s_27344581362 : dS 27344581362 = ("enter" : Str) := by decide +kernel
theorem s_31115276779 : dS 31115276779 = ("stuck" : Str) := by decide +kernel
theorem s_230422885 : dS 230422885 = ("more" : Str) := by decide +kernel
theorem s_245002731 : dS 245002731 = ("tick" : Str) := by decide +kernel
theorem s_1896697 : dS 1896697 = ("say" : Str) := by decide +kernel
theorem s_3944367356270 : dS 3944367356270 = ("return" : Str) := by decide +kernel
theorem s_31880592101 : dS 31880592101 = ("value" : Str) := by decide +kernel
theorem s_209221228 : dS 209221228 = ("call" : Str) := by decide +kernel
theorem s_1899245 : dS 1899245 = ("sum" : Str) := by decide +kernel
theorem s_226063088 : dS 226063088 = ("keep" : Str) := by decide +kernel
theorem s_241006181 : dS 241006181 = ("rule" : Str) := by decide +kernel
theorem s_1782516 : dS 1782516 = ("let" : Str) := by decide +kernel
theorem s_12911 : dS 12911 = ("do" : Str) := by decide +kernel
theorem s_232290021 : dS 232290021 = ("name" : Str) := by decide +kernel
theorem s_1817325 : dS 1817325 = ("num" : Str) := by decide +kernel
theorem s_100 : dS 100 = ("d" : Str) := by decide +kernel
theorem s_27057139961 : dS 27057139961 = ("delay" : Str) := by decide +kernel
theorem s_120 : dS 120 = ("x" : Str) := by decide +kernel
theorem s_1897204 : dS 1897204 = ("set" : Str) := by decide +kernel
theorem s_236484980 : dS 236484980 = ("part" : Str) := by decide +kernel
theorem s_31650050284 : dS 31650050284 = ("usual" : Str) := by decide +kernel
theorem s_251296360 : dS 251296360 = ("with" : Str) := by decide +kernel
theorem s_228162035 : dS 228162035 = ("less" : Str) := by decide +kernel
theorem s_13542 : dS 13542 = ("if" : Str) := by decide +kernel
theorem s_3978691344228 : dS 3978691344228 = ("second" : Str) := by decide +kernel
theorem s_26520188142 : dS 26520188142 = ("begin" : Str) := by decide +kernel
theorem s_1668964 : dS 1668964 = ("end" : Str) := by decide +kernel
theorem s_101 : dS 101 = ("e" : Str) := by decide +kernel
theorem s_105 : dS 105 = ("i" : Str) := by decide +kernel
theorem s_29196071660 : dS 29196071660 = ("label" : Str) := by decide +kernel
theorem s_207122923 : dS 207122923 = ("back" : Str) := by decide +kernel
theorem s_110 : dS 110 = ("n" : Str) := by decide +kernel
theorem s_102 : dS 102 = ("f" : Str) := by decide +kernel
theorem s_13295 : dS 13295 = ("go" : Str) := by decide +kernel
theorem s_118 : dS 118 = ("v" : Str) := by decide +kernel
theorem dd_Frame_init {G : Gm} (F : FZ G) : ∃ fd, FunD G.K "__init__" "Frame.__init__" (defArgs st_Frame_init) (defBody st_Frame_init) (defScope st_Frame_init) [] [] (He.fAd G.K ("Frame", some "__init__")) fd := F.dd 0 _ rfl
theorem dd_Machine_init {G : Gm} (F : FZ G) : ∃ fd, FunD G.K "__init__" "Machine.__init__" (defArgs st_Machine_init) (defBody st_Machine_init) (defScope st_Machine_init) [] [] (He.fAd G.K ("Machine", some "__init__")) fd := F.dd 1 _ rfl
theorem dd_Machine_run {G : Gm} (F : FZ G) : ∃ fd, FunD G.K "run" "Machine.run" (defArgs st_Machine_run) (defBody st_Machine_run) (defScope st_Machine_run) [] [] (He.fAd G.K ("Machine", some "run")) fd := F.dd 2 _ rfl
theorem dd_Machine_execute {G : Gm} (F : FZ G) : ∃ fd, FunD G.K "execute" "Machine.execute" (defArgs st_Machine_execute) (defBody st_Machine_execute) (defScope st_Machine_execute) [] [] (He.fAd G.K ("Machine", some "execute")) fd := F.dd 3 _ rfl
theorem dd_Machine_go {G : Gm} (F : FZ G) : ∃ fd, FunD G.K "go" "Machine.go" (defArgs st_Machine_go) (defBody st_Machine_go) (defScope st_Machine_go) [] [] (He.fAd G.K ("Machine", some "go")) fd := F.dd 4 _ rfl
theorem dd_Machine_turn {G : Gm} (F : FZ G) : ∃ fd, FunD G.K "turn" "Machine.turn" (defArgs st_Machine_turn) (defBody st_Machine_turn) (defScope st_Machine_turn) [] [] (He.fAd G.K ("Machine", some "turn")) fd := F.dd 5 _ rfl
theorem dd_Machine_step {G : Gm} (F : FZ G) : ∃ fd, FunD G.K "step" "Machine.step" (defArgs st_Machine_step) (defBody st_Machine_step) (defScope st_Machine_step) [] [] (He.fAd G.K ("Machine", some "step")) fd := F.dd 6 _ rfl
theorem dd_Machine_operate {G : Gm} (F : FZ G) : ∃ fd, FunD G.K "operate" "Machine.operate" (defArgs st_Machine_operate) (defBody st_Machine_operate) (defScope st_Machine_operate) [] [] (He.fAd G.K ("Machine", some "operate")) fd := F.dd 7 _ rfl
theorem dd_Machine_call {G : Gm} (F : FZ G) : ∃ fd, FunD G.K "call" "Machine.call" (defArgs st_Machine_call) (defBody st_Machine_call) (defScope st_Machine_call) [] [] (He.fAd G.K ("Machine", some "call")) fd := F.dd 8 _ rfl
theorem dd_shown_machine {G : Gm} (F : FZ G) : ∃ fd, FunD G.K "shown" "shown" (defArgs st_shown_machine) (defBody st_shown_machine) (defScope st_shown_machine) [] [] (He.fAd G.K ("shown_machine", none)) fd := F.dd 9 _ rfl
theorem dd_target {G : Gm} (F : FZ G) : ∃ fd, FunD G.K "target" "target" (defArgs st_target) (defBody st_target) (defScope st_target) [] [] (He.fAd G.K ("target", none)) fd := F.dd 10 _ rfl
theorem dd_run_code {G : Gm} (F : FZ G) : ∃ fd, FunD G.K "run_code" "run_code" (defArgs st_run_code) (defBody st_run_code) (defScope st_run_code) [] [] (He.fAd G.K ("run_code", none)) fd := F.dd 11 _ rfl
theorem dd_Numbering_init {G : Gm} (F : FZ G) : ∃ fd, FunD G.K "__init__" "Numbering.__init__" (defArgs st_Numbering_init) (defBody st_Numbering_init) (defScope st_Numbering_init) [] [] (He.fAd G.K ("Numbering", some "__init__")) fd := F.dd 12 _ rfl
theorem dd_Numbering_expression {G : Gm} (F : FZ G) : ∃ fd, FunD G.K "expression" "Numbering.expression" (defArgs st_Numbering_expression) (defBody st_Numbering_expression) (defScope st_Numbering_expression) [] [] (He.fAd G.K ("Numbering", some "expression")) fd := F.dd 13 _ rfl
theorem dd_About_init {G : Gm} (F : FZ G) : ∃ fd, FunD G.K "__init__" "About.__init__" (defArgs st_About_init) (defBody st_About_init) (defScope st_About_init) [] [] (He.fAd G.K ("About", some "__init__")) fd := F.dd 14 _ rfl
theorem dd_Collapser_init {G : Gm} (F : FZ G) : ∃ fd, FunD G.K "__init__" "Collapser.__init__" (defArgs st_Collapser_init) (defBody st_Collapser_init) (defScope st_Collapser_init) [] [] (He.fAd G.K ("Collapser", some "__init__")) fd := F.dd 15 _ rfl
theorem dd_Collapser_fresh {G : Gm} (F : FZ G) : ∃ fd, FunD G.K "fresh" "Collapser.fresh" (defArgs st_Collapser_fresh) (defBody st_Collapser_fresh) (defScope st_Collapser_fresh) [] [] (He.fAd G.K ("Collapser", some "fresh")) fd := F.dd 16 _ rfl
theorem dd_Collapser_node {G : Gm} (F : FZ G) : ∃ fd, FunD G.K "node" "Collapser.node" (defArgs st_Collapser_node) (defBody st_Collapser_node) (defScope st_Collapser_node) [] [] (He.fAd G.K ("Collapser", some "node")) fd := F.dd 17 _ rfl
theorem dd_Collapser_expression {G : Gm} (F : FZ G) : ∃ fd, FunD G.K "expression" "Collapser.expression" (defArgs st_Collapser_expression) (defBody st_Collapser_expression) (defScope st_Collapser_expression) [] [] (He.fAd G.K ("Collapser", some "expression")) fd := F.dd 18 _ rfl
theorem dd_Collapser_built_in {G : Gm} (F : FZ G) : ∃ fd, FunD G.K "built_in" "Collapser.built_in" (defArgs st_Collapser_built_in) (defBody st_Collapser_built_in) (defScope st_Collapser_built_in) [] [] (He.fAd G.K ("Collapser", some "built_in")) fd := F.dd 19 _ rfl
theorem dd_Collapser_part {G : Gm} (F : FZ G) : ∃ fd, FunD G.K "part" "Collapser.part" (defArgs st_Collapser_part) (defBody st_Collapser_part) (defScope st_Collapser_part) [] [] (He.fAd G.K ("Collapser", some "part")) fd := F.dd 20 _ rfl
theorem dd_Collapser_parts {G : Gm} (F : FZ G) : ∃ fd, FunD G.K "parts" "Collapser.parts" (defArgs st_Collapser_parts) (defBody st_Collapser_parts) (defScope st_Collapser_parts) [] [] (He.fAd G.K ("Collapser", some "parts")) fd := F.dd 21 _ rfl
theorem dd_Collapser_usual {G : Gm} (F : FZ G) : ∃ fd, FunD G.K "usual" "Collapser.usual" (defArgs st_Collapser_usual) (defBody st_Collapser_usual) (defScope st_Collapser_usual) [] [] (He.fAd G.K ("Collapser", some "usual")) fd := F.dd 22 _ rfl
theorem dd_Collapser_other {G : Gm} (F : FZ G) : ∃ fd, FunD G.K "other" "Collapser.other" (defArgs st_Collapser_other) (defBody st_Collapser_other) (defScope st_Collapser_other) [] [] (He.fAd G.K ("Collapser", some "other")) fd := F.dd 23 _ rfl
theorem dd_number_of {G : Gm} (F : FZ G) : ∃ fd, FunD G.K "number_of" "number_of" (defArgs st_number_of) (defBody st_number_of) (defScope st_number_of) [] [] (He.fAd G.K ("number_of", none)) fd := F.dd 24 _ rfl
theorem dd_switch_of {G : Gm} (F : FZ G) : ∃ fd, FunD G.K "switch_of" "switch_of" (defArgs st_switch_of) (defBody st_switch_of) (defScope st_switch_of) [] [] (He.fAd G.K ("switch_of", none)) fd := F.dd 25 _ rfl
theorem dd_with_name_collapsing {G : Gm} (F : FZ G) : ∃ fd, FunD G.K "with_name" "with_name" (defArgs st_with_name_collapsing) (defBody st_with_name_collapsing) (defScope st_with_name_collapsing) [] [] (He.fAd G.K ("with_name_collapsing", none)) fd := F.dd 26 _ rfl
theorem dd_collapse {G : Gm} (F : FZ G) : ∃ fd, FunD G.K "collapse" "collapse" (defArgs st_collapse) (defBody st_collapse) (defScope st_collapse) [] [] (He.fAd G.K ("collapse", none)) fd := F.dd 27 _ rfl
theorem dd_inner {G : Gm} (F : FZ G) : ∃ fd, FunD G.K "inner" "inner" (defArgs st_inner) (defBody st_inner) (defScope st_inner) [] [] (He.fAd G.K ("inner", none)) fd := F.dd 28 _ rfl
theorem dd_shown_plain {G : Gm} (F : FZ G) : ∃ fd, FunD G.K "shown" "shown" (defArgs st_shown_plain) (defBody st_shown_plain) (defScope st_shown_plain) [] [] (He.fAd G.K ("shown_plain", none)) fd := F.dd 29 _ rfl
theorem dd_Link_init {G : Gm} (F : FZ G) : ∃ fd, FunD G.K "__init__" "Link.__init__" (defArgs st_Link_init) (defBody st_Link_init) (defScope st_Link_init) [] [] (He.fAd G.K ("Link", some "__init__")) fd := F.dd 30 _ rfl
theorem dd_find {G : Gm} (F : FZ G) : ∃ fd, FunD G.K "find" "find" (defArgs st_find) (defBody st_find) (defScope st_find) [] [] (He.fAd G.K ("find", none)) fd := F.dd 31 _ rfl
theorem dd_PlainRun_init {G : Gm} (F : FZ G) : ∃ fd, FunD G.K "__init__" "PlainRun.__init__" (defArgs st_PlainRun_init) (defBody st_PlainRun_init) (defScope st_PlainRun_init) [] [] (He.fAd G.K ("PlainRun", some "__init__")) fd := F.dd 32 _ rfl
theorem dd_PlainRun_run {G : Gm} (F : FZ G) : ∃ fd, FunD G.K "run" "PlainRun.run" (defArgs st_PlainRun_run) (defBody st_PlainRun_run) (defScope st_PlainRun_run) [] [] (He.fAd G.K ("PlainRun", some "run")) fd := F.dd 33 _ rfl
theorem dd_PlainRun_go {G : Gm} (F : FZ G) : ∃ fd, FunD G.K "go" "PlainRun.go" (defArgs st_PlainRun_go) (defBody st_PlainRun_go) (defScope st_PlainRun_go) [] [] (He.fAd G.K ("PlainRun", some "go")) fd := F.dd 34 _ rfl
theorem dd_PlainRun_wait {G : Gm} (F : FZ G) : ∃ fd, FunD G.K "wait" "PlainRun.wait" (defArgs st_PlainRun_wait) (defBody st_PlainRun_wait) (defScope st_PlainRun_wait) [] [] (He.fAd G.K ("PlainRun", some "wait")) fd := F.dd 35 _ rfl
theorem dd_PlainRun_step {G : Gm} (F : FZ G) : ∃ fd, FunD G.K "step" "PlainRun.step" (defArgs st_PlainRun_step) (defBody st_PlainRun_step) (defScope st_PlainRun_step) [] [] (He.fAd G.K ("PlainRun", some "step")) fd := F.dd 36 _ rfl
theorem dd_PlainRun_stick {G : Gm} (F : FZ G) : ∃ fd, FunD G.K "stick" "PlainRun.stick" (defArgs st_PlainRun_stick) (defBody st_PlainRun_stick) (defScope st_PlainRun_stick) [] [] (He.fAd G.K ("PlainRun", some "stick")) fd := F.dd 37 _ rfl
theorem dd_PlainRun_begin {G : Gm} (F : FZ G) : ∃ fd, FunD G.K "begin" "PlainRun.begin" (defArgs st_PlainRun_begin) (defBody st_PlainRun_begin) (defScope st_PlainRun_begin) [] [] (He.fAd G.K ("PlainRun", some "begin")) fd := F.dd 38 _ rfl
theorem dd_PlainRun_pass_through {G : Gm} (F : FZ G) : ∃ fd, FunD G.K "pass_through" "PlainRun.pass_through" (defArgs st_PlainRun_pass_through) (defBody st_PlainRun_pass_through) (defScope st_PlainRun_pass_through) [] [] (He.fAd G.K ("PlainRun", some "pass_through")) fd := F.dd 39 _ rfl
theorem dd_PlainRun_resume {G : Gm} (F : FZ G) : ∃ fd, FunD G.K "resume" "PlainRun.resume" (defArgs st_PlainRun_resume) (defBody st_PlainRun_resume) (defScope st_PlainRun_resume) [] [] (He.fAd G.K ("PlainRun", some "resume")) fd := F.dd 40 _ rfl
theorem dd_PlainRun_decide {G : Gm} (F : FZ G) : ∃ fd, FunD G.K "decide" "PlainRun.decide" (defArgs st_PlainRun_decide) (defBody st_PlainRun_decide) (defScope st_PlainRun_decide) [] [] (He.fAd G.K ("PlainRun", some "decide")) fd := F.dd 41 _ rfl
theorem dd_PlainRun_operate {G : Gm} (F : FZ G) : ∃ fd, FunD G.K "operate" "PlainRun.operate" (defArgs st_PlainRun_operate) (defBody st_PlainRun_operate) (defScope st_PlainRun_operate) [] [] (He.fAd G.K ("PlainRun", some "operate")) fd := F.dd 42 _ rfl
theorem dd_PlainRun_enter {G : Gm} (F : FZ G) : ∃ fd, FunD G.K "enter" "PlainRun.enter" (defArgs st_PlainRun_enter) (defBody st_PlainRun_enter) (defScope st_PlainRun_enter) [] [] (He.fAd G.K ("PlainRun", some "enter")) fd := F.dd 43 _ rfl
theorem dd_with_name_plain {G : Gm} (F : FZ G) : ∃ fd, FunD G.K "with_name" "with_name" (defArgs st_with_name_plain) (defBody st_with_name_plain) (defScope st_with_name_plain) [] [] (He.fAd G.K ("with_name_plain", none)) fd := F.dd 44 _ rfl
theorem dd_chosen {G : Gm} (F : FZ G) : ∃ fd, FunD G.K "chosen" "chosen" (defArgs st_chosen) (defBody st_chosen) (defScope st_chosen) [] [] (He.fAd G.K ("chosen", none)) fd := F.dd 45 _ rfl
theorem dd_run_plain {G : Gm} (F : FZ G) : ∃ fd, FunD G.K "run_plain" "run_plain" (defArgs st_run_plain) (defBody st_run_plain) (defScope st_run_plain) [] [] (He.fAd G.K ("run_plain", none)) fd := F.dd 46 _ rfl
theorem dd_bound {G : Gm} (F : FZ G) : ∃ fd, FunD G.K "bound" "bound" (defArgs st_bound) (defBody st_bound) (defScope st_bound) [] [] (He.fAd G.K ("bound", none)) fd := F.dd 47 _ rfl
theorem dd_Layout_init {G : Gm} (F : FZ G) : ∃ fd, FunD G.K "__init__" "Layout.__init__" (defArgs st_Layout_init) (defBody st_Layout_init) (defScope st_Layout_init) [] [] (He.fAd G.K ("Layout", some "__init__")) fd := F.dd 48 _ rfl
theorem dd_Layout_number {G : Gm} (F : FZ G) : ∃ fd, FunD G.K "number" "Layout.number" (defArgs st_Layout_number) (defBody st_Layout_number) (defScope st_Layout_number) [] [] (He.fAd G.K ("Layout", some "number")) fd := F.dd 49 _ rfl
theorem dd_Layout_place {G : Gm} (F : FZ G) : ∃ fd, FunD G.K "place" "Layout.place" (defArgs st_Layout_place) (defBody st_Layout_place) (defScope st_Layout_place) [] [] (He.fAd G.K ("Layout", some "place")) fd := F.dd 50 _ rfl
theorem dd_Layout_find_free {G : Gm} (F : FZ G) : ∃ fd, FunD G.K "find_free" "Layout.find_free" (defArgs st_Layout_find_free) (defBody st_Layout_find_free) (defScope st_Layout_find_free) [] [] (He.fAd G.K ("Layout", some "find_free")) fd := F.dd 51 _ rfl
theorem dd_Block_init {G : Gm} (F : FZ G) : ∃ fd, FunD G.K "__init__" "Block.__init__" (defArgs st_Block_init) (defBody st_Block_init) (defScope st_Block_init) [] [] (He.fAd G.K ("Block", some "__init__")) fd := F.dd 52 _ rfl
theorem dd_Block_label {G : Gm} (F : FZ G) : ∃ fd, FunD G.K "label" "Block.label" (defArgs st_Block_label) (defBody st_Block_label) (defScope st_Block_label) [] [] (He.fAd G.K ("Block", some "label")) fd := F.dd 53 _ rfl
theorem dd_Block_slot {G : Gm} (F : FZ G) : ∃ fd, FunD G.K "slot" "Block.slot" (defArgs st_Block_slot) (defBody st_Block_slot) (defScope st_Block_slot) [] [] (He.fAd G.K ("Block", some "slot")) fd := F.dd 54 _ rfl
theorem dd_Block_fill {G : Gm} (F : FZ G) : ∃ fd, FunD G.K "fill" "Block.fill" (defArgs st_Block_fill) (defBody st_Block_fill) (defScope st_Block_fill) [] [] (He.fAd G.K ("Block", some "fill")) fd := F.dd 55 _ rfl
theorem dd_Block_tasks {G : Gm} (F : FZ G) : ∃ fd, FunD G.K "tasks" "Block.tasks" (defArgs st_Block_tasks) (defBody st_Block_tasks) (defScope st_Block_tasks) [] [] (He.fAd G.K ("Block", some "tasks")) fd := F.dd 56 _ rfl
theorem dd_Block_captured {G : Gm} (F : FZ G) : ∃ fd, FunD G.K "captured" "Block.captured" (defArgs st_Block_captured) (defBody st_Block_captured) (defScope st_Block_captured) [] [] (He.fAd G.K ("Block", some "captured")) fd := F.dd 57 _ rfl
theorem dd_Block_binding {G : Gm} (F : FZ G) : ∃ fd, FunD G.K "binding" "Block.binding" (defArgs st_Block_binding) (defBody st_Block_binding) (defScope st_Block_binding) [] [] (He.fAd G.K ("Block", some "binding")) fd := F.dd 58 _ rfl
theorem dd_Block_branching {G : Gm} (F : FZ G) : ∃ fd, FunD G.K "branching" "Block.branching" (defArgs st_Block_branching) (defBody st_Block_branching) (defScope st_Block_branching) [] [] (He.fAd G.K ("Block", some "branching")) fd := F.dd 59 _ rfl
theorem dd_Block_made {G : Gm} (F : FZ G) : ∃ fd, FunD G.K "made" "Block.made" (defArgs st_Block_made) (defBody st_Block_made) (defScope st_Block_made) [] [] (He.fAd G.K ("Block", some "made")) fd := F.dd 60 _ rfl
theorem dd_Block_linked {G : Gm} (F : FZ G) : ∃ fd, FunD G.K "linked" "Block.linked" (defArgs st_Block_linked) (defBody st_Block_linked) (defScope st_Block_linked) [] [] (He.fAd G.K ("Block", some "linked")) fd := F.dd 61 _ rfl
theorem dd_Compiler_init {G : Gm} (F : FZ G) : ∃ fd, FunD G.K "__init__" "Compiler.__init__" (defArgs st_Compiler_init) (defBody st_Compiler_init) (defScope st_Compiler_init) [] [] (He.fAd G.K ("Compiler", some "__init__")) fd := F.dd 62 _ rfl
theorem dd_Compiler_add {G : Gm} (F : FZ G) : ∃ fd, FunD G.K "add" "Compiler.add" (defArgs st_Compiler_add) (defBody st_Compiler_add) (defScope st_Compiler_add) [] [] (He.fAd G.K ("Compiler", some "add")) fd := F.dd 63 _ rfl
theorem dd_compile_plain {G : Gm} (F : FZ G) : ∃ fd, FunD G.K "compile_plain" "compile_plain" (defArgs st_compile_plain) (defBody st_compile_plain) (defScope st_compile_plain) [] [] (He.fAd G.K ("compile_plain", none)) fd := F.dd 64 _ rfl
theorem dd_parts_of {G : Gm} (F : FZ G) : ∃ fd, FunD G.K "parts_of" "parts_of" (defArgs st_parts_of) (defBody st_parts_of) (defScope st_parts_of) [] [] (He.fAd G.K ("parts_of", none)) fd := F.dd 65 _ rfl
theorem dd_shown_tower {G : Gm} (F : FZ G) : ∃ fd, FunD G.K "shown" "shown" (defArgs st_shown_tower) (defBody st_shown_tower) (defScope st_shown_tower) [] [] (He.fAd G.K ("shown_tower", none)) fd := F.dd 66 _ rfl
theorem dd_Setting_init {G : Gm} (F : FZ G) : ∃ fd, FunD G.K "__init__" "Setting.__init__" (defArgs st_Setting_init) (defBody st_Setting_init) (defScope st_Setting_init) [] [] (He.fAd G.K ("Setting", some "__init__")) fd := F.dd 67 _ rfl
theorem dd_Setting_with_name {G : Gm} (F : FZ G) : ∃ fd, FunD G.K "with_name" "Setting.with_name" (defArgs st_Setting_with_name) (defBody st_Setting_with_name) (defScope st_Setting_with_name) [] [] (He.fAd G.K ("Setting", some "with_name")) fd := F.dd 68 _ rfl
theorem dd_Tower_init {G : Gm} (F : FZ G) : ∃ fd, FunD G.K "__init__" "Tower.__init__" (defArgs st_Tower_init) (defBody st_Tower_init) (defScope st_Tower_init) [] [] (He.fAd G.K ("Tower", some "__init__")) fd := F.dd 69 _ rfl
theorem dd_Tower_run {G : Gm} (F : FZ G) : ∃ fd, FunD G.K "run" "Tower.run" (defArgs st_Tower_run) (defBody st_Tower_run) (defScope st_Tower_run) [] [] (He.fAd G.K ("Tower", some "run")) fd := F.dd 70 _ rfl
theorem dd_Tower_go {G : Gm} (F : FZ G) : ∃ fd, FunD G.K "go" "Tower.go" (defArgs st_Tower_go) (defBody st_Tower_go) (defScope st_Tower_go) [] [] (He.fAd G.K ("Tower", some "go")) fd := F.dd 71 _ rfl
theorem dd_Tower_go_built_in {G : Gm} (F : FZ G) : ∃ fd, FunD G.K "go_built_in" "Tower.go_built_in" (defArgs st_Tower_go_built_in) (defBody st_Tower_go_built_in) (defScope st_Tower_go_built_in) [] [] (He.fAd G.K ("Tower", some "go_built_in")) fd := F.dd 72 _ rfl
theorem dd_Tower_step {G : Gm} (F : FZ G) : ∃ fd, FunD G.K "step" "Tower.step" (defArgs st_Tower_step) (defBody st_Tower_step) (defScope st_Tower_step) [] [] (He.fAd G.K ("Tower", some "step")) fd := F.dd 73 _ rfl
theorem dd_Tower_stick {G : Gm} (F : FZ G) : ∃ fd, FunD G.K "stick" "Tower.stick" (defArgs st_Tower_stick) (defBody st_Tower_stick) (defScope st_Tower_stick) [] [] (He.fAd G.K ("Tower", some "stick")) fd := F.dd 74 _ rfl
theorem dd_Tower_begin {G : Gm} (F : FZ G) : ∃ fd, FunD G.K "begin" "Tower.begin" (defArgs st_Tower_begin) (defBody st_Tower_begin) (defScope st_Tower_begin) [] [] (He.fAd G.K ("Tower", some "begin")) fd := F.dd 75 _ rfl
theorem dd_Tower_change_or_ask {G : Gm} (F : FZ G) : ∃ fd, FunD G.K "change_or_ask" "Tower.change_or_ask" (defArgs st_Tower_change_or_ask) (defBody st_Tower_change_or_ask) (defScope st_Tower_change_or_ask) [] [] (He.fAd G.K ("Tower", some "change_or_ask")) fd := F.dd 76 _ rfl
theorem dd_Tower_resume {G : Gm} (F : FZ G) : ∃ fd, FunD G.K "resume" "Tower.resume" (defArgs st_Tower_resume) (defBody st_Tower_resume) (defScope st_Tower_resume) [] [] (He.fAd G.K ("Tower", some "resume")) fd := F.dd 77 _ rfl
theorem dd_Tower_put_back {G : Gm} (F : FZ G) : ∃ fd, FunD G.K "put_back" "Tower.put_back" (defArgs st_Tower_put_back) (defBody st_Tower_put_back) (defScope st_Tower_put_back) [] [] (He.fAd G.K ("Tower", some "put_back")) fd := F.dd 78 _ rfl
theorem dd_Tower_bind_let {G : Gm} (F : FZ G) : ∃ fd, FunD G.K "bind_let" "Tower.bind_let" (defArgs st_Tower_bind_let) (defBody st_Tower_bind_let) (defScope st_Tower_bind_let) [] [] (He.fAd G.K ("Tower", some "bind_let")) fd := F.dd 79 _ rfl
theorem dd_Tower_gathered {G : Gm} (F : FZ G) : ∃ fd, FunD G.K "gathered" "Tower.gathered" (defArgs st_Tower_gathered) (defBody st_Tower_gathered) (defScope st_Tower_gathered) [] [] (He.fAd G.K ("Tower", some "gathered")) fd := F.dd 80 _ rfl
theorem dd_Tower_decide {G : Gm} (F : FZ G) : ∃ fd, FunD G.K "decide" "Tower.decide" (defArgs st_Tower_decide) (defBody st_Tower_decide) (defScope st_Tower_decide) [] [] (He.fAd G.K ("Tower", some "decide")) fd := F.dd 81 _ rfl
theorem dd_Tower_operate {G : Gm} (F : FZ G) : ∃ fd, FunD G.K "operate" "Tower.operate" (defArgs st_Tower_operate) (defBody st_Tower_operate) (defScope st_Tower_operate) [] [] (He.fAd G.K ("Tower", some "operate")) fd := F.dd 82 _ rfl
theorem dd_Tower_enter {G : Gm} (F : FZ G) : ∃ fd, FunD G.K "enter" "Tower.enter" (defArgs st_Tower_enter) (defBody st_Tower_enter) (defScope st_Tower_enter) [] [] (He.fAd G.K ("Tower", some "enter")) fd := F.dd 83 _ rfl
theorem dd_run {G : Gm} (F : FZ G) : ∃ fd, FunD G.K "run" "run" (defArgs st_run) (defBody st_run) (defScope st_run) [] [] (He.fAd G.K ("run", none)) fd := F.dd 84 _ rfl
theorem dd__law_start {G : Gm} (F : FZ G) : ∃ fd, FunD G.K "_law_start" "_law_start" (defArgs st__law_start) (defBody st__law_start) (defScope st__law_start) [] [] (He.fAd G.K ("_law_start", none)) fd := F.dd 85 _ rfl
theorem dd__law_fill {G : Gm} (F : FZ G) : ∃ fd, FunD G.K "_law_fill" "_law_fill" (defArgs st__law_fill) (defBody st__law_fill) (defScope st__law_fill) [] [] (He.fAd G.K ("_law_fill", none)) fd := F.dd 86 _ rfl
theorem dd__law_take {G : Gm} (F : FZ G) : ∃ fd, FunD G.K "_law_take" "_law_take" (defArgs st__law_take) (defBody st__law_take) (defScope st__law_take) [] [] (He.fAd G.K ("_law_take", none)) fd := F.dd 87 _ rfl
theorem dd__law_turn {G : Gm} (F : FZ G) : ∃ fd, FunD G.K "_law_turn" "_law_turn" (defArgs st__law_turn) (defBody st__law_turn) (defScope st__law_turn) [] [] (He.fAd G.K ("_law_turn", none)) fd := F.dd 88 _ rfl
theorem dd__law_started {G : Gm} (F : FZ G) : ∃ fd, FunD G.K "_law_started" "_law_started" (defArgs st__law_started) (defBody st__law_started) (defScope st__law_started) [] [] (He.fAd G.K ("_law_started", none)) fd := F.dd 89 _ rfl
theorem dd__law_doubled {G : Gm} (F : FZ G) : ∃ fd, FunD G.K "_law_doubled" "_law_doubled" (defArgs st__law_doubled) (defBody st__law_doubled) (defScope st__law_doubled) [] [] (He.fAd G.K ("_law_doubled", none)) fd := F.dd 90 _ rfl
theorem dd__law_counted {G : Gm} (F : FZ G) : ∃ fd, FunD G.K "_law_counted" "_law_counted" (defArgs st__law_counted) (defBody st__law_counted) (defScope st__law_counted) [] [] (He.fAd G.K ("_law_counted", none)) fd := F.dd 91 _ rfl
theorem dd_law {G : Gm} (F : FZ G) : ∃ fd, FunD G.K "law" "law" (defArgs st_law) (defBody st_law) (defScope st_law) [] [] (He.fAd G.K ("law", none)) fd := F.dd 92 _ rfl
theorem sc_Frame_init : FnScope ["self", "block", "given"] ["self", "block", "given"] (defScope st_Frame_init) := ⟨rfl, rfl, rfl, by decide +kernel, rfl, by decide +kernel, by decide +kernel⟩
theorem fo_Frame_init {G : Gm} (F : FZ G) : Fo G 1 (He.fAd G.K ("Frame", some "__init__")) ["self", "block", "given"] m_Frame_init := fo_of (dd_Frame_init F) sc_Frame_init rfl rfl (fun _ _ _ _ _ _ us hl => match us, hl with | [_, _, _], _ => rfl) fun cdv A outer s H E C =>
  (z_cons (z_setF C (F.cl 0 (by decide)) (re_var (i := 0)) (r_ix C (re_var (i := 1)) re_int))
    (z_cons (z_setF C (F.cl 0 (by decide)) (re_var (i := 0)) (r_catL (r_list C (F.free 3 _ rfl) (a_cons (re_var (i := 2)) a_nil)) (r_rep (re_lst (a_cons re_non a_nil)) (r_sub (r_ix C (re_var (i := 1)) re_int) (r_len C (F.free 0 _ rfl) (a_cons (re_var (i := 2)) a_nil))))))
    (z_one (z_setF C (F.cl 0 (by decide)) (re_var (i := 0)) re_int))))
theorem sc_Machine_init : FnScope ["self", "code", "fuel"] ["self", "code", "fuel"] (defScope st_Machine_init) := ⟨rfl, rfl, rfl, by decide +kernel, rfl, by decide +kernel, by decide +kernel⟩
theorem fo_Machine_init {G : Gm} (F : FZ G) : Fo G 3 (He.fAd G.K ("Machine", some "__init__")) ["self", "code", "fuel"] m_Machine_init := fo_of (dd_Machine_init F) sc_Machine_init rfl rfl (fun _ _ _ _ _ _ us hl => match us, hl with | [_, _, _], _ => rfl) fun cdv A outer s H E C =>
  (z_cons (z_setF C (F.cl 1 (by decide)) (re_var (i := 0)) (re_var (i := 1)))
    (z_cons (z_setF C (F.cl 1 (by decide)) (re_var (i := 0)) (re_var (i := 2)))
    (z_cons (z_setF C (F.cl 1 (by decide)) (re_var (i := 0)) (re_lst a_nil))
    (z_cons (z_setF C (F.cl 1 (by decide)) (re_var (i := 0)) (re_lst (a_cons (r_make C (fo_Frame_init F) (F.mkr 0 _ rfl) (F.cg 0 _ rfl) (a_cons (r_ix C (re_var (i := 1)) re_int) (a_cons (re_tup a_nil) a_nil))) a_nil)))
    (z_cons (z_setF C (F.cl 1 (by decide)) (re_var (i := 0)) re_dictK)
    (z_cons (z_setF C (F.cl 1 (by decide)) (re_var (i := 0)) (re_lst a_nil))
    (z_one (z_setF C (F.cl 1 (by decide)) (re_var (i := 0)) re_non))))))))
theorem sc_target : FnScope ["instruction", "number", "other", "at"] ["instruction", "number"] (defScope st_target) := ⟨rfl, rfl, rfl, by decide +kernel, rfl, by decide +kernel, by decide +kernel⟩
theorem fo_target {G : Gm} (F : FZ G) : Fo G 1 (He.fAd G.K ("target", none)) ["instruction", "number"] m_target := fo_of (dd_target F) sc_target rfl rfl (fun _ _ _ _ _ _ us hl => match us, hl with | [_, _], _ => rfl) fun cdv A outer s H E C =>
  (z_cons (z_forT C (r_ix C (re_var (i := 0)) re_int) (g_tup C (gs_cons C (gs_cons C gs_nil))) (z_one (z_if (v_eq (re_var (i := 2)) (re_var (i := 1))) (z_one (z_ret (re_var (i := 3)))) z_nil)))
    (z_one (z_ret (r_ix C (re_var (i := 0)) re_int))))
theorem sc_Machine_go : FnScope ["self", "frame", "instruction", "value"] ["self", "frame", "instruction"] (defScope st_Machine_go) := ⟨rfl, rfl, rfl, by decide +kernel, rfl, by decide +kernel, by decide +kernel⟩
theorem fo_Machine_go {G : Gm} (F : FZ G) : Fo G 2 (He.fAd G.K ("Machine", some "go")) ["self", "frame", "instruction"] m_Machine_go := fo_of (dd_Machine_go F) sc_Machine_go rfl rfl (fun _ _ _ _ _ _ us hl => match us, hl with | [_, _, _], _ => rfl) fun cdv A outer s H E C =>
  (z_one (z_if (v_eq (r_ix C (re_var (i := 2)) re_int) (re_str s_224229104)) (z_one (z_setF C (F.cl 0 (by decide)) (re_var (i := 1)) (r_ix C (re_var (i := 2)) re_int))) (z_one (z_if (v_eq (r_ix C (re_var (i := 2)) re_int) (re_str s_3983535845864)) (z_one (z_setF C (F.cl 0 (by decide)) (re_var (i := 1)) (r_call C (fo_target F) (F.glo 1 _ rfl) (a_cons (re_var (i := 2)) (a_cons (r_get2 C (r_fld C (F.cl 1 (by decide)) (re_var (i := 0))) (r_ix C (re_var (i := 2)) re_int) re_int) a_nil))))) (z_cons (z_set C (r_pop C (r_fld C (F.cl 1 (by decide)) (re_var (i := 0)))))
    (z_one (z_if (v_not (v_val (r_isInt C (F.free 7 _ rfl) (F.free 1 _ rfl) (re_var (i := 3))))) (z_one (z_setF C (F.cl 1 (by decide)) (re_var (i := 0)) (re_tup (a_cons (re_str s_31115276779) (a_cons (r_ix C (re_var (i := 2)) re_int) a_nil))))) (z_one (z_if (v_eq (re_var (i := 3)) re_int) (z_one (z_setF C (F.cl 0 (by decide)) (re_var (i := 1)) (r_ix C (re_var (i := 2)) re_int))) z_nil)))))))))
theorem sc_Machine_step : FnScope ["self"] ["self"] (defScope st_Machine_step) := ⟨rfl, rfl, rfl, by decide +kernel, rfl, by decide +kernel, by decide +kernel⟩
theorem fo_Machine_step {G : Gm} (F : FZ G) : Fo G 1 (He.fAd G.K ("Machine", some "step")) ["self"] m_Machine_step := fo_of (dd_Machine_step F) sc_Machine_step rfl rfl (fun _ _ _ _ _ _ us hl => match us, hl with | [_], _ => rfl) fun cdv A outer s H E C =>
  (z_cons (z_if (v_eq (r_fld C (F.cl 1 (by decide)) (re_var (i := 0))) re_int) (z_cons (z_setF C (F.cl 1 (by decide)) (re_var (i := 0)) (re_tup (a_cons (re_str s_230422885) a_nil)))
    (z_one (z_ret re_bl))) z_nil)
    (z_cons (z_subF C (F.cl 1 (by decide)) (re_var (i := 0)) re_int)
    (z_one (z_ret re_bl))))
theorem sc_Machine_call : FnScope ["self", "level", "function", "argument", "_", "block", "given"] ["self", "level", "function", "argument"] (defScope st_Machine_call) := ⟨rfl, rfl, rfl, by decide +kernel, rfl, by decide +kernel, by decide +kernel⟩
theorem fo_Machine_call {G : Gm} (F : FZ G) : Fo G 3 (He.fAd G.K ("Machine", some "call")) ["self", "level", "function", "argument"] m_Machine_call := fo_of (dd_Machine_call F) sc_Machine_call rfl rfl (fun _ _ _ _ _ _ us hl => match us, hl with | [_, _, _, _], _ => rfl) fun cdv A outer s H E C =>
  (z_one (z_if (w_or (v_val (r_isInt C (F.free 7 _ rfl) (F.free 1 _ rfl) (re_var (i := 2)))) (w_or1 (v_ne (r_ix C (re_var (i := 2)) re_int) (re_var (i := 1))))).pt (z_one (z_setF C (F.cl 1 (by decide)) (re_var (i := 0)) (re_tup (a_cons (re_str s_31115276779) (a_cons (re_var (i := 1)) a_nil))))) (z_one (z_if (v_val (r_meth0 C (fo_Machine_step F) (F.cl 1 (by decide)) (F.mt 4 _ _ _ rfl) (re_var (i := 0)))) (z_cons (z_unp C (re_var (i := 2)) (gs_cons C (gs_cons C (gs_cons C (gs_cons C gs_nil)))))
    (z_one (z_expr (r_append C (r_fld C (F.cl 1 (by decide)) (re_var (i := 0))) (a_cons (r_make C (fo_Frame_init F) (F.mkr 0 _ rfl) (F.cg 0 _ rfl) (a_cons (r_ix C (r_fld C (F.cl 1 (by decide)) (re_var (i := 0))) (re_var (i := 5))) (a_cons (r_catT C (re_var (i := 6)) (re_tup (a_cons (re_var (i := 3)) a_nil))) a_nil))) a_nil))))) z_nil))))
theorem sc_shown_machine : FnScope ["value"] ["value"] (defScope st_shown_machine) := ⟨rfl, rfl, rfl, by decide +kernel, rfl, by decide +kernel, by decide +kernel⟩
theorem fo_shown_machine {G : Gm} (F : FZ G) : Fo G 1 (He.fAd G.K ("shown_machine", none)) ["value"] m_shown_machine := fo_of (dd_shown_machine F) sc_shown_machine rfl rfl (fun _ _ _ _ _ _ us hl => match us, hl with | [_], _ => rfl) fun cdv A outer s H E C =>
  (z_one (z_ret (r_ifE (v_val (r_isInt C (F.free 7 _ rfl) (F.free 1 _ rfl) (re_var (i := 0)))) (re_var (i := 0)) (re_tup (a_cons (re_str s_13166) (a_cons (r_ix C (re_var (i := 0)) re_int) a_nil))))))
theorem sc_Machine_operate : FnScope ["self", "instruction", "kind", "second", "first"] ["self", "instruction"] (defScope st_Machine_operate) := ⟨rfl, rfl, rfl, by decide +kernel, rfl, by decide +kernel, by decide +kernel⟩
theorem fo_Machine_operate {G : Gm} (F : FZ G) : Fo G 4 (He.fAd G.K ("Machine", some "operate")) ["self", "instruction"] m_Machine_operate := fo_of (dd_Machine_operate F) sc_Machine_operate rfl rfl (fun _ _ _ _ _ _ us hl => match us, hl with | [_, _], _ => rfl) fun cdv A outer s H E C =>
  (z_cons (z_set C (r_ix C (re_var (i := 1)) re_int))
    (z_one (z_if (v_eq (re_var (i := 2)) (re_str s_245002731)) (z_one (z_expr (r_meth0 C (fo_Machine_step F) (F.cl 1 (by decide)) (F.mt 4 _ _ _ rfl) (re_var (i := 0))))) (z_one (z_if (v_eq (re_var (i := 2)) (re_str s_1896697)) (z_one (z_expr (r_append C (r_fld C (F.cl 1 (by decide)) (re_var (i := 0))) (a_cons (re_tup (a_cons (r_ix C (re_var (i := 1)) re_int) (a_cons (r_call C (fo_shown_machine F) (F.glo 0 _ rfl) (a_cons (r_ix C (r_fld C (F.cl 1 (by decide)) (re_var (i := 0))) re_neg) a_nil)) a_nil))) a_nil)))) (z_one (z_if (v_eq (re_var (i := 2)) (re_str s_3944367356270)) (z_cons (z_expr (r_pop C (r_fld C (F.cl 1 (by decide)) (re_var (i := 0)))))
    (z_one (z_if (v_not (v_tru C (r_fld C (F.cl 1 (by decide)) (re_var (i := 0))))) (z_one (z_setF C (F.cl 1 (by decide)) (re_var (i := 0)) (re_tup (a_cons (re_str s_31880592101) (a_cons (r_call C (fo_shown_machine F) (F.glo 0 _ rfl) (a_cons (r_ix C (r_fld C (F.cl 1 (by decide)) (re_var (i := 0))) re_neg) a_nil)) a_nil))))) z_nil))) (z_cons (z_set C (r_pop C (r_fld C (F.cl 1 (by decide)) (re_var (i := 0)))))
    (z_cons (z_set C (r_pop C (r_fld C (F.cl 1 (by decide)) (re_var (i := 0)))))
    (z_one (z_if (v_eq (re_var (i := 2)) (re_str s_209221228)) (z_one (z_expr (r_meth C (fo_Machine_call F) (F.cl 1 (by decide)) (F.mt 6 _ _ _ rfl) (re_var (i := 0)) (a_cons (r_ix C (re_var (i := 1)) re_int) (a_cons (re_var (i := 4)) (a_cons (re_var (i := 3)) a_nil)))))) (z_one (z_if (w_or (v_not (v_val (r_isInt C (F.free 7 _ rfl) (F.free 1 _ rfl) (re_var (i := 4))))) (w_or1 (v_not (v_val (r_isInt C (F.free 7 _ rfl) (F.free 1 _ rfl) (re_var (i := 3))))))).pt (z_one (z_setF C (F.cl 1 (by decide)) (re_var (i := 0)) (re_tup (a_cons (re_str s_31115276779) (a_cons (r_ix C (re_var (i := 1)) re_int) a_nil))))) (z_one (z_expr (r_append C (r_fld C (F.cl 1 (by decide)) (re_var (i := 0))) (a_cons (r_ifE (v_eq (re_var (i := 2)) (re_str s_1899245)) (r_add (re_var (i := 4)) (re_var (i := 3))) (r_int C (F.free 1 _ rfl) (a_cons (r_lt (re_var (i := 4)) (re_var (i := 3))) a_nil))) a_nil)))))))))))))))))
theorem sc_Machine_turn : FnScope ["self", "instruction", "number", "value"] ["self", "instruction"] (defScope st_Machine_turn) := ⟨rfl, rfl, rfl, by decide +kernel, rfl, by decide +kernel, by decide +kernel⟩
theorem fo_Machine_turn {G : Gm} (F : FZ G) : Fo G 1 (He.fAd G.K ("Machine", some "turn")) ["self", "instruction"] m_Machine_turn := fo_of (dd_Machine_turn F) sc_Machine_turn rfl rfl (fun _ _ _ _ _ _ us hl => match us, hl with | [_, _], _ => rfl) fun cdv A outer s H E C =>
  (z_cons (z_set C (r_ix C (re_var (i := 1)) re_int))
    (z_one (z_if (v_eq (r_ix C (re_var (i := 1)) re_int) (re_str s_29204446053)) (z_cons (z_set C (r_pop C (r_fld C (F.cl 1 (by decide)) (re_var (i := 0)))))
    (z_cons (z_dput C (r_fld C (F.cl 1 (by decide)) (re_var (i := 0))) (re_var (i := 2)) (r_pop C (r_fld C (F.cl 1 (by decide)) (re_var (i := 0)))))
    (z_one (z_expr (r_append C (r_fld C (F.cl 1 (by decide)) (re_var (i := 0))) (a_cons (re_var (i := 3)) a_nil)))))) (z_cons (z_expr (r_append C (r_fld C (F.cl 1 (by decide)) (re_var (i := 0))) (a_cons (r_ifE (v_eq (r_ix C (re_var (i := 1)) re_int) (re_str s_27344581362)) (r_get2 C (r_fld C (F.cl 1 (by decide)) (re_var (i := 0))) (re_var (i := 2)) re_int) re_int) a_nil)))
    (z_one (z_dput C (r_fld C (F.cl 1 (by decide)) (re_var (i := 0))) (re_var (i := 2)) (r_ix C (re_var (i := 1)) re_int)))))))
theorem sc_Machine_execute : FnScope ["self", "frame", "instruction", "kind", "given", "slot", "_", "block"] ["self", "frame", "instruction"] (defScope st_Machine_execute) := ⟨rfl, rfl, rfl, by decide +kernel, rfl, by decide +kernel, by decide +kernel⟩
theorem fo_Machine_execute {G : Gm} (F : FZ G) : Fo G 5 (He.fAd G.K ("Machine", some "execute")) ["self", "frame", "instruction"] m_Machine_execute := fo_of (dd_Machine_execute F) sc_Machine_execute rfl rfl (fun _ _ _ _ _ _ us hl => match us, hl with | [_, _, _], _ => rfl) fun cdv A outer s H E C =>
  (z_cons (z_set C (r_ix C (re_var (i := 2)) re_int))
    (z_one (z_if (v_eq (re_var (i := 3)) (re_str s_1734516)) (z_one (z_expr (r_append C (r_fld C (F.cl 1 (by decide)) (re_var (i := 0))) (a_cons (r_ix C (re_var (i := 2)) re_int) a_nil)))) (z_one (z_if (v_eq (re_var (i := 3)) (re_str s_228323556)) (z_one (z_expr (r_append C (r_fld C (F.cl 1 (by decide)) (re_var (i := 0))) (a_cons (r_ix C (r_fld C (F.cl 0 (by decide)) (re_var (i := 1))) (r_ix C (re_var (i := 2)) re_int)) a_nil)))) (z_one (z_if (v_eq (re_var (i := 3)) (re_str s_31115180389)) (z_one (z_lput (r_fld C (F.cl 0 (by decide)) (re_var (i := 1))) (r_ix C (re_var (i := 2)) re_int) (r_pop C (r_fld C (F.cl 1 (by decide)) (re_var (i := 0)))))) (z_one (z_if (v_eq (re_var (i := 3)) (re_str s_26803436005)) (z_cons (z_set C (r_tuple C (F.free 4 _ rfl) (a_cons (r_lcT C [("slot", 5)] (r_ix C (re_var (i := 2)) re_int) (blkOk_by (by kernel_rfl)) (fun s H c cl fp => g_one C.blk) (fun s H c cl fp => t_yes) (fun s H c cl fp => (r_ix C.blk (r_fld C.blk (F.cl 0 (by decide)) (re_var (i := 1))) (re_var (i := 5)))) (by decide)) a_nil)))
    (z_one (z_expr (r_append C (r_fld C (F.cl 1 (by decide)) (re_var (i := 0))) (a_cons (re_tup (a_cons (re_str s_13166) (a_cons (r_ix C (re_var (i := 2)) re_int) (a_cons (r_ix C (re_var (i := 2)) re_int) (a_cons (re_var (i := 4)) a_nil))))) a_nil))))) (z_one (z_if (v_eq (re_var (i := 3)) (re_str s_31358547819)) (z_one (z_expr (r_append C (r_fld C (F.cl 1 (by decide)) (re_var (i := 0))) (a_cons (re_tup (a_cons (re_str s_31358547819) (a_cons (r_ix C (re_var (i := 2)) re_int) (a_cons (r_tuple C (F.free 4 _ rfl) (a_cons (r_lcT C [("slot", 5)] (r_ix C (re_var (i := 2)) re_int) (blkOk_by (by kernel_rfl)) (fun s H c cl fp => g_one C.blk) (fun s H c cl fp => t_yes) (fun s H c cl fp => (r_ix C.blk (r_fld C.blk (F.cl 0 (by decide)) (re_var (i := 1))) (re_var (i := 5)))) (by decide)) a_nil)) a_nil)))) a_nil)))) (z_one (z_if (v_eq (re_var (i := 3)) (re_str s_27615080933)) (z_cons (z_unp C (r_ix C (r_fld C (F.cl 0 (by decide)) (re_var (i := 1))) (r_ix C (re_var (i := 2)) re_int)) (gs_cons C (gs_cons C (gs_cons C gs_nil))))
    (z_one (z_expr (r_append C (r_fld C (F.cl 1 (by decide)) (re_var (i := 0))) (a_cons (r_make C (fo_Frame_init F) (F.mkr 0 _ rfl) (F.cg 0 _ rfl) (a_cons (r_ix C (r_fld C (F.cl 1 (by decide)) (re_var (i := 0))) (re_var (i := 7))) (a_cons (re_var (i := 4)) a_nil))) a_nil))))) (z_one (z_if (v_inS C (re_var (i := 3)) (re_tup (a_cons (re_str s_224229104) (a_cons (re_str s_244939252) (a_cons (re_str s_3983535845864) a_nil))))) (z_one (z_expr (r_meth C (fo_Machine_go F) (F.cl 1 (by decide)) (F.mt 2 _ _ _ rfl) (re_var (i := 0)) (a_cons (re_var (i := 1)) (a_cons (re_var (i := 2)) a_nil))))) (z_one (z_if (v_inS C (re_var (i := 3)) (re_tup (a_cons (re_str s_27344581362) (a_cons (re_str s_29204446053) (a_cons (re_str s_1850100) a_nil))))) (z_one (z_expr (r_meth C (fo_Machine_turn F) (F.cl 1 (by decide)) (F.mt 3 _ _ _ rfl) (re_var (i := 0)) (a_cons (re_var (i := 2)) a_nil)))) (z_one (z_expr (r_meth C (fo_Machine_operate F) (F.cl 1 (by decide)) (F.mt 5 _ _ _ rfl) (re_var (i := 0)) (a_cons (re_var (i := 2)) a_nil)))))))))))))))))))))
theorem sc_Machine_run : FnScope ["self", "frame", "instruction"] ["self"] (defScope st_Machine_run) := ⟨rfl, rfl, rfl, by decide +kernel, rfl, by decide +kernel, by decide +kernel⟩
theorem fo_Machine_run {G : Gm} (F : FZ G) : Fo G 6 (He.fAd G.K ("Machine", some "run")) ["self"] m_Machine_run := fo_of (dd_Machine_run F) sc_Machine_run rfl rfl (fun _ _ _ _ _ _ us hl => match us, hl with | [_], _ => rfl) fun cdv A outer s H E C =>
  (z_one (z_while C (v_isN (r_fld C (F.cl 1 (by decide)) (re_var (i := 0))) re_non) (z_cons (z_set C (r_ix C (r_fld C (F.cl 1 (by decide)) (re_var (i := 0))) re_neg))
    (z_cons (z_set C (r_ix C (r_fld C (F.cl 0 (by decide)) (re_var (i := 1))) (r_fld C (F.cl 0 (by decide)) (re_var (i := 1)))))
    (z_cons (z_addF C (F.cl 0 (by decide)) (re_var (i := 1)) re_int)
    (z_one (z_expr (r_meth C (fo_Machine_execute F) (F.cl 1 (by decide)) (F.mt 1 _ _ _ rfl) (re_var (i := 0)) (a_cons (re_var (i := 1)) (a_cons (re_var (i := 2)) a_nil))))))))))
theorem sc_run_code : FnScope ["code", "fuel", "machine"] ["code", "fuel"] (defScope st_run_code) := ⟨rfl, rfl, rfl, by decide +kernel, rfl, by decide +kernel, by decide +kernel⟩
theorem fo_run_code {G : Gm} (F : FZ G) : Fo G 7 (He.fAd G.K ("run_code", none)) ["code", "fuel"] m_run_code := fo_of (dd_run_code F) sc_run_code rfl rfl (fun _ _ _ _ _ _ us hl => match us, hl with | [_, _], _ => rfl) fun cdv A outer s H E C =>
  (z_cons (z_set C (r_make C (fo_Machine_init F) (F.mkr 1 _ rfl) (F.cg 1 _ rfl) (a_cons (re_var (i := 0)) (a_cons (re_var (i := 1)) a_nil))))
    (z_cons (z_expr (r_meth0 C (fo_Machine_run F) (F.cl 1 (by decide)) (F.mt 0 _ _ _ rfl) (re_var (i := 2))))
    (z_one (z_ret (re_tup (a_cons (r_tuple C (F.free 4 _ rfl) (a_cons (r_fld C (F.cl 1 (by decide)) (re_var (i := 2))) a_nil)) (a_cons (r_fld C (F.cl 1 (by decide)) (re_var (i := 2))) a_nil)))))))
theorem sc_Numbering_init : FnScope ["self"] ["self"] (defScope st_Numbering_init) := ⟨rfl, rfl, rfl, by decide +kernel, rfl, by decide +kernel, by decide +kernel⟩
theorem fo_Numbering_init {G : Gm} (F : FZ G) : Fo G 1 (He.fAd G.K ("Numbering", some "__init__")) ["self"] m_Numbering_init := fo_of (dd_Numbering_init F) sc_Numbering_init rfl rfl (fun _ _ _ _ _ _ us hl => match us, hl with | [_], _ => rfl) fun cdv A outer s H E C =>
  (z_cons (z_setF C (F.cl 2 (by decide)) (re_var (i := 0)) re_int)
    (z_one (z_setF C (F.cl 2 (by decide)) (re_var (i := 0)) re_dictT)))
theorem sc_Numbering_expression : FnScope ["self", "e", "level", "kind", "number", "rule", "one"] ["self", "e", "level"] (defScope st_Numbering_expression) := ⟨rfl, rfl, rfl, by decide +kernel, rfl, by decide +kernel, by decide +kernel⟩
theorem step_Numbering_expression {G : Gm} {j : Nat} (F : FZ G) (I : Fo G (j + 1) (He.fAd G.K ("Numbering", some "expression")) ["self", "e", "level"] (m_Numbering_expression j)) : Fo G (j + 1 + 1) (He.fAd G.K ("Numbering", some "expression")) ["self", "e", "level"] (m_Numbering_expression (j + 1)) := fo_of (k := j + 1) (dd_Numbering_expression F) sc_Numbering_expression rfl rfl (fun _ _ _ _ _ _ us hl => match us, hl with | [_, _, _], _ => rfl) fun cdv A outer s H E C =>
  (z_cons (z_set C (r_ix C (re_var (i := 1)) re_int))
    (z_cons (z_if (w_or (v_eq (re_var (i := 3)) (re_str s_241006181)) (w_or1 (v_eq (re_var (i := 3)) (re_str s_226063088)))).pt (z_cons (z_addF C (F.cl 2 (by decide)) (re_var (i := 0)) re_int)
    (z_cons (z_set C (r_fld C (F.cl 2 (by decide)) (re_var (i := 0))))
    (z_cons (z_expr (r_setT C (r_fld C (F.cl 2 (by decide)) (re_var (i := 0))) (a_cons (re_tup (a_cons (re_var (i := 2)) (a_cons (r_ix C (re_var (i := 1)) re_int) a_nil))) (a_cons (re_lst a_nil) a_nil))))
    (z_cons (z_set C (r_meth C I (F.cl 2 (by decide)) (F.mt 7 _ _ _ rfl) (re_var (i := 0)) (a_cons (r_ix C (re_var (i := 1)) re_int) (a_cons (r_add (re_var (i := 2)) re_int) a_nil))))
    (z_cons (z_expr (r_append C (r_dget C (r_fld C (F.cl 2 (by decide)) (re_var (i := 0))) (re_tup (a_cons (re_var (i := 2)) (a_cons (r_ix C (re_var (i := 1)) re_int) a_nil)))) (a_cons (re_tup (a_cons (re_var (i := 4)) (a_cons (re_var (i := 5)) a_nil))) a_nil)))
    (z_cons (z_if (v_eq (re_var (i := 3)) (re_str s_226063088)) (z_one (z_ret (re_tup (a_cons (re_str s_226063088) (a_cons (r_ix C (re_var (i := 1)) re_int) (a_cons (re_var (i := 4)) a_nil)))))) z_nil)
    (z_one (z_ret (re_tup (a_cons (re_str s_241006181) (a_cons (r_ix C (re_var (i := 1)) re_int) (a_cons (re_var (i := 4)) (a_cons (r_meth C I (F.cl 2 (by decide)) (F.mt 7 _ _ _ rfl) (re_var (i := 0)) (a_cons (r_ix C (re_var (i := 1)) re_int) (a_cons (re_var (i := 2)) a_nil))) a_nil))))))))))))) z_nil)
    (z_cons (z_if (v_eq (re_var (i := 3)) (re_str s_13166)) (z_one (z_ret (re_tup (a_cons (re_str s_13166) (a_cons (r_ix C (re_var (i := 1)) re_int) (a_cons (r_meth C I (F.cl 2 (by decide)) (F.mt 7 _ _ _ rfl) (re_var (i := 0)) (a_cons (r_ix C (re_var (i := 1)) re_int) (a_cons (re_var (i := 2)) a_nil))) a_nil)))))) z_nil)
    (z_cons (z_if (v_eq (re_var (i := 3)) (re_str s_1782516)) (z_one (z_ret (re_tup (a_cons (re_str s_1782516) (a_cons (r_ix C (re_var (i := 1)) re_int) (a_cons (r_meth C I (F.cl 2 (by decide)) (F.mt 7 _ _ _ rfl) (re_var (i := 0)) (a_cons (r_ix C (re_var (i := 1)) re_int) (a_cons (re_var (i := 2)) a_nil))) (a_cons (r_meth C I (F.cl 2 (by decide)) (F.mt 7 _ _ _ rfl) (re_var (i := 0)) (a_cons (r_ix C (re_var (i := 1)) re_int) (a_cons (re_var (i := 2)) a_nil))) a_nil))))))) z_nil)
    (z_cons (z_if (v_eq (re_var (i := 3)) (re_str s_12911)) (z_one z_never) z_nil)
    (z_one (z_ret (r_catT C (re_tup (a_cons (re_var (i := 3)) a_nil)) (r_tuple C (F.free 4 _ rfl) (a_cons (r_lcT C [("one", 6)] (r_slT C (re_var (i := 1)) (o_some re_int) o_none) (blkOk_by (by kernel_rfl)) (fun s H c cl fp => g_one C.blk) (fun s H c cl fp => t_yes) (fun s H c cl fp => (r_ifE (v_val (r_isTup C.blk (F.free 7 _ rfl) (F.free 4 _ rfl) (re_var (i := 6)))) (r_meth C.blk I (F.cl 2 (by decide)) (F.mt 7 _ _ _ rfl) (re_var (i := 0)) (a_cons (re_var (i := 6)) (a_cons (re_var (i := 2)) a_nil))) (re_var (i := 6)))) (by decide)) a_nil))))))))))
theorem fo_Numbering_expression {G : Gm} (F : FZ G) : ∀ j, Fo G (j + 1) (He.fAd G.K ("Numbering", some "expression")) ["self", "e", "level"] (m_Numbering_expression j)
  | 0 => fo_none (dd_Numbering_expression F) sc_Numbering_expression (fun _ _ _ _ _ _ us hl => match us, hl with | [_, _, _], _ => rfl)
  | j + 1 => step_Numbering_expression F (fo_Numbering_expression F j)
theorem sc_About_init : FnScope ["self", "e", "level", "names", "about"] ["self", "e", "level", "names", "about"] (defScope st_About_init) := ⟨rfl, rfl, rfl, by decide +kernel, rfl, by decide +kernel, by decide +kernel⟩
theorem fo_About_init {G : Gm} (F : FZ G) : Fo G 1 (He.fAd G.K ("About", some "__init__")) ["self", "e", "level", "names", "about"] m_About_init := fo_of (dd_About_init F) sc_About_init rfl rfl (fun _ _ _ _ _ _ us hl => match us, hl with | [_, _, _, _, _], _ => rfl) fun cdv A outer s H E C =>
  (z_cons (z_setF C (F.cl 3 (by decide)) (re_var (i := 0)) (re_var (i := 1)))
    (z_cons (z_setF C (F.cl 3 (by decide)) (re_var (i := 0)) (re_var (i := 2)))
    (z_cons (z_setF C (F.cl 3 (by decide)) (re_var (i := 0)) (re_var (i := 3)))
    (z_cons (z_setF C (F.cl 3 (by decide)) (re_var (i := 0)) (re_var (i := 4)))
    (z_cons (z_setF C (F.cl 3 (by decide)) (re_var (i := 0)) re_dictK)
    (z_one (z_setF C (F.cl 3 (by decide)) (re_var (i := 0)) re_non)))))))
theorem sc_Collapser_init : FnScope ["self", "rules"] ["self", "rules"] (defScope st_Collapser_init) := ⟨rfl, rfl, rfl, by decide +kernel, rfl, by decide +kernel, by decide +kernel⟩
theorem fo_Collapser_init {G : Gm} (F : FZ G) : Fo G 1 (He.fAd G.K ("Collapser", some "__init__")) ["self", "rules"] m_Collapser_init := fo_of (dd_Collapser_init F) sc_Collapser_init rfl rfl (fun _ _ _ _ _ _ us hl => match us, hl with | [_, _], _ => rfl) fun cdv A outer s H E C =>
  (z_cons (z_setF C (F.cl 4 (by decide)) (re_var (i := 0)) (re_var (i := 1)))
    (z_cons (z_setF C (F.cl 4 (by decide)) (re_var (i := 0)) re_int)
    (z_one (z_setF C (F.cl 4 (by decide)) (re_var (i := 0)) re_int))))
theorem sc_Collapser_fresh : FnScope ["self", "mark"] ["self", "mark"] (defScope st_Collapser_fresh) := ⟨rfl, rfl, rfl, by decide +kernel, rfl, by decide +kernel, by decide +kernel⟩
theorem fo_Collapser_fresh {G : Gm} (F : FZ G) : Fo G 1 (He.fAd G.K ("Collapser", some "fresh")) ["self", "mark"] m_Collapser_fresh := fo_of (dd_Collapser_fresh F) sc_Collapser_fresh rfl rfl (fun _ _ _ _ _ _ us hl => match us, hl with | [_, _], _ => rfl) fun cdv A outer s H E C =>
  (z_cons (z_addF C (F.cl 4 (by decide)) (re_var (i := 0)) re_int)
    (z_one (z_ret (r_catS (re_var (i := 1)) (r_str C (F.free 2 _ rfl) (a_cons (r_fld C (F.cl 4 (by decide)) (re_var (i := 0))) a_nil))))))
theorem sc_Collapser_node : FnScope ["self", "plain"] ["self", "plain"] (defScope st_Collapser_node) := ⟨rfl, rfl, rfl, by decide +kernel, rfl, by decide +kernel, by decide +kernel⟩
theorem fo_Collapser_node {G : Gm} (F : FZ G) : Fo G 1 (He.fAd G.K ("Collapser", some "node")) ["self", "plain"] m_Collapser_node := fo_of (dd_Collapser_node F) sc_Collapser_node rfl rfl (fun _ _ _ _ _ _ us hl => match us, hl with | [_, _], _ => rfl) fun cdv A outer s H E C =>
  (z_cons (z_addF C (F.cl 4 (by decide)) (re_var (i := 0)) re_int)
    (z_cons (z_if (v_gt (r_fld C (F.cl 4 (by decide)) (re_var (i := 0))) (r_most C F)) (z_one z_never) z_nil)
    (z_one (z_ret (re_var (i := 1))))))
theorem sc_number_of : FnScope ["pair"] ["pair"] (defScope st_number_of) := ⟨rfl, rfl, rfl, by decide +kernel, rfl, by decide +kernel, by decide +kernel⟩
theorem fo_number_of {G : Gm} (F : FZ G) : Fo G 1 (He.fAd G.K ("number_of", none)) ["pair"] m_number_of := fo_of (dd_number_of F) sc_number_of rfl rfl (fun _ _ _ _ _ _ us hl => match us, hl with | [_], _ => rfl) fun cdv A outer s H E C =>
  (z_one (z_ret (r_ix C (re_var (i := 0)) re_int)))
theorem sc_switch_of : FnScope ["level", "kind"] ["level", "kind"] (defScope st_switch_of) := ⟨rfl, rfl, rfl, by decide +kernel, rfl, by decide +kernel, by decide +kernel⟩
theorem fo_switch_of {G : Gm} (F : FZ G) : Fo G 1 (He.fAd G.K ("switch_of", none)) ["level", "kind"] m_switch_of := fo_of (dd_switch_of F) sc_switch_of rfl rfl (fun _ _ _ _ _ _ us hl => match us, hl with | [_, _], _ => rfl) fun cdv A outer s H E C =>
  (z_one (z_ret (r_add (r_mul re_int (re_var (i := 0))) (r_index C F (.inl rfl) (re_var (i := 1))))))
theorem sc_with_name_collapsing : FnScope ["names", "x", "other", "found"] ["names", "x", "other"] (defScope st_with_name_collapsing) := ⟨rfl, rfl, rfl, by decide +kernel, rfl, by decide +kernel, by decide +kernel⟩
theorem fo_with_name_collapsing {G : Gm} (F : FZ G) : Fo G 1 (He.fAd G.K ("with_name_collapsing", none)) ["names", "x", "other"] m_with_name_collapsing := fo_of (dd_with_name_collapsing F) sc_with_name_collapsing rfl rfl (fun _ _ _ _ _ _ us hl => match us, hl with | [_, _, _], _ => rfl) fun cdv A outer s H E C =>
  (z_cons (z_set C (r_dict C (F.free 5 _ rfl) (a_cons (re_var (i := 0)) a_nil)))
    (z_cons (z_dput C (re_var (i := 3)) (re_var (i := 1)) (re_var (i := 2)))
    (z_one (z_ret (re_var (i := 3))))))
theorem sc_Collapser_expression : FnScope ["self", "e", "level", "names", "about", "kind", "own", "delays", "index", "place", "branches", "number", "rule", "last", "found", "name", "delayed"] ["self", "e", "level", "names", "about"] (defScope st_Collapser_expression) := ⟨rfl, rfl, rfl, by decide +kernel, rfl, by decide +kernel, by decide +kernel⟩
theorem sc_Collapser_built_in : FnScope ["self", "own"] ["self", "own"] (defScope st_Collapser_built_in) := ⟨rfl, rfl, rfl, by decide +kernel, rfl, by decide +kernel, by decide +kernel⟩
theorem sc_Collapser_part : FnScope ["self", "own", "index"] ["self", "own", "index"] (defScope st_Collapser_part) := ⟨rfl, rfl, rfl, by decide +kernel, rfl, by decide +kernel, by decide +kernel⟩
theorem sc_Collapser_parts : FnScope ["self", "e", "level", "names", "about", "delayed", "found", "index", "place"] ["self", "e", "level", "names", "about", "delayed"] (defScope st_Collapser_parts) := ⟨rfl, rfl, rfl, by decide +kernel, rfl, by decide +kernel, by decide +kernel⟩
theorem sc_Collapser_usual : FnScope ["self", "e", "level", "names", "about", "delayed", "kind", "x", "body", "first"] ["self", "e", "level", "names", "about", "delayed"] (defScope st_Collapser_usual) := ⟨rfl, rfl, rfl, by decide +kernel, rfl, by decide +kernel, by decide +kernel⟩
theorem sc_Collapser_other : FnScope ["self", "e", "level", "names", "about", "kind"] ["self", "e", "level", "names", "about"] (defScope st_Collapser_other) := ⟨rfl, rfl, rfl, by decide +kernel, rfl, by decide +kernel, by decide +kernel⟩
structure CollFo (G : Gm) (k j : Nat) : Prop where
  h0 : Fo G j (He.fAd G.K ("Collapser", some "expression")) ["self", "e", "level", "names", "about"] (m_Coll k 0)
  h1 : Fo G j (He.fAd G.K ("Collapser", some "built_in")) ["self", "own"] (m_Coll k 1)
  h2 : Fo G j (He.fAd G.K ("Collapser", some "part")) ["self", "own", "index"] (m_Coll k 2)
  h3 : Fo G j (He.fAd G.K ("Collapser", some "parts")) ["self", "e", "level", "names", "about", "delayed"] (m_Coll k 3)
  h4 : Fo G j (He.fAd G.K ("Collapser", some "usual")) ["self", "e", "level", "names", "about", "delayed"] (m_Coll k 4)
  h5 : Fo G j (He.fAd G.K ("Collapser", some "other")) ["self", "e", "level", "names", "about"] (m_Coll k 5)
theorem step_Collapser_expression {G : Gm} {j : Nat} (F : FZ G) (I : CollFo G j (j + 3)) : Fo G (j + 1 + 3) (He.fAd G.K ("Collapser", some "expression")) ["self", "e", "level", "names", "about"] (m_Coll (j + 1) 0) := fo_of (k := j + 3) (dd_Collapser_expression F) sc_Collapser_expression rfl rfl (fun _ _ _ _ _ _ us hl => match us, hl with | [_, _, _, _, _], _ => rfl) fun cdv A outer s H E C =>
  (z_cons (z_set C (r_ix C (re_var (i := 1)) re_int))
    (z_cons (z_if (v_dnotin C (re_tup (a_cons (re_var (i := 2)) (a_cons (re_var (i := 5)) a_nil))) (r_fld C (F.cl 4 (by decide)) (re_var (i := 0)))) (z_one (z_ret (r_meth C I.h4 (F.cl 4 (by decide)) (F.mt 14 _ _ _ rfl) (re_var (i := 0)) (a_cons (re_var (i := 1)) (a_cons (re_var (i := 2)) (a_cons (re_var (i := 3)) (a_cons (re_var (i := 4)) (a_cons re_dictK a_nil)))))))) z_nil)
    (z_cons (z_set C (r_make C (fo_About_init F) (F.mkr 3 _ rfl) (F.cg 3 _ rfl) (a_cons (re_var (i := 1)) (a_cons (re_var (i := 2)) (a_cons (re_var (i := 3)) (a_cons (re_var (i := 4)) a_nil))))))
    (z_cons (z_set C (re_lst a_nil))
    (z_cons (z_forE C (F.free 8 _ rfl) (r_parts C F (re_var (i := 5))) (g_tup C (gs_cons C (gs_cons C gs_nil))) (z_one (z_if (w_or (v_notInS C (r_ix C (r_ix C (re_var (i := 1)) (re_var (i := 9))) re_int) (re_tup (a_cons (re_str s_1817325) (a_cons (re_str s_232290021) a_nil)))) (w_or1 (v_din C (re_tup (a_cons (re_var (i := 2)) (a_cons (r_ix C (r_ix C (re_var (i := 1)) (re_var (i := 9))) re_int) a_nil))) (r_fld C (F.cl 4 (by decide)) (re_var (i := 0)))))).pt (z_cons (z_dput C (r_fld C (F.cl 3 (by decide)) (re_var (i := 6))) (re_var (i := 8)) (r_meth C (fo_Collapser_fresh F) (F.cl 4 (by decide)) (F.mt 8 _ _ _ rfl) (re_var (i := 0)) (a_cons (re_str s_100) a_nil)))
    (z_one (z_expr (r_append C (re_var (i := 7)) (a_cons (re_tup (a_cons (r_dget C (r_fld C (F.cl 3 (by decide)) (re_var (i := 6))) (re_var (i := 8))) (a_cons (r_meth C I.h0 (F.cl 4 (by decide)) (F.mt 10 _ _ _ rfl) (re_var (i := 0)) (a_cons (r_ix C (re_var (i := 1)) (re_var (i := 9))) (a_cons (re_var (i := 2)) (a_cons (re_var (i := 3)) (a_cons (re_var (i := 4)) a_nil))))) a_nil))) a_nil))))) z_nil)))
    (z_cons (z_if (v_notInS C (re_var (i := 5)) (re_tup (a_cons (re_str s_1817325) (a_cons (re_str s_232290021) a_nil)))) (z_cons (z_setF C (F.cl 3 (by decide)) (re_var (i := 6)) (r_meth C (fo_Collapser_fresh F) (F.cl 4 (by decide)) (F.mt 8 _ _ _ rfl) (re_var (i := 0)) (a_cons (re_str s_100) a_nil)))
    (z_one (z_expr (r_append C (re_var (i := 7)) (a_cons (re_tup (a_cons (r_fld C (F.cl 3 (by decide)) (re_var (i := 6))) (a_cons (r_meth C I.h4 (F.cl 4 (by decide)) (F.mt 14 _ _ _ rfl) (re_var (i := 0)) (a_cons (re_var (i := 1)) (a_cons (re_var (i := 2)) (a_cons (re_var (i := 3)) (a_cons (re_var (i := 4)) (a_cons (r_fld C (F.cl 3 (by decide)) (re_var (i := 6))) a_nil)))))) a_nil))) a_nil))))) z_nil)
    (z_cons (z_set C (re_lst a_nil))
    (z_cons (z_forL C (r_sort1 C (fo_number_of F) (F.glo 3 _ rfl) (F.free 6 _ rfl) (r_dget C (r_fld C (F.cl 4 (by decide)) (re_var (i := 0))) (re_tup (a_cons (re_var (i := 2)) (a_cons (re_var (i := 5)) a_nil))))) (g_tup C (gs_cons C (gs_cons C gs_nil))) (z_one (z_expr (r_append C (re_var (i := 10)) (a_cons (re_tup (a_cons (re_var (i := 11)) (a_cons (r_meth C I.h0 (F.cl 4 (by decide)) (F.mt 10 _ _ _ rfl) (re_var (i := 0)) (a_cons (re_var (i := 12)) (a_cons (r_add (re_var (i := 2)) re_int) (a_cons re_dictK (a_cons (re_var (i := 6)) a_nil))))) a_nil))) a_nil)))))
    (z_cons (z_set C (r_meth C I.h1 (F.cl 4 (by decide)) (F.mt 11 _ _ _ rfl) (re_var (i := 0)) (a_cons (re_var (i := 6)) a_nil)))
    (z_cons (z_set C (r_meth C (fo_Collapser_node F) (F.cl 4 (by decide)) (F.mt 9 _ _ _ rfl) (re_var (i := 0)) (a_cons (re_tup (a_cons (re_str s_3983535845864) (a_cons (r_call C (fo_switch_of F) (F.glo 4 _ rfl) (a_cons (re_var (i := 2)) (a_cons (re_var (i := 5)) a_nil))) (a_cons (r_tuple C (F.free 4 _ rfl) (a_cons (re_var (i := 10)) a_nil)) (a_cons (re_var (i := 13)) a_nil))))) a_nil)))
    (z_cons (z_forL C (r_rev C (re_var (i := 7))) (g_tup C (gs_cons C (gs_cons C gs_nil))) (z_one (z_set C (r_meth C (fo_Collapser_node F) (F.cl 4 (by decide)) (F.mt 9 _ _ _ rfl) (re_var (i := 0)) (a_cons (re_tup (a_cons (re_str s_27057139961) (a_cons (re_var (i := 15)) (a_cons (re_var (i := 16)) (a_cons (re_var (i := 14)) a_nil))))) a_nil)))))
    (z_one (z_ret (re_var (i := 14)))))))))))))))
theorem step_Collapser_built_in {G : Gm} {j : Nat} (F : FZ G) (I : CollFo G j (j + 3)) : Fo G (j + 1 + 3) (He.fAd G.K ("Collapser", some "built_in")) ["self", "own"] (m_Coll (j + 1) 1) := fo_of (k := j + 3) (dd_Collapser_built_in F) sc_Collapser_built_in rfl rfl (fun _ _ _ _ _ _ us hl => match us, hl with | [_, _], _ => rfl) fun cdv A outer s H E C =>
  (z_cons (z_if (v_notN (r_fld C (F.cl 3 (by decide)) (re_var (i := 1))) re_non) (z_one (z_ret (r_meth C (fo_Collapser_node F) (F.cl 4 (by decide)) (F.mt 9 _ _ _ rfl) (re_var (i := 0)) (a_cons (re_tup (a_cons (re_str s_27615080933) (a_cons (r_fld C (F.cl 3 (by decide)) (re_var (i := 1))) a_nil))) a_nil)))) z_nil)
    (z_one (z_ret (r_meth C I.h4 (F.cl 4 (by decide)) (F.mt 14 _ _ _ rfl) (re_var (i := 0)) (a_cons (r_fld C (F.cl 3 (by decide)) (re_var (i := 1))) (a_cons (r_fld C (F.cl 3 (by decide)) (re_var (i := 1))) (a_cons (r_fld C (F.cl 3 (by decide)) (re_var (i := 1))) (a_cons (r_fld C (F.cl 3 (by decide)) (re_var (i := 1))) (a_cons (r_fld C (F.cl 3 (by decide)) (re_var (i := 1))) a_nil)))))))))
theorem step_Collapser_part {G : Gm} {j : Nat} (F : FZ G) (I : CollFo G j (j + 3)) : Fo G (j + 1 + 3) (He.fAd G.K ("Collapser", some "part")) ["self", "own", "index"] (m_Coll (j + 1) 2) := fo_of (k := j + 3) (dd_Collapser_part F) sc_Collapser_part rfl rfl (fun _ _ _ _ _ _ us hl => match us, hl with | [_, _, _], _ => rfl) fun cdv A outer s H E C =>
  (z_cons (z_if (v_din C (re_var (i := 2)) (r_fld C (F.cl 3 (by decide)) (re_var (i := 1)))) (z_one (z_ret (r_meth C (fo_Collapser_node F) (F.cl 4 (by decide)) (F.mt 9 _ _ _ rfl) (re_var (i := 0)) (a_cons (re_tup (a_cons (re_str s_27615080933) (a_cons (r_dget C (r_fld C (F.cl 3 (by decide)) (re_var (i := 1))) (re_var (i := 2))) a_nil))) a_nil)))) z_nil)
    (z_one (z_ret (r_meth C I.h0 (F.cl 4 (by decide)) (F.mt 10 _ _ _ rfl) (re_var (i := 0)) (a_cons (r_ix C (r_fld C (F.cl 3 (by decide)) (re_var (i := 1))) (r_ix C (r_parts C F (r_ix C (r_fld C (F.cl 3 (by decide)) (re_var (i := 1))) re_int)) (re_var (i := 2)))) (a_cons (r_fld C (F.cl 3 (by decide)) (re_var (i := 1))) (a_cons (r_fld C (F.cl 3 (by decide)) (re_var (i := 1))) (a_cons (r_fld C (F.cl 3 (by decide)) (re_var (i := 1))) a_nil))))))))
theorem step_Collapser_parts {G : Gm} {j : Nat} (F : FZ G) (I : CollFo G j (j + 3)) : Fo G (j + 1 + 3) (He.fAd G.K ("Collapser", some "parts")) ["self", "e", "level", "names", "about", "delayed"] (m_Coll (j + 1) 3) := fo_of (k := j + 3) (dd_Collapser_parts F) sc_Collapser_parts rfl rfl (fun _ _ _ _ _ _ us hl => match us, hl with | [_, _, _, _, _, _], _ => rfl) fun cdv A outer s H E C =>
  (z_cons (z_set C (re_lst a_nil))
    (z_cons (z_forE C (F.free 8 _ rfl) (r_parts C F (r_ix C (re_var (i := 1)) re_int)) (g_tup C (gs_cons C (gs_cons C gs_nil))) (z_one (z_if (v_din C (re_var (i := 7)) (re_var (i := 5))) (z_one (z_expr (r_append C (re_var (i := 6)) (a_cons (r_meth C (fo_Collapser_node F) (F.cl 4 (by decide)) (F.mt 9 _ _ _ rfl) (re_var (i := 0)) (a_cons (re_tup (a_cons (re_str s_27615080933) (a_cons (r_dget C (re_var (i := 5)) (re_var (i := 7))) a_nil))) a_nil)) a_nil)))) (z_one (z_expr (r_append C (re_var (i := 6)) (a_cons (r_meth C I.h0 (F.cl 4 (by decide)) (F.mt 10 _ _ _ rfl) (re_var (i := 0)) (a_cons (r_ix C (re_var (i := 1)) (re_var (i := 8))) (a_cons (re_var (i := 2)) (a_cons (re_var (i := 3)) (a_cons (re_var (i := 4)) a_nil))))) a_nil)))))))
    (z_one (z_ret (re_var (i := 6))))))
theorem step_Collapser_usual {G : Gm} {j : Nat} (F : FZ G) (I : CollFo G j (j + 3)) : Fo G (j + 1 + 3) (He.fAd G.K ("Collapser", some "usual")) ["self", "e", "level", "names", "about", "delayed"] (m_Coll (j + 1) 4) := fo_of (k := j + 3) (dd_Collapser_usual F) sc_Collapser_usual rfl rfl (fun _ _ _ _ _ _ us hl => match us, hl with | [_, _, _, _, _, _], _ => rfl) fun cdv A outer s H E C =>
  (z_cons (z_set C (r_ix C (re_var (i := 1)) re_int))
    (z_cons (z_if (v_eq (re_var (i := 6)) (re_str s_1817325)) (z_one (z_ret (r_meth C (fo_Collapser_node F) (F.cl 4 (by decide)) (F.mt 9 _ _ _ rfl) (re_var (i := 0)) (a_cons (re_var (i := 1)) a_nil)))) z_nil)
    (z_cons (z_if (v_eq (re_var (i := 6)) (re_str s_232290021)) (z_one (z_ret (r_meth C (fo_Collapser_node F) (F.cl 4 (by decide)) (F.mt 9 _ _ _ rfl) (re_var (i := 0)) (a_cons (re_tup (a_cons (re_str s_232290021) (a_cons (r_dget C (re_var (i := 3)) (r_ix C (re_var (i := 1)) re_int)) a_nil))) a_nil)))) z_nil)
    (z_cons (z_if (v_eq (re_var (i := 6)) (re_str s_13166)) (z_cons (z_set C (r_meth C (fo_Collapser_fresh F) (F.cl 4 (by decide)) (F.mt 8 _ _ _ rfl) (re_var (i := 0)) (a_cons (re_str s_120) a_nil)))
    (z_cons (z_set C (r_meth C I.h0 (F.cl 4 (by decide)) (F.mt 10 _ _ _ rfl) (re_var (i := 0)) (a_cons (r_ix C (re_var (i := 1)) re_int) (a_cons (re_var (i := 2)) (a_cons (r_call C (fo_with_name_collapsing F) (F.glo 5 _ rfl) (a_cons (re_var (i := 3)) (a_cons (r_ix C (re_var (i := 1)) re_int) (a_cons (re_var (i := 7)) a_nil)))) (a_cons (re_var (i := 4)) a_nil))))))
    (z_one (z_ret (r_meth C (fo_Collapser_node F) (F.cl 4 (by decide)) (F.mt 9 _ _ _ rfl) (re_var (i := 0)) (a_cons (re_tup (a_cons (re_str s_13166) (a_cons (re_var (i := 2)) (a_cons (re_var (i := 7)) (a_cons (re_var (i := 8)) a_nil))))) a_nil)))))) z_nil)
    (z_cons (z_if (v_eq (re_var (i := 6)) (re_str s_1782516)) (z_cons (z_set C (r_meth C (fo_Collapser_fresh F) (F.cl 4 (by decide)) (F.mt 8 _ _ _ rfl) (re_var (i := 0)) (a_cons (re_str s_120) a_nil)))
    (z_cons (z_set C (r_meth C I.h3 (F.cl 4 (by decide)) (F.mt 13 _ _ _ rfl) (re_var (i := 0)) (a_cons (re_var (i := 1)) (a_cons (re_var (i := 2)) (a_cons (re_var (i := 3)) (a_cons (re_var (i := 4)) (a_cons (re_var (i := 5)) a_nil)))))))
    (z_cons (z_set C (r_meth C I.h0 (F.cl 4 (by decide)) (F.mt 10 _ _ _ rfl) (re_var (i := 0)) (a_cons (r_ix C (re_var (i := 1)) re_int) (a_cons (re_var (i := 2)) (a_cons (r_call C (fo_with_name_collapsing F) (F.glo 5 _ rfl) (a_cons (re_var (i := 3)) (a_cons (r_ix C (re_var (i := 1)) re_int) (a_cons (re_var (i := 7)) a_nil)))) (a_cons (re_var (i := 4)) a_nil))))))
    (z_one (z_ret (r_meth C (fo_Collapser_node F) (F.cl 4 (by decide)) (F.mt 9 _ _ _ rfl) (re_var (i := 0)) (a_cons (re_tup (a_cons (re_str s_1782516) (a_cons (re_var (i := 7)) (a_cons (r_ix C (re_var (i := 9)) re_int) (a_cons (re_var (i := 8)) a_nil))))) a_nil))))))) z_nil)
    (z_cons (z_if (v_inS C (re_var (i := 6)) (r_kinds C F (.inl rfl))) (z_one (z_ret (r_meth C (fo_Collapser_node F) (F.cl 4 (by decide)) (F.mt 9 _ _ _ rfl) (re_var (i := 0)) (a_cons (r_catT C (re_tup (a_cons (re_var (i := 6)) (a_cons (re_var (i := 2)) a_nil))) (r_tuple C (F.free 4 _ rfl) (a_cons (r_meth C I.h3 (F.cl 4 (by decide)) (F.mt 13 _ _ _ rfl) (re_var (i := 0)) (a_cons (re_var (i := 1)) (a_cons (re_var (i := 2)) (a_cons (re_var (i := 3)) (a_cons (re_var (i := 4)) (a_cons (re_var (i := 5)) a_nil)))))) a_nil))) a_nil)))) z_nil)
    (z_one (z_ret (r_meth C I.h5 (F.cl 4 (by decide)) (F.mt 15 _ _ _ rfl) (re_var (i := 0)) (a_cons (re_var (i := 1)) (a_cons (re_var (i := 2)) (a_cons (re_var (i := 3)) (a_cons (re_var (i := 4)) a_nil)))))))))))))
theorem step_Collapser_other {G : Gm} {j : Nat} (F : FZ G) (I : CollFo G j (j + 3)) : Fo G (j + 1 + 3) (He.fAd G.K ("Collapser", some "other")) ["self", "e", "level", "names", "about"] (m_Coll (j + 1) 5) := fo_of (k := j + 3) (dd_Collapser_other F) sc_Collapser_other rfl rfl (fun _ _ _ _ _ _ us hl => match us, hl with | [_, _, _, _, _], _ => rfl) fun cdv A outer s H E C =>
  (z_cons (z_set C (r_ix C (re_var (i := 1)) re_int))
    (z_cons (z_if (v_eq (re_var (i := 5)) (re_str s_241006181)) (z_one (z_ret (r_meth C (fo_Collapser_node F) (F.cl 4 (by decide)) (F.mt 9 _ _ _ rfl) (re_var (i := 0)) (a_cons (re_tup (a_cons (re_str s_1897204) (a_cons (r_call C (fo_switch_of F) (F.glo 4 _ rfl) (a_cons (re_var (i := 2)) (a_cons (r_ix C (re_var (i := 1)) re_int) a_nil))) (a_cons (r_ix C (re_var (i := 1)) re_int) (a_cons (r_meth C I.h0 (F.cl 4 (by decide)) (F.mt 10 _ _ _ rfl) (re_var (i := 0)) (a_cons (r_ix C (re_var (i := 1)) re_int) (a_cons (re_var (i := 2)) (a_cons (re_var (i := 3)) (a_cons (re_var (i := 4)) a_nil))))) a_nil))))) a_nil)))) z_nil)
    (z_cons (z_if (v_eq (re_var (i := 5)) (re_str s_226063088)) (z_one (z_ret (r_meth C (fo_Collapser_node F) (F.cl 4 (by decide)) (F.mt 9 _ _ _ rfl) (re_var (i := 0)) (a_cons (re_tup (a_cons (re_str s_1850100) (a_cons (r_call C (fo_switch_of F) (F.glo 4 _ rfl) (a_cons (re_var (i := 2)) (a_cons (r_ix C (re_var (i := 1)) re_int) a_nil))) (a_cons (r_ix C (re_var (i := 1)) re_int) a_nil)))) a_nil)))) z_nil)
    (z_cons (z_if (v_eq (re_var (i := 5)) (re_str s_236484980)) (z_one (z_ret (r_meth C (fo_Collapser_node F) (F.cl 4 (by decide)) (F.mt 9 _ _ _ rfl) (re_var (i := 0)) (a_cons (re_tup (a_cons (re_str s_245002731) (a_cons (r_meth C I.h2 (F.cl 4 (by decide)) (F.mt 12 _ _ _ rfl) (re_var (i := 0)) (a_cons (re_var (i := 4)) (a_cons (r_ix C (re_var (i := 1)) re_int) a_nil))) a_nil))) a_nil)))) z_nil)
    (z_cons (z_if (v_eq (re_var (i := 5)) (re_str s_31650050284)) (z_one (z_ret (r_meth C (fo_Collapser_node F) (F.cl 4 (by decide)) (F.mt 9 _ _ _ rfl) (re_var (i := 0)) (a_cons (re_tup (a_cons (re_str s_245002731) (a_cons (r_meth C I.h1 (F.cl 4 (by decide)) (F.mt 11 _ _ _ rfl) (re_var (i := 0)) (a_cons (re_var (i := 4)) a_nil)) a_nil))) a_nil)))) z_nil)
    (z_cons (z_if (v_eq (re_var (i := 5)) (re_str s_251296360)) (z_one z_never) z_nil)
    (z_one z_never)))))))
theorem fo_Coll {G : Gm} (F : FZ G) : ∀ j, CollFo G j (j + 3)
  | 0 => ⟨fo_none (dd_Collapser_expression F) sc_Collapser_expression (fun _ _ _ _ _ _ us hl => match us, hl with | [_, _, _, _, _], _ => rfl), fo_none (dd_Collapser_built_in F) sc_Collapser_built_in (fun _ _ _ _ _ _ us hl => match us, hl with | [_, _], _ => rfl), fo_none (dd_Collapser_part F) sc_Collapser_part (fun _ _ _ _ _ _ us hl => match us, hl with | [_, _, _], _ => rfl), fo_none (dd_Collapser_parts F) sc_Collapser_parts (fun _ _ _ _ _ _ us hl => match us, hl with | [_, _, _, _, _, _], _ => rfl), fo_none (dd_Collapser_usual F) sc_Collapser_usual (fun _ _ _ _ _ _ us hl => match us, hl with | [_, _, _, _, _, _], _ => rfl), fo_none (dd_Collapser_other F) sc_Collapser_other (fun _ _ _ _ _ _ us hl => match us, hl with | [_, _, _, _, _], _ => rfl)⟩
  | j + 1 => ⟨step_Collapser_expression F (fo_Coll F j), step_Collapser_built_in F (fo_Coll F j), step_Collapser_part F (fo_Coll F j), step_Collapser_parts F (fo_Coll F j), step_Collapser_usual F (fo_Coll F j), step_Collapser_other F (fo_Coll F j)⟩
theorem sc_collapse : FnScope ["program", "numbering", "numbered"] ["program"] (defScope st_collapse) := ⟨rfl, rfl, rfl, by decide +kernel, rfl, by decide +kernel, by decide +kernel⟩
theorem fo_collapse {G : Gm} (F : FZ G) : Fo G 64 (He.fAd G.K ("collapse", none)) ["program"] m_collapse := fo_of (dd_collapse F) sc_collapse rfl rfl (fun _ _ _ _ _ _ us hl => match us, hl with | [_], _ => rfl) fun cdv A outer s H E C =>
  (z_cons (z_set C (r_make0 C (fo_Numbering_init F) (F.mkr 2 _ rfl) (F.cg 2 _ rfl)))
    (z_cons (z_set C (r_meth C (fo_Numbering_expression F 14) (F.cl 2 (by decide)) (F.mt 7 _ _ _ rfl) (re_var (i := 1)) (a_cons (re_var (i := 0)) (a_cons re_int a_nil))))
    (z_one (z_ret (r_meth C (fo_Coll F 60).h0 (F.cl 4 (by decide)) (F.mt 10 _ _ _ rfl) (r_make C (fo_Collapser_init F) (F.mkr 4 _ rfl) (F.cg 4 _ rfl) (a_cons (r_fld C (F.cl 2 (by decide)) (re_var (i := 1))) a_nil)) (a_cons (re_var (i := 2)) (a_cons re_int (a_cons re_dictK (a_cons re_non a_nil)))))))))
theorem sc_inner : FnScope ["e", "kind", "_", "branch"] ["e"] (defScope st_inner) := ⟨rfl, rfl, rfl, by decide +kernel, rfl, by decide +kernel, by decide +kernel⟩
theorem fo_inner {G : Gm} (F : FZ G) : Fo G 1 (He.fAd G.K ("inner", none)) ["e"] m_inner := fo_of (dd_inner F) sc_inner rfl rfl (fun _ _ _ _ _ _ us hl => match us, hl with | [_], _ => rfl) fun cdv A outer s H E C =>
  (z_cons (z_set C (r_ix C (re_var (i := 0)) re_int))
    (z_cons (z_if (v_inS C (re_var (i := 1)) (re_tup (a_cons (re_str s_1817325) (a_cons (re_str s_232290021) (a_cons (re_str s_27615080933) (a_cons (re_str s_1850100) a_nil)))))) (z_one (z_ret (re_lst a_nil))) z_nil)
    (z_cons (z_if (v_inS C (re_var (i := 1)) (re_tup (a_cons (re_str s_209221228) (a_cons (re_str s_1899245) (a_cons (re_str s_228162035) a_nil))))) (z_one (z_ret (re_lst (a_cons (r_ix C (re_var (i := 0)) re_int) (a_cons (r_ix C (re_var (i := 0)) re_int) a_nil))))) z_nil)
    (z_cons (z_if (v_eq (re_var (i := 1)) (re_str s_13542)) (z_one (z_ret (re_lst (a_cons (r_ix C (re_var (i := 0)) re_int) (a_cons (r_ix C (re_var (i := 0)) re_int) (a_cons (r_ix C (re_var (i := 0)) re_int) a_nil)))))) z_nil)
    (z_cons (z_if (v_inS C (re_var (i := 1)) (re_tup (a_cons (re_str s_1782516) (a_cons (re_str s_27057139961) a_nil)))) (z_one (z_ret (re_lst (a_cons (r_ix C (re_var (i := 0)) re_int) (a_cons (r_ix C (re_var (i := 0)) re_int) a_nil))))) z_nil)
    (z_cons (z_if (v_eq (re_var (i := 1)) (re_str s_3983535845864)) (z_one (z_ret (r_catL (r_lcT C [("_", 2), ("branch", 3)] (r_ix C (re_var (i := 0)) re_int) (blkOk_by (by kernel_rfl)) (fun s H c cl fp => g_tup C.blk (gs_cons C.blk (gs_cons C.blk gs_nil))) (fun s H c cl fp => t_yes) (fun s H c cl fp => (re_var (i := 3))) (by decide)) (re_lst (a_cons (r_ix C (re_var (i := 0)) re_int) a_nil))))) z_nil)
    (z_one (z_ret (re_lst (a_cons (r_ix C (re_var (i := 0)) re_neg) a_nil))))))))))
theorem sc_shown_plain : FnScope ["value"] ["value"] (defScope st_shown_plain) := ⟨rfl, rfl, rfl, by decide +kernel, rfl, by decide +kernel, by decide +kernel⟩
theorem fo_shown_plain {G : Gm} (F : FZ G) : Fo G 1 (He.fAd G.K ("shown_plain", none)) ["value"] m_shown_plain := fo_of (dd_shown_plain F) sc_shown_plain rfl rfl (fun _ _ _ _ _ _ us hl => match us, hl with | [_], _ => rfl) fun cdv A outer s H E C =>
  (z_one (z_ret (r_ifE (v_val (r_isInt C (F.free 7 _ rfl) (F.free 1 _ rfl) (re_var (i := 0)))) (re_var (i := 0)) (re_tup (a_cons (re_str s_13166) (a_cons (r_ix C (re_var (i := 0)) re_int) a_nil))))))
theorem sc_Link_init : FnScope ["self", "name", "value", "outer"] ["self", "name", "value", "outer"] (defScope st_Link_init) := ⟨rfl, rfl, rfl, by decide +kernel, rfl, by decide +kernel, by decide +kernel⟩
theorem fo_Link_init {G : Gm} (F : FZ G) : Fo G 1 (He.fAd G.K ("Link", some "__init__")) ["self", "name", "value", "outer"] m_Link_init := fo_of (dd_Link_init F) sc_Link_init rfl rfl (fun _ _ _ _ _ _ us hl => match us, hl with | [_, _, _, _], _ => rfl) fun cdv A outer s H E C =>
  (z_cons (z_setF C (F.cl 5 (by decide)) (re_var (i := 0)) (re_var (i := 1)))
    (z_cons (z_setF C (F.cl 5 (by decide)) (re_var (i := 0)) (re_var (i := 2)))
    (z_one (z_setF C (F.cl 5 (by decide)) (re_var (i := 0)) (re_var (i := 3))))))
theorem sc_find : FnScope ["link", "name"] ["link", "name"] (defScope st_find) := ⟨rfl, rfl, rfl, by decide +kernel, rfl, by decide +kernel, by decide +kernel⟩
theorem fo_find {G : Gm} (F : FZ G) : Fo G 1 (He.fAd G.K ("find", none)) ["link", "name"] m_find := fo_of (dd_find F) sc_find rfl rfl (fun _ _ _ _ _ _ us hl => match us, hl with | [_, _], _ => rfl) fun cdv A outer s H E C =>
  (z_cons (z_while C (v_ne (r_fld C (F.cl 5 (by decide)) (re_var (i := 0))) (re_var (i := 1))) (z_one (z_set C (r_fld C (F.cl 5 (by decide)) (re_var (i := 0))))))
    (z_one (z_ret (r_fld C (F.cl 5 (by decide)) (re_var (i := 0))))))
theorem sc_PlainRun_init : FnScope ["self", "plain", "fuel"] ["self", "plain", "fuel"] (defScope st_PlainRun_init) := ⟨rfl, rfl, rfl, by decide +kernel, rfl, by decide +kernel, by decide +kernel⟩
theorem fo_PlainRun_init {G : Gm} (F : FZ G) : Fo G 1 (He.fAd G.K ("PlainRun", some "__init__")) ["self", "plain", "fuel"] m_PlainRun_init := fo_of (dd_PlainRun_init F) sc_PlainRun_init rfl rfl (fun _ _ _ _ _ _ us hl => match us, hl with | [_, _, _], _ => rfl) fun cdv A outer s H E C =>
  (z_cons (z_setF C (F.cl 6 (by decide)) (re_var (i := 0)) (re_var (i := 1)))
    (z_cons (z_setF C (F.cl 6 (by decide)) (re_var (i := 0)) (re_tup (a_cons re_non (a_cons re_non a_nil))))
    (z_cons (z_setF C (F.cl 6 (by decide)) (re_var (i := 0)) (re_var (i := 2)))
    (z_cons (z_setF C (F.cl 6 (by decide)) (re_var (i := 0)) (re_lst a_nil))
    (z_cons (z_setF C (F.cl 6 (by decide)) (re_var (i := 0)) re_dictK)
    (z_cons (z_setF C (F.cl 6 (by decide)) (re_var (i := 0)) (re_lst a_nil))
    (z_one (z_setF C (F.cl 6 (by decide)) (re_var (i := 0)) re_non))))))))
theorem sc_PlainRun_go : FnScope ["self", "e", "names"] ["self", "e", "names"] (defScope st_PlainRun_go) := ⟨rfl, rfl, rfl, by decide +kernel, rfl, by decide +kernel, by decide +kernel⟩
theorem fo_PlainRun_go {G : Gm} (F : FZ G) : Fo G 1 (He.fAd G.K ("PlainRun", some "go")) ["self", "e", "names"] m_PlainRun_go := fo_of (dd_PlainRun_go F) sc_PlainRun_go rfl rfl (fun _ _ _ _ _ _ us hl => match us, hl with | [_, _, _], _ => rfl) fun cdv A outer s H E C =>
  (z_cons (z_setF C (F.cl 6 (by decide)) (re_var (i := 0)) (re_var (i := 1)))
    (z_one (z_setF C (F.cl 6 (by decide)) (re_var (i := 0)) (re_var (i := 2)))))
theorem sc_PlainRun_step : FnScope ["self"] ["self"] (defScope st_PlainRun_step) := ⟨rfl, rfl, rfl, by decide +kernel, rfl, by decide +kernel, by decide +kernel⟩
theorem fo_PlainRun_step {G : Gm} (F : FZ G) : Fo G 1 (He.fAd G.K ("PlainRun", some "step")) ["self"] m_PlainRun_step := fo_of (dd_PlainRun_step F) sc_PlainRun_step rfl rfl (fun _ _ _ _ _ _ us hl => match us, hl with | [_], _ => rfl) fun cdv A outer s H E C =>
  (z_cons (z_if (v_eq (r_fld C (F.cl 6 (by decide)) (re_var (i := 0))) re_int) (z_cons (z_setF C (F.cl 6 (by decide)) (re_var (i := 0)) (re_tup (a_cons (re_str s_230422885) a_nil)))
    (z_one (z_ret re_bl))) z_nil)
    (z_cons (z_subF C (F.cl 6 (by decide)) (re_var (i := 0)) re_int)
    (z_one (z_ret re_bl))))
theorem sc_PlainRun_wait : FnScope ["self", "frame"] ["self", "frame"] (defScope st_PlainRun_wait) := ⟨rfl, rfl, rfl, by decide +kernel, rfl, by decide +kernel, by decide +kernel⟩
theorem fo_PlainRun_wait {G : Gm} (F : FZ G) : Fo G 1 (He.fAd G.K ("PlainRun", some "wait")) ["self", "frame"] m_PlainRun_wait := fo_of (dd_PlainRun_wait F) sc_PlainRun_wait rfl rfl (fun _ _ _ _ _ _ us hl => match us, hl with | [_, _], _ => rfl) fun cdv A outer s H E C =>
  (z_one (z_expr (r_append C (r_fld C (F.cl 6 (by decide)) (re_var (i := 0))) (a_cons (re_var (i := 1)) a_nil))))
theorem sc_chosen : FnScope ["e", "number", "other", "branch"] ["e", "number"] (defScope st_chosen) := ⟨rfl, rfl, rfl, by decide +kernel, rfl, by decide +kernel, by decide +kernel⟩
theorem fo_chosen {G : Gm} (F : FZ G) : Fo G 1 (He.fAd G.K ("chosen", none)) ["e", "number"] m_chosen := fo_of (dd_chosen F) sc_chosen rfl rfl (fun _ _ _ _ _ _ us hl => match us, hl with | [_, _], _ => rfl) fun cdv A outer s H E C =>
  (z_cons (z_forT C (r_ix C (re_var (i := 0)) re_int) (g_tup C (gs_cons C (gs_cons C gs_nil))) (z_one (z_if (v_eq (re_var (i := 2)) (re_var (i := 1))) (z_one (z_ret (re_var (i := 3)))) z_nil)))
    (z_one (z_ret (r_ix C (re_var (i := 0)) re_int))))
theorem sc_PlainRun_pass_through : FnScope ["self", "e", "kind", "body", "names"] ["self", "e", "kind"] (defScope st_PlainRun_pass_through) := ⟨rfl, rfl, rfl, by decide +kernel, rfl, by decide +kernel, by decide +kernel⟩
theorem fo_PlainRun_pass_through {G : Gm} (F : FZ G) : Fo G 3 (He.fAd G.K ("PlainRun", some "pass_through")) ["self", "e", "kind"] m_PlainRun_pass_through := fo_of (dd_PlainRun_pass_through F) sc_PlainRun_pass_through rfl rfl (fun _ _ _ _ _ _ us hl => match us, hl with | [_, _, _], _ => rfl) fun cdv A outer s H E C =>
  (z_one (z_if (v_eq (re_var (i := 2)) (re_str s_245002731)) (z_one (z_if (v_val (r_meth0 C (fo_PlainRun_step F) (F.cl 6 (by decide)) (F.mt 19 _ _ _ rfl) (re_var (i := 0)))) (z_one (z_expr (r_meth C (fo_PlainRun_go F) (F.cl 6 (by decide)) (F.mt 17 _ _ _ rfl) (re_var (i := 0)) (a_cons (r_ix C (re_var (i := 1)) re_int) (a_cons (r_fld C (F.cl 6 (by decide)) (re_var (i := 0))) a_nil))))) z_nil)) (z_one (z_if (v_eq (re_var (i := 2)) (re_str s_27057139961)) (z_one (z_expr (r_meth C (fo_PlainRun_go F) (F.cl 6 (by decide)) (F.mt 17 _ _ _ rfl) (re_var (i := 0)) (a_cons (r_ix C (re_var (i := 1)) re_int) (a_cons (re_tup (a_cons (r_ix C (r_fld C (F.cl 6 (by decide)) (re_var (i := 0))) re_int) (a_cons (r_make C (fo_Link_init F) (F.mkr 5 _ rfl) (F.cg 5 _ rfl) (a_cons (r_ix C (re_var (i := 1)) re_int) (a_cons (re_tup (a_cons (r_ix C (re_var (i := 1)) re_int) (a_cons (r_fld C (F.cl 6 (by decide)) (re_var (i := 0))) a_nil))) (a_cons (r_ix C (r_fld C (F.cl 6 (by decide)) (re_var (i := 0))) re_int) a_nil)))) a_nil))) a_nil))))) (z_one (z_if (v_eq (re_var (i := 2)) (re_str s_27615080933)) (z_cons (z_unp C (r_call C (fo_find F) (F.glo 9 _ rfl) (a_cons (r_ix C (r_fld C (F.cl 6 (by decide)) (re_var (i := 0))) re_int) (a_cons (r_ix C (re_var (i := 1)) re_int) a_nil))) (gs_cons C (gs_cons C gs_nil)))
    (z_one (z_expr (r_meth C (fo_PlainRun_go F) (F.cl 6 (by decide)) (F.mt 17 _ _ _ rfl) (re_var (i := 0)) (a_cons (re_var (i := 3)) (a_cons (re_var (i := 4)) a_nil)))))) (z_one (z_if (v_eq (re_var (i := 2)) (re_str s_3983535845864)) (z_one (z_expr (r_meth C (fo_PlainRun_go F) (F.cl 6 (by decide)) (F.mt 17 _ _ _ rfl) (re_var (i := 0)) (a_cons (r_call C (fo_chosen F) (F.glo 11 _ rfl) (a_cons (re_var (i := 1)) (a_cons (r_get2 C (r_fld C (F.cl 6 (by decide)) (re_var (i := 0))) (r_ix C (re_var (i := 1)) re_int) re_int) a_nil))) (a_cons (r_fld C (F.cl 6 (by decide)) (re_var (i := 0))) a_nil))))) (z_cons (z_expr (r_meth C (fo_PlainRun_wait F) (F.cl 6 (by decide)) (F.mt 18 _ _ _ rfl) (re_var (i := 0)) (a_cons (re_tup (a_cons (re_str s_1897204) (a_cons (r_ix C (re_var (i := 1)) re_int) (a_cons (r_get2 C (r_fld C (F.cl 6 (by decide)) (re_var (i := 0))) (r_ix C (re_var (i := 1)) re_int) re_int) a_nil)))) a_nil)))
    (z_cons (z_dput C (r_fld C (F.cl 6 (by decide)) (re_var (i := 0))) (r_ix C (re_var (i := 1)) re_int) (r_ix C (re_var (i := 1)) re_int))
    (z_one (z_expr (r_meth C (fo_PlainRun_go F) (F.cl 6 (by decide)) (F.mt 17 _ _ _ rfl) (re_var (i := 0)) (a_cons (r_ix C (re_var (i := 1)) re_int) (a_cons (r_fld C (F.cl 6 (by decide)) (re_var (i := 0))) a_nil)))))))))))))))
theorem sc_PlainRun_begin : FnScope ["self", "e", "kind"] ["self"] (defScope st_PlainRun_begin) := ⟨rfl, rfl, rfl, by decide +kernel, rfl, by decide +kernel, by decide +kernel⟩
theorem fo_PlainRun_begin {G : Gm} (F : FZ G) : Fo G 4 (He.fAd G.K ("PlainRun", some "begin")) ["self"] m_PlainRun_begin := fo_of (dd_PlainRun_begin F) sc_PlainRun_begin rfl rfl (fun _ _ _ _ _ _ us hl => match us, hl with | [_], _ => rfl) fun cdv A outer s H E C =>
  (z_cons (z_set C (r_fld C (F.cl 6 (by decide)) (re_var (i := 0))))
    (z_cons (z_set C (r_ix C (re_var (i := 1)) re_int))
    (z_cons (z_if (v_eq (re_var (i := 2)) (re_str s_1817325)) (z_one (z_ret (r_ix C (re_var (i := 1)) re_int))) z_nil)
    (z_cons (z_if (v_eq (re_var (i := 2)) (re_str s_232290021)) (z_one (z_ret (r_call C (fo_find F) (F.glo 9 _ rfl) (a_cons (r_ix C (r_fld C (F.cl 6 (by decide)) (re_var (i := 0))) re_int) (a_cons (r_ix C (re_var (i := 1)) re_int) a_nil))))) z_nil)
    (z_cons (z_if (v_eq (re_var (i := 2)) (re_str s_13166)) (z_one (z_ret (re_tup (a_cons (re_str s_13166) (a_cons (r_ix C (re_var (i := 1)) re_int) (a_cons (r_ix C (re_var (i := 1)) re_int) (a_cons (r_ix C (re_var (i := 1)) re_int) (a_cons (r_fld C (F.cl 6 (by decide)) (re_var (i := 0))) a_nil)))))))) z_nil)
    (z_cons (z_if (v_eq (re_var (i := 2)) (re_str s_1850100)) (z_cons (z_dput C (r_fld C (F.cl 6 (by decide)) (re_var (i := 0))) (r_ix C (re_var (i := 1)) re_int) (r_ix C (re_var (i := 1)) re_int))
    (z_one (z_ret re_int))) z_nil)
    (z_cons (z_if (v_inS C (re_var (i := 2)) (re_tup (a_cons (re_str s_209221228) (a_cons (re_str s_1899245) (a_cons (re_str s_228162035) (a_cons (re_str s_13542) (a_cons (re_str s_1896697) (a_cons (re_str s_1782516) a_nil)))))))) (z_cons (z_expr (r_meth C (fo_PlainRun_wait F) (F.cl 6 (by decide)) (F.mt 18 _ _ _ rfl) (re_var (i := 0)) (a_cons (re_tup (a_cons (re_var (i := 2)) (a_cons (re_var (i := 1)) (a_cons (r_fld C (F.cl 6 (by decide)) (re_var (i := 0))) a_nil)))) a_nil)))
    (z_one (z_expr (r_meth C (fo_PlainRun_go F) (F.cl 6 (by decide)) (F.mt 17 _ _ _ rfl) (re_var (i := 0)) (a_cons (r_ix C (re_var (i := 1)) re_int) (a_cons (r_fld C (F.cl 6 (by decide)) (re_var (i := 0))) a_nil)))))) (z_one (z_expr (r_meth C (fo_PlainRun_pass_through F) (F.cl 6 (by decide)) (F.mt 22 _ _ _ rfl) (re_var (i := 0)) (a_cons (re_var (i := 1)) (a_cons (re_var (i := 2)) a_nil))))))
    (z_one (z_ret re_non)))))))))
theorem sc_PlainRun_stick : FnScope ["self", "level"] ["self", "level"] (defScope st_PlainRun_stick) := ⟨rfl, rfl, rfl, by decide +kernel, rfl, by decide +kernel, by decide +kernel⟩
theorem fo_PlainRun_stick {G : Gm} (F : FZ G) : Fo G 1 (He.fAd G.K ("PlainRun", some "stick")) ["self", "level"] m_PlainRun_stick := fo_of (dd_PlainRun_stick F) sc_PlainRun_stick rfl rfl (fun _ _ _ _ _ _ us hl => match us, hl with | [_, _], _ => rfl) fun cdv A outer s H E C =>
  (z_one (z_setF C (F.cl 6 (by decide)) (re_var (i := 0)) (re_tup (a_cons (re_str s_31115276779) (a_cons (re_var (i := 1)) a_nil)))))
theorem sc_PlainRun_decide : FnScope ["self", "e", "names", "value"] ["self", "e", "names", "value"] (defScope st_PlainRun_decide) := ⟨rfl, rfl, rfl, by decide +kernel, rfl, by decide +kernel, by decide +kernel⟩
theorem fo_PlainRun_decide {G : Gm} (F : FZ G) : Fo G 2 (He.fAd G.K ("PlainRun", some "decide")) ["self", "e", "names", "value"] m_PlainRun_decide := fo_of (dd_PlainRun_decide F) sc_PlainRun_decide rfl rfl (fun _ _ _ _ _ _ us hl => match us, hl with | [_, _, _, _], _ => rfl) fun cdv A outer s H E C =>
  (z_one (z_if (v_not (v_val (r_isInt C (F.free 7 _ rfl) (F.free 1 _ rfl) (re_var (i := 3))))) (z_one (z_expr (r_meth C (fo_PlainRun_stick F) (F.cl 6 (by decide)) (F.mt 20 _ _ _ rfl) (re_var (i := 0)) (a_cons (r_ix C (re_var (i := 1)) re_int) a_nil)))) (z_one (z_expr (r_meth C (fo_PlainRun_go F) (F.cl 6 (by decide)) (F.mt 17 _ _ _ rfl) (re_var (i := 0)) (a_cons (r_ifE (v_ne (re_var (i := 3)) re_int) (r_ix C (re_var (i := 1)) re_int) (r_ix C (re_var (i := 1)) re_int)) (a_cons (re_var (i := 2)) a_nil)))))))
theorem sc_with_name_plain : FnScope ["names", "x", "value"] ["names", "x", "value"] (defScope st_with_name_plain) := ⟨rfl, rfl, rfl, by decide +kernel, rfl, by decide +kernel, by decide +kernel⟩
theorem fo_with_name_plain {G : Gm} (F : FZ G) : Fo G 3 (He.fAd G.K ("with_name_plain", none)) ["names", "x", "value"] m_with_name_plain := fo_of (dd_with_name_plain F) sc_with_name_plain rfl rfl (fun _ _ _ _ _ _ us hl => match us, hl with | [_, _, _], _ => rfl) fun cdv A outer s H E C =>
  (z_one (z_ret (re_tup (a_cons (r_make C (fo_Link_init F) (F.mkr 5 _ rfl) (F.cg 5 _ rfl) (a_cons (re_var (i := 1)) (a_cons (re_var (i := 2)) (a_cons (r_ix C (re_var (i := 0)) re_int) a_nil)))) (a_cons (r_ix C (re_var (i := 0)) re_int) a_nil)))))
theorem sc_PlainRun_enter : FnScope ["self", "level", "function", "argument"] ["self", "level", "function", "argument"] (defScope st_PlainRun_enter) := ⟨rfl, rfl, rfl, by decide +kernel, rfl, by decide +kernel, by decide +kernel⟩
theorem fo_PlainRun_enter {G : Gm} (F : FZ G) : Fo G 4 (He.fAd G.K ("PlainRun", some "enter")) ["self", "level", "function", "argument"] m_PlainRun_enter := fo_of (dd_PlainRun_enter F) sc_PlainRun_enter rfl rfl (fun _ _ _ _ _ _ us hl => match us, hl with | [_, _, _, _], _ => rfl) fun cdv A outer s H E C =>
  (z_one (z_if (w_or (v_val (r_isInt C (F.free 7 _ rfl) (F.free 1 _ rfl) (re_var (i := 2)))) (w_or1 (v_ne (r_ix C (re_var (i := 2)) re_int) (re_var (i := 1))))).pt (z_one (z_expr (r_meth C (fo_PlainRun_stick F) (F.cl 6 (by decide)) (F.mt 20 _ _ _ rfl) (re_var (i := 0)) (a_cons (re_var (i := 1)) a_nil)))) (z_one (z_if (v_val (r_meth0 C (fo_PlainRun_step F) (F.cl 6 (by decide)) (F.mt 19 _ _ _ rfl) (re_var (i := 0)))) (z_one (z_expr (r_meth C (fo_PlainRun_go F) (F.cl 6 (by decide)) (F.mt 17 _ _ _ rfl) (re_var (i := 0)) (a_cons (r_ix C (re_var (i := 2)) re_int) (a_cons (r_call C (fo_with_name_plain F) (F.glo 10 _ rfl) (a_cons (r_ix C (re_var (i := 2)) re_int) (a_cons (r_ix C (re_var (i := 2)) re_int) (a_cons (re_var (i := 3)) a_nil)))) a_nil))))) z_nil))))
theorem sc_PlainRun_operate : FnScope ["self", "e", "first", "second"] ["self", "e", "first", "second"] (defScope st_PlainRun_operate) := ⟨rfl, rfl, rfl, by decide +kernel, rfl, by decide +kernel, by decide +kernel⟩
theorem fo_PlainRun_operate {G : Gm} (F : FZ G) : Fo G 5 (He.fAd G.K ("PlainRun", some "operate")) ["self", "e", "first", "second"] m_PlainRun_operate := fo_of (dd_PlainRun_operate F) sc_PlainRun_operate rfl rfl (fun _ _ _ _ _ _ us hl => match us, hl with | [_, _, _, _], _ => rfl) fun cdv A outer s H E C =>
  (z_cons (z_if (v_eq (r_ix C (re_var (i := 1)) re_int) (re_str s_209221228)) (z_cons (z_expr (r_meth C (fo_PlainRun_enter F) (F.cl 6 (by decide)) (F.mt 26 _ _ _ rfl) (re_var (i := 0)) (a_cons (r_ix C (re_var (i := 1)) re_int) (a_cons (re_var (i := 2)) (a_cons (re_var (i := 3)) a_nil)))))
    (z_one (z_ret re_non))) z_nil)
    (z_cons (z_if (w_or (v_not (v_val (r_isInt C (F.free 7 _ rfl) (F.free 1 _ rfl) (re_var (i := 2))))) (w_or1 (v_not (v_val (r_isInt C (F.free 7 _ rfl) (F.free 1 _ rfl) (re_var (i := 3))))))).pt (z_cons (z_expr (r_meth C (fo_PlainRun_stick F) (F.cl 6 (by decide)) (F.mt 20 _ _ _ rfl) (re_var (i := 0)) (a_cons (r_ix C (re_var (i := 1)) re_int) a_nil)))
    (z_one (z_ret re_non))) z_nil)
    (z_one (z_ret (r_ifE (v_eq (r_ix C (re_var (i := 1)) re_int) (re_str s_1899245)) (r_add (re_var (i := 2)) (re_var (i := 3))) (r_int C (F.free 1 _ rfl) (a_cons (r_lt (re_var (i := 2)) (re_var (i := 3))) a_nil)))))))
theorem sc_PlainRun_resume : FnScope ["self", "value", "frame", "kind", "e", "names"] ["self", "value"] (defScope st_PlainRun_resume) := ⟨rfl, rfl, rfl, by decide +kernel, rfl, by decide +kernel, by decide +kernel⟩
theorem fo_PlainRun_resume {G : Gm} (F : FZ G) : Fo G 6 (He.fAd G.K ("PlainRun", some "resume")) ["self", "value"] m_PlainRun_resume := fo_of (dd_PlainRun_resume F) sc_PlainRun_resume rfl rfl (fun _ _ _ _ _ _ us hl => match us, hl with | [_, _], _ => rfl) fun cdv A outer s H E C =>
  (z_cons (z_if (v_not (v_tru C (r_fld C (F.cl 6 (by decide)) (re_var (i := 0))))) (z_cons (z_setF C (F.cl 6 (by decide)) (re_var (i := 0)) (re_tup (a_cons (re_str s_31880592101) (a_cons (r_call C (fo_shown_plain F) (F.glo 8 _ rfl) (a_cons (re_var (i := 1)) a_nil)) a_nil))))
    (z_one (z_ret re_non))) z_nil)
    (z_cons (z_set C (r_pop C (r_fld C (F.cl 6 (by decide)) (re_var (i := 0)))))
    (z_cons (z_set C (r_ix C (re_var (i := 2)) re_int))
    (z_cons (z_if (v_eq (re_var (i := 3)) (re_str s_1897204)) (z_cons (z_dput C (r_fld C (F.cl 6 (by decide)) (re_var (i := 0))) (r_ix C (re_var (i := 2)) re_int) (r_ix C (re_var (i := 2)) re_int))
    (z_one (z_ret (re_var (i := 1))))) z_nil)
    (z_cons (z_if (v_eq (re_var (i := 3)) (re_str s_3978691344228)) (z_one (z_ret (r_meth C (fo_PlainRun_operate F) (F.cl 6 (by decide)) (F.mt 25 _ _ _ rfl) (re_var (i := 0)) (a_cons (r_ix C (re_var (i := 2)) re_int) (a_cons (r_ix C (re_var (i := 2)) re_int) (a_cons (re_var (i := 1)) a_nil)))))) z_nil)
    (z_cons (z_par C (a_cons (r_ix C (re_var (i := 2)) re_int) (a_cons (r_ix C (re_var (i := 2)) re_int) a_nil)))
    (z_cons (z_if (v_eq (re_var (i := 3)) (re_str s_1896697)) (z_cons (z_expr (r_append C (r_fld C (F.cl 6 (by decide)) (re_var (i := 0))) (a_cons (re_tup (a_cons (r_ix C (re_var (i := 4)) re_int) (a_cons (r_call C (fo_shown_plain F) (F.glo 8 _ rfl) (a_cons (re_var (i := 1)) a_nil)) a_nil))) a_nil)))
    (z_one (z_ret (re_var (i := 1))))) z_nil)
    (z_cons (z_if (v_eq (re_var (i := 3)) (re_str s_1782516)) (z_one (z_expr (r_meth C (fo_PlainRun_go F) (F.cl 6 (by decide)) (F.mt 17 _ _ _ rfl) (re_var (i := 0)) (a_cons (r_ix C (re_var (i := 4)) re_int) (a_cons (r_call C (fo_with_name_plain F) (F.glo 10 _ rfl) (a_cons (re_var (i := 5)) (a_cons (r_ix C (re_var (i := 4)) re_int) (a_cons (re_var (i := 1)) a_nil)))) a_nil))))) (z_one (z_if (v_eq (re_var (i := 3)) (re_str s_13542)) (z_one (z_expr (r_meth C (fo_PlainRun_decide F) (F.cl 6 (by decide)) (F.mt 24 _ _ _ rfl) (re_var (i := 0)) (a_cons (re_var (i := 4)) (a_cons (re_var (i := 5)) (a_cons (re_var (i := 1)) a_nil)))))) (z_cons (z_expr (r_meth C (fo_PlainRun_wait F) (F.cl 6 (by decide)) (F.mt 18 _ _ _ rfl) (re_var (i := 0)) (a_cons (re_tup (a_cons (re_str s_3978691344228) (a_cons (re_var (i := 4)) (a_cons (re_var (i := 1)) a_nil)))) a_nil)))
    (z_one (z_expr (r_meth C (fo_PlainRun_go F) (F.cl 6 (by decide)) (F.mt 17 _ _ _ rfl) (re_var (i := 0)) (a_cons (r_ix C (re_var (i := 4)) re_int) (a_cons (re_var (i := 5)) a_nil)))))))))
    (z_one (z_ret re_non))))))))))
theorem sc_PlainRun_run : FnScope ["self", "value"] ["self"] (defScope st_PlainRun_run) := ⟨rfl, rfl, rfl, by decide +kernel, rfl, by decide +kernel, by decide +kernel⟩
theorem fo_PlainRun_run {G : Gm} (F : FZ G) : Fo G 7 (He.fAd G.K ("PlainRun", some "run")) ["self"] m_PlainRun_run := fo_of (dd_PlainRun_run F) sc_PlainRun_run rfl rfl (fun _ _ _ _ _ _ us hl => match us, hl with | [_], _ => rfl) fun cdv A outer s H E C =>
  (z_one (z_while C (v_isN (r_fld C (F.cl 6 (by decide)) (re_var (i := 0))) re_non) (z_cons (z_set C (r_meth0 C (fo_PlainRun_begin F) (F.cl 6 (by decide)) (F.mt 21 _ _ _ rfl) (re_var (i := 0))))
    (z_one (z_while C (w_and (v_notN (re_var (i := 1)) re_non) (w_and1 (v_isN (r_fld C (F.cl 6 (by decide)) (re_var (i := 0))) re_non))).pt (z_one (z_set C (r_meth C (fo_PlainRun_resume F) (F.cl 6 (by decide)) (F.mt 23 _ _ _ rfl) (re_var (i := 0)) (a_cons (re_var (i := 1)) a_nil)))))))))
theorem sc_run_plain : FnScope ["plain", "fuel", "run"] ["plain", "fuel"] (defScope st_run_plain) := ⟨rfl, rfl, rfl, by decide +kernel, rfl, by decide +kernel, by decide +kernel⟩
theorem fo_run_plain {G : Gm} (F : FZ G) : Fo G 8 (He.fAd G.K ("run_plain", none)) ["plain", "fuel"] m_run_plain := fo_of (dd_run_plain F) sc_run_plain rfl rfl (fun _ _ _ _ _ _ us hl => match us, hl with | [_, _], _ => rfl) fun cdv A outer s H E C =>
  (z_cons (z_set C (r_make C (fo_PlainRun_init F) (F.mkr 6 _ rfl) (F.cg 6 _ rfl) (a_cons (re_var (i := 0)) (a_cons (re_var (i := 1)) a_nil))))
    (z_cons (z_expr (r_meth0 C (fo_PlainRun_run F) (F.cl 6 (by decide)) (F.mt 16 _ _ _ rfl) (re_var (i := 2))))
    (z_one (z_ret (re_tup (a_cons (r_tuple C (F.free 4 _ rfl) (a_cons (r_fld C (F.cl 6 (by decide)) (re_var (i := 2))) a_nil)) (a_cons (r_fld C (F.cl 6 (by decide)) (re_var (i := 2))) a_nil)))))))
theorem sc_bound : FnScope ["e"] ["e"] (defScope st_bound) := ⟨rfl, rfl, rfl, by decide +kernel, rfl, by decide +kernel, by decide +kernel⟩
theorem fo_bound {G : Gm} (F : FZ G) : Fo G 1 (He.fAd G.K ("bound", none)) ["e"] m_bound := fo_of (dd_bound F) sc_bound rfl rfl (fun _ _ _ _ _ _ us hl => match us, hl with | [_], _ => rfl) fun cdv A outer s H E C =>
  (z_cons (z_if (v_eq (r_ix C (re_var (i := 0)) re_int) (re_str s_1782516)) (z_one (z_ret (re_tup (a_cons (re_str s_31880592101) (a_cons (r_ix C (re_var (i := 0)) re_int) a_nil))))) z_nil)
    (z_cons (z_if (v_eq (r_ix C (re_var (i := 0)) re_int) (re_str s_13166)) (z_one (z_ret (re_tup (a_cons (re_str s_31880592101) (a_cons (r_ix C (re_var (i := 0)) re_int) a_nil))))) z_nil)
    (z_one (z_ret (r_ifE (v_eq (r_ix C (re_var (i := 0)) re_int) (re_str s_27057139961)) (re_tup (a_cons (re_str s_27057139961) (a_cons (r_ix C (re_var (i := 0)) re_int) a_nil))) re_non)))))
theorem sc_Layout_find_free : FnScope ["self", "index", "found", "kid", "binder"] ["self"] (defScope st_Layout_find_free) := ⟨rfl, rfl, rfl, by decide +kernel, rfl, by decide +kernel, by decide +kernel⟩
theorem fo_Layout_find_free {G : Gm} (F : FZ G) : Fo G 1 (He.fAd G.K ("Layout", some "find_free")) ["self"] m_Layout_find_free := fo_of (dd_Layout_find_free F) sc_Layout_find_free rfl rfl (fun _ _ _ _ _ _ us hl => match us, hl with | [_], _ => rfl) fun cdv A outer s H E C =>
  (z_one (z_forR3 C (F.free 9 _ rfl) (a_cons (r_sub (r_len C (F.free 0 _ rfl) (a_cons (r_fld C (F.cl 7 (by decide)) (re_var (i := 0))) a_nil)) re_int) (a_cons re_neg (a_cons re_neg a_nil))) (g_one C) (z_cons (z_set C (r_ix C (r_fld C (F.cl 7 (by decide)) (re_var (i := 0))) (re_var (i := 1))))
    (z_cons (z_if (v_din C (re_var (i := 1)) (r_fld C (F.cl 7 (by decide)) (re_var (i := 0)))) (z_one (z_dput C (re_var (i := 2)) (r_dget C (r_fld C (F.cl 7 (by decide)) (re_var (i := 0))) (re_var (i := 1))) re_bl)) z_nil)
    (z_one (z_forL C (r_ix C (r_fld C (F.cl 7 (by decide)) (re_var (i := 0))) (re_var (i := 1))) (g_one C) (z_one (z_forK C (r_ix C (r_fld C (F.cl 7 (by decide)) (re_var (i := 0))) (re_var (i := 3))) (g_one C) (z_one (z_if (v_ne (re_var (i := 4)) (re_var (i := 1))) (z_one (z_dput C (re_var (i := 2)) (re_var (i := 4)) re_bl)) z_nil))))))))))
theorem sc_Layout_place : FnScope ["self", "e", "parent", "index", "found"] ["self", "e", "parent"] (defScope st_Layout_place) := ⟨rfl, rfl, rfl, by decide +kernel, rfl, by decide +kernel, by decide +kernel⟩
theorem fo_Layout_place {G : Gm} (F : FZ G) : Fo G 1 (He.fAd G.K ("Layout", some "place")) ["self", "e", "parent"] m_Layout_place := fo_of (dd_Layout_place F) sc_Layout_place rfl rfl (fun _ _ _ _ _ _ us hl => match us, hl with | [_, _, _], _ => rfl) fun cdv A outer s H E C =>
  (z_cons (z_set C (r_len C (F.free 0 _ rfl) (a_cons (r_fld C (F.cl 7 (by decide)) (re_var (i := 0))) a_nil)))
    (z_cons (z_expr (r_append C (r_fld C (F.cl 7 (by decide)) (re_var (i := 0))) (a_cons (re_var (i := 1)) a_nil)))
    (z_cons (z_expr (r_append C (r_fld C (F.cl 7 (by decide)) (re_var (i := 0))) (a_cons (re_lst a_nil) a_nil)))
    (z_cons (z_if (v_ge (re_var (i := 2)) re_int) (z_one (z_expr (r_append C (r_ix C (r_fld C (F.cl 7 (by decide)) (re_var (i := 0))) (re_var (i := 2))) (a_cons (re_var (i := 3)) a_nil)))) z_nil)
    (z_cons (z_if (v_inS C (r_ix C (re_var (i := 1)) re_int) (re_tup (a_cons (re_str s_232290021) (a_cons (re_str s_27615080933) a_nil)))) (z_cons (z_set C (r_get2 C (r_fld C (F.cl 7 (by decide)) (re_var (i := 0))) (re_tup (a_cons (r_ifE (v_eq (r_ix C (re_var (i := 1)) re_int) (re_str s_232290021)) (re_str s_31880592101) (re_str s_27057139961)) (a_cons (r_ix C (re_var (i := 1)) re_int) a_nil))) (re_lst a_nil)))
    (z_one (z_if (v_tru C (re_var (i := 4))) (z_one (z_dput C (r_fld C (F.cl 7 (by decide)) (re_var (i := 0))) (re_var (i := 3)) (r_ix C (re_var (i := 4)) re_neg))) z_nil))) z_nil)
    (z_one (z_ret (re_var (i := 3)))))))))
theorem sc_Layout_number : FnScope ["self", "plain", "left", "kind", "e", "parent", "key", "index", "parts", "part"] ["self", "plain"] (defScope st_Layout_number) := ⟨rfl, rfl, rfl, by decide +kernel, rfl, by decide +kernel, by decide +kernel⟩
theorem fo_Layout_number {G : Gm} (F : FZ G) : Fo G 2 (He.fAd G.K ("Layout", some "number")) ["self", "plain"] m_Layout_number := fo_of (dd_Layout_number F) sc_Layout_number rfl rfl (fun _ _ _ _ _ _ us hl => match us, hl with | [_, _], _ => rfl) fun cdv A outer s H E C =>
  (z_cons (z_set C (re_lst (a_cons (re_tup (a_cons (re_str s_27344581362) (a_cons (re_var (i := 1)) (a_cons re_neg (a_cons re_non a_nil))))) a_nil)))
    (z_one (z_while C (v_tru C (re_var (i := 2))) (z_cons (z_unp C (r_pop C (re_var (i := 2))) (gs_cons C (gs_cons C (gs_cons C (gs_cons C gs_nil)))))
    (z_one (z_if (v_eq (re_var (i := 3)) (re_str s_26520188142)) (z_one (z_expr (r_append C (r_setT C (r_fld C (F.cl 7 (by decide)) (re_var (i := 0))) (a_cons (re_var (i := 6)) (a_cons (re_lst a_nil) a_nil))) (a_cons (re_var (i := 5)) a_nil)))) (z_one (z_if (v_eq (re_var (i := 3)) (re_str s_1668964)) (z_one (z_expr (r_pop C (r_dget C (r_fld C (F.cl 7 (by decide)) (re_var (i := 0))) (re_var (i := 6)))))) (z_cons (z_set C (r_meth C (fo_Layout_place F) (F.cl 7 (by decide)) (F.mt 28 _ _ _ rfl) (re_var (i := 0)) (a_cons (re_var (i := 4)) (a_cons (re_var (i := 5)) a_nil))))
    (z_cons (z_setLcL C [("part", 9)] (r_call C (fo_inner F) (F.glo 7 _ rfl) (a_cons (re_var (i := 4)) a_nil)) (blkOk_by (by kernel_rfl)) (fun s H c cl fp => g_one C.blk) (fun s H c cl fp => t_yes) (fun s H c cl fp => (re_tup (a_cons (re_str s_27344581362) (a_cons (re_var (i := 9)) (a_cons (re_var (i := 7)) (a_cons re_non a_nil)))))) (by decide))
    (z_cons (z_set C (r_call C (fo_bound F) (F.glo 13 _ rfl) (a_cons (re_var (i := 4)) a_nil)))
    (z_cons (z_if (v_notN (re_var (i := 6)) re_non) (z_one (z_set C (r_catL (r_slL C (re_var (i := 8)) o_none (o_some re_neg)) (re_lst (a_cons (re_tup (a_cons (re_str s_26520188142) (a_cons re_non (a_cons (re_var (i := 7)) (a_cons (re_var (i := 6)) a_nil))))) (a_cons (r_ix C (re_var (i := 8)) re_neg) (a_cons (re_tup (a_cons (re_str s_1668964) (a_cons re_non (a_cons (re_var (i := 7)) (a_cons (re_var (i := 6)) a_nil))))) a_nil))))))) z_nil)
    (z_one (z_expr (r_extend C (re_var (i := 2)) (a_cons (r_rev C (re_var (i := 8))) a_nil))))))))))))))))
theorem sc_Layout_init : FnScope ["self", "plain", "node"] ["self", "plain"] (defScope st_Layout_init) := ⟨rfl, rfl, rfl, by decide +kernel, rfl, by decide +kernel, by decide +kernel⟩
theorem fo_Layout_init {G : Gm} (F : FZ G) : Fo G 3 (He.fAd G.K ("Layout", some "__init__")) ["self", "plain"] m_Layout_init := fo_of (dd_Layout_init F) sc_Layout_init rfl rfl (fun _ _ _ _ _ _ us hl => match us, hl with | [_, _], _ => rfl) fun cdv A outer s H E C =>
  (z_cons (z_setF C (F.cl 7 (by decide)) (re_var (i := 0)) (re_lst a_nil))
    (z_cons (z_setF C (F.cl 7 (by decide)) (re_var (i := 0)) (re_lst a_nil))
    (z_cons (z_setF C (F.cl 7 (by decide)) (re_var (i := 0)) re_dictK)
    (z_cons (z_setF C (F.cl 7 (by decide)) (re_var (i := 0)) re_dictT)
    (z_cons (z_expr (r_meth C (fo_Layout_number F) (F.cl 7 (by decide)) (F.mt 27 _ _ _ rfl) (re_var (i := 0)) (a_cons (re_var (i := 1)) a_nil)))
    (z_cons (z_setF C (F.cl 7 (by decide)) (re_var (i := 0)) (r_lcL C [("node", 2)] (r_fld C (F.cl 7 (by decide)) (re_var (i := 0))) (blkOk_by (by kernel_rfl)) (fun s H c cl fp => g_one C.blk) (fun s H c cl fp => t_yes) (fun s H c cl fp => re_dictK) (by decide)))
    (z_one (z_expr (r_meth0 C (fo_Layout_find_free F) (F.cl 7 (by decide)) (F.mt 29 _ _ _ rfl) (re_var (i := 0)))))))))))
theorem sc_Block_init : FnScope ["self", "compiler", "binders", "argument", "place", "binder"] ["self", "compiler", "binders", "argument"] (defScope st_Block_init) := ⟨rfl, rfl, rfl, by decide +kernel, rfl, by decide +kernel, by decide +kernel⟩
theorem fo_Block_init {G : Gm} (F : FZ G) : Fo G 1 (He.fAd G.K ("Block", some "__init__")) ["self", "compiler", "binders", "argument"] m_Block_init := fo_of (dd_Block_init F) sc_Block_init rfl rfl (fun _ _ _ _ _ _ us hl => match us, hl with | [_, _, _, _], _ => rfl) fun cdv A outer s H E C =>
  (z_cons (z_setF C (F.cl 8 (by decide)) (re_var (i := 0)) (re_var (i := 1)))
    (z_cons (z_setF C (F.cl 8 (by decide)) (re_var (i := 0)) (r_fld C (F.cl 9 (by decide)) (re_var (i := 1))))
    (z_cons (z_setF C (F.cl 8 (by decide)) (re_var (i := 0)) (re_lst a_nil))
    (z_cons (z_setF C (F.cl 8 (by decide)) (re_var (i := 0)) re_dictK)
    (z_cons (z_setF C (F.cl 8 (by decide)) (re_var (i := 0)) (r_add (r_len C (F.free 0 _ rfl) (a_cons (re_var (i := 2)) a_nil)) (r_ifE (v_isN (re_var (i := 3)) re_non) re_int re_int)))
    (z_cons (z_setF C (F.cl 8 (by decide)) (re_var (i := 0)) (r_dcE C (F.free 8 _ rfl) [("place", 4), ("binder", 5)] (re_var (i := 2)) (blkOk_by (by kernel_rfl)) (fun s H c cl fp => g_tup C.blk (gs_cons C.blk (gs_cons C.blk gs_nil))) (fun s H c cl fp => (re_var (i := 5))) (fun s H c cl fp => (re_var (i := 4))) (by decide)))
    (z_one (z_if (v_notN (re_var (i := 3)) re_non) (z_one (z_dput C (r_fld C (F.cl 8 (by decide)) (re_var (i := 0))) (re_var (i := 3)) (r_len C (F.free 0 _ rfl) (a_cons (re_var (i := 2)) a_nil)))) z_nil))))))))
theorem sc_Block_label : FnScope ["self"] ["self"] (defScope st_Block_label) := ⟨rfl, rfl, rfl, by decide +kernel, rfl, by decide +kernel, by decide +kernel⟩
theorem fo_Block_label {G : Gm} (F : FZ G) : Fo G 1 (He.fAd G.K ("Block", some "label")) ["self"] m_Block_label := fo_of (dd_Block_label F) sc_Block_label rfl rfl (fun _ _ _ _ _ _ us hl => match us, hl with | [_], _ => rfl) fun cdv A outer s H E C =>
  (z_cons (z_dput C (r_fld C (F.cl 8 (by decide)) (re_var (i := 0))) (r_lenD C (F.free 0 _ rfl) (a_cons (r_fld C (F.cl 8 (by decide)) (re_var (i := 0))) a_nil)) re_int)
    (z_one (z_ret (r_sub (r_lenD C (F.free 0 _ rfl) (a_cons (r_fld C (F.cl 8 (by decide)) (re_var (i := 0))) a_nil)) re_int))))
theorem sc_Block_slot : FnScope ["self"] ["self"] (defScope st_Block_slot) := ⟨rfl, rfl, rfl, by decide +kernel, rfl, by decide +kernel, by decide +kernel⟩
theorem fo_Block_slot {G : Gm} (F : FZ G) : Fo G 1 (He.fAd G.K ("Block", some "slot")) ["self"] m_Block_slot := fo_of (dd_Block_slot F) sc_Block_slot rfl rfl (fun _ _ _ _ _ _ us hl => match us, hl with | [_], _ => rfl) fun cdv A outer s H E C =>
  (z_cons (z_addF C (F.cl 8 (by decide)) (re_var (i := 0)) re_int)
    (z_one (z_ret (r_sub (r_fld C (F.cl 8 (by decide)) (re_var (i := 0))) re_int))))
theorem sc_Compiler_add : FnScope ["self", "index", "binders", "argument"] ["self", "index", "binders", "argument"] (defScope st_Compiler_add) := ⟨rfl, rfl, rfl, by decide +kernel, rfl, by decide +kernel, by decide +kernel⟩
theorem fo_Compiler_add {G : Gm} (F : FZ G) : Fo G 1 (He.fAd G.K ("Compiler", some "add")) ["self", "index", "binders", "argument"] m_Compiler_add := fo_of (dd_Compiler_add F) sc_Compiler_add rfl rfl (fun _ _ _ _ _ _ us hl => match us, hl with | [_, _, _, _], _ => rfl) fun cdv A outer s H E C =>
  (z_cons (z_expr (r_append C (r_fld C (F.cl 9 (by decide)) (re_var (i := 0))) (a_cons (re_tup (a_cons (re_var (i := 1)) (a_cons (re_var (i := 2)) (a_cons (re_var (i := 3)) a_nil)))) a_nil)))
    (z_one (z_ret (r_sub (r_len C (F.free 0 _ rfl) (a_cons (r_fld C (F.cl 9 (by decide)) (re_var (i := 0))) a_nil)) re_int))))
theorem sc_Block_captured : FnScope ["self", "kid", "without", "argument", "binders", "binder", "number"] ["self", "kid", "without", "argument"] (defScope st_Block_captured) := ⟨rfl, rfl, rfl, by decide +kernel, rfl, by decide +kernel, by decide +kernel⟩
theorem fo_Block_captured {G : Gm} (F : FZ G) : Fo G 2 (He.fAd G.K ("Block", some "captured")) ["self", "kid", "without", "argument"] m_Block_captured := fo_of (dd_Block_captured F) sc_Block_captured rfl rfl (fun _ _ _ _ _ _ us hl => match us, hl with | [_, _, _, _], _ => rfl) fun cdv A outer s H E C =>
  (z_cons (z_set C (r_sorted C (F.free 6 _ rfl) (a_cons (r_lcK C [("binder", 5)] (r_ix C (r_fld C (F.cl 7 (by decide)) (r_fld C (F.cl 8 (by decide)) (re_var (i := 0)))) (re_var (i := 1))) (blkOk_by (by kernel_rfl)) (fun s H c cl fp => g_one C.blk) (fun s H c cl fp => pts_one (v_ne (re_var (i := 5)) (re_var (i := 2)))) (fun s H c cl fp => (re_var (i := 5))) (by decide)) a_nil)))
    (z_cons (z_set C (r_meth C (fo_Compiler_add F) (F.cl 9 (by decide)) (F.mt 39 _ _ _ rfl) (r_fld C (F.cl 8 (by decide)) (re_var (i := 0))) (a_cons (re_var (i := 1)) (a_cons (re_var (i := 4)) (a_cons (re_var (i := 3)) a_nil)))))
    (z_one (z_ret (re_tup (a_cons (re_var (i := 6)) (a_cons (r_tuple C (F.free 4 _ rfl) (a_cons (r_lcL C [("binder", 5)] (re_var (i := 4)) (blkOk_by (by kernel_rfl)) (fun s H c cl fp => g_one C.blk) (fun s H c cl fp => t_yes) (fun s H c cl fp => (r_dget C.blk (r_fld C.blk (F.cl 8 (by decide)) (re_var (i := 0))) (re_var (i := 5)))) (by decide)) a_nil)) a_nil)))))))
theorem sc_Block_binding : FnScope ["self", "e", "index", "kids", "slot", "number", "slots"] ["self", "e", "index", "kids"] (defScope st_Block_binding) := ⟨rfl, rfl, rfl, by decide +kernel, rfl, by decide +kernel, by decide +kernel⟩
theorem fo_Block_binding {G : Gm} (F : FZ G) : Fo G 3 (He.fAd G.K ("Block", some "binding")) ["self", "e", "index", "kids"] m_Block_binding := fo_of (dd_Block_binding F) sc_Block_binding rfl rfl (fun _ _ _ _ _ _ us hl => match us, hl with | [_, _, _, _], _ => rfl) fun cdv A outer s H E C =>
  (z_cons (z_set C (r_meth0 C (fo_Block_slot F) (F.cl 8 (by decide)) (F.mt 31 _ _ _ rfl) (re_var (i := 0))))
    (z_cons (z_if (v_eq (r_ix C (re_var (i := 1)) re_int) (re_str s_1782516)) (z_cons (z_dput C (r_fld C (F.cl 8 (by decide)) (re_var (i := 0))) (re_var (i := 2)) (re_var (i := 4)))
    (z_one (z_ret (re_lst (a_cons (re_tup (a_cons (re_str s_101) (a_cons (r_ix C (re_var (i := 3)) re_int) a_nil))) (a_cons (re_tup (a_cons (re_str s_105) (a_cons (re_tup (a_cons (re_str s_31115180389) (a_cons (re_var (i := 4)) a_nil))) a_nil))) (a_cons (re_tup (a_cons (re_str s_101) (a_cons (r_ix C (re_var (i := 3)) re_int) a_nil))) a_nil))))))) z_nil)
    (z_cons (z_unp C (r_meth C (fo_Block_captured F) (F.cl 8 (by decide)) (F.mt 34 _ _ _ rfl) (re_var (i := 0)) (a_cons (r_ix C (re_var (i := 3)) re_int) (a_cons re_neg (a_cons re_non a_nil)))) (gs_cons C (gs_cons C gs_nil)))
    (z_cons (z_dput C (r_fld C (F.cl 8 (by decide)) (re_var (i := 0))) (re_var (i := 2)) (re_var (i := 4)))
    (z_one (z_ret (re_lst (a_cons (re_tup (a_cons (re_str s_105) (a_cons (re_tup (a_cons (re_str s_31358547819) (a_cons (re_var (i := 5)) (a_cons (re_var (i := 6)) a_nil)))) a_nil))) (a_cons (re_tup (a_cons (re_str s_105) (a_cons (re_tup (a_cons (re_str s_31115180389) (a_cons (re_var (i := 4)) a_nil))) a_nil))) (a_cons (re_tup (a_cons (re_str s_101) (a_cons (r_ix C (re_var (i := 3)) re_int) a_nil))) a_nil))))))))))
theorem sc_Block_branching : FnScope ["self", "e", "kids", "last", "other", "head", "labels", "kid", "branches", "index", "branch", "found"] ["self", "e", "kids"] (defScope st_Block_branching) := ⟨rfl, rfl, rfl, by decide +kernel, rfl, by decide +kernel, by decide +kernel⟩
theorem fo_Block_branching {G : Gm} (F : FZ G) : Fo G 2 (He.fAd G.K ("Block", some "branching")) ["self", "e", "kids"] m_Block_branching := fo_of (dd_Block_branching F) sc_Block_branching rfl rfl (fun _ _ _ _ _ _ us hl => match us, hl with | [_, _, _], _ => rfl) fun cdv A outer s H E C =>
  (z_cons (z_set C (r_meth0 C (fo_Block_label F) (F.cl 8 (by decide)) (F.mt 30 _ _ _ rfl) (re_var (i := 0))))
    (z_cons (z_if (v_eq (r_ix C (re_var (i := 1)) re_int) (re_str s_13542)) (z_cons (z_set C (r_meth0 C (fo_Block_label F) (F.cl 8 (by decide)) (F.mt 30 _ _ _ rfl) (re_var (i := 0))))
    (z_cons (z_set C (re_lst (a_cons (re_tup (a_cons (re_str s_101) (a_cons (r_ix C (re_var (i := 2)) re_int) a_nil))) (a_cons (re_tup (a_cons (re_str s_105) (a_cons (re_tup (a_cons (re_str s_244939252) (a_cons (r_ix C (re_var (i := 1)) re_int) (a_cons (re_var (i := 4)) a_nil)))) a_nil))) (a_cons (re_tup (a_cons (re_str s_101) (a_cons (r_ix C (re_var (i := 2)) re_int) a_nil))) (a_cons (re_tup (a_cons (re_str s_105) (a_cons (re_tup (a_cons (re_str s_224229104) (a_cons (re_var (i := 3)) a_nil))) a_nil))) a_nil))))))
    (z_one (z_ret (r_catL (re_var (i := 5)) (re_lst (a_cons (re_tup (a_cons (re_str s_29196071660) (a_cons (re_var (i := 4)) a_nil))) (a_cons (re_tup (a_cons (re_str s_101) (a_cons (r_ix C (re_var (i := 2)) re_int) a_nil))) (a_cons (re_tup (a_cons (re_str s_29196071660) (a_cons (re_var (i := 3)) a_nil))) a_nil))))))))) z_nil)
    (z_cons (z_set C (r_lcL C [("kid", 7)] (re_var (i := 2)) (blkOk_by (by kernel_rfl)) (fun s H c cl fp => g_one C.blk) (fun s H c cl fp => t_yes) (fun s H c cl fp => (r_meth0 C.blk (fo_Block_label F) (F.cl 8 (by decide)) (F.mt 30 _ _ _ rfl) (re_var (i := 0)))) (by decide)))
    (z_cons (z_set C (r_tuple C (F.free 4 _ rfl) (a_cons (r_lcE C (F.free 8 _ rfl) [("index", 9), ("branch", 10)] (r_ix C (re_var (i := 1)) re_int) (blkOk_by (by kernel_rfl)) (fun s H c cl fp => g_tup C.blk (gs_cons C.blk (gs_cons C.blk gs_nil))) (fun s H c cl fp => t_yes) (fun s H c cl fp => (re_tup (a_cons (r_ix C.blk (re_var (i := 10)) re_int) (a_cons (r_ix C.blk (re_var (i := 6)) (re_var (i := 9))) a_nil)))) (by decide)) a_nil)))
    (z_cons (z_set C (re_lst (a_cons (re_tup (a_cons (re_str s_105) (a_cons (re_tup (a_cons (re_str s_3983535845864) (a_cons (r_ix C (re_var (i := 1)) re_int) (a_cons (re_var (i := 8)) (a_cons (r_ix C (re_var (i := 6)) re_neg) a_nil))))) a_nil))) a_nil)))
    (z_cons (z_forEL C (F.free 8 _ rfl) (re_var (i := 2)) (g_tup C (gs_cons C (gs_cons C gs_nil))) (z_one (z_set C (r_catL (re_var (i := 11)) (re_lst (a_cons (re_tup (a_cons (re_str s_29196071660) (a_cons (r_ix C (re_var (i := 6)) (re_var (i := 9))) a_nil))) (a_cons (re_tup (a_cons (re_str s_101) (a_cons (re_var (i := 7)) a_nil))) (a_cons (re_tup (a_cons (re_str s_105) (a_cons (re_tup (a_cons (re_str s_224229104) (a_cons (re_var (i := 3)) a_nil))) a_nil))) a_nil))))))))
    (z_one (z_ret (r_catL (re_var (i := 11)) (re_lst (a_cons (re_tup (a_cons (re_str s_29196071660) (a_cons (re_var (i := 3)) a_nil))) a_nil)))))))))))
theorem sc_Block_tasks : FnScope ["self", "index", "e", "kids", "kind", "slot", "number", "slots"] ["self", "index"] (defScope st_Block_tasks) := ⟨rfl, rfl, rfl, by decide +kernel, rfl, by decide +kernel, by decide +kernel⟩
theorem fo_Block_tasks {G : Gm} (F : FZ G) : Fo G 4 (He.fAd G.K ("Block", some "tasks")) ["self", "index"] m_Block_tasks := fo_of (dd_Block_tasks F) sc_Block_tasks rfl rfl (fun _ _ _ _ _ _ us hl => match us, hl with | [_, _], _ => rfl) fun cdv A outer s H E C =>
  (z_cons (z_set C (r_ix C (r_fld C (F.cl 7 (by decide)) (r_fld C (F.cl 8 (by decide)) (re_var (i := 0)))) (re_var (i := 1))))
    (z_cons (z_set C (r_ix C (r_fld C (F.cl 7 (by decide)) (r_fld C (F.cl 8 (by decide)) (re_var (i := 0)))) (re_var (i := 1))))
    (z_cons (z_set C (r_ix C (re_var (i := 2)) re_int))
    (z_cons (z_if (v_eq (re_var (i := 4)) (re_str s_1817325)) (z_one (z_ret (re_lst (a_cons (re_tup (a_cons (re_str s_105) (a_cons (re_tup (a_cons (re_str s_1734516) (a_cons (r_ix C (re_var (i := 2)) re_int) a_nil))) a_nil))) a_nil)))) z_nil)
    (z_cons (z_if (w_or (v_eq (re_var (i := 4)) (re_str s_232290021)) (w_or1 (v_eq (re_var (i := 4)) (re_str s_27615080933)))).pt (z_cons (z_set C (r_get2 C (r_fld C (F.cl 8 (by decide)) (re_var (i := 0))) (r_get2 C (r_fld C (F.cl 7 (by decide)) (r_fld C (F.cl 8 (by decide)) (re_var (i := 0)))) (re_var (i := 1)) re_neg) re_int))
    (z_one (z_ret (re_lst (a_cons (re_tup (a_cons (re_str s_105) (a_cons (re_tup (a_cons (r_ifE (v_eq (re_var (i := 4)) (re_str s_232290021)) (re_str s_228323556) (re_str s_27615080933)) (a_cons (re_var (i := 5)) a_nil))) a_nil))) a_nil))))) z_nil)
    (z_cons (z_if (v_eq (re_var (i := 4)) (re_str s_1850100)) (z_one (z_ret (re_lst (a_cons (re_tup (a_cons (re_str s_105) (a_cons (re_var (i := 2)) a_nil))) a_nil)))) z_nil)
    (z_cons (z_if (v_eq (re_var (i := 4)) (re_str s_13166)) (z_cons (z_unp C (r_meth C (fo_Block_captured F) (F.cl 8 (by decide)) (F.mt 34 _ _ _ rfl) (re_var (i := 0)) (a_cons (r_ix C (re_var (i := 3)) re_int) (a_cons (re_var (i := 1)) (a_cons (re_var (i := 1)) a_nil)))) (gs_cons C (gs_cons C gs_nil)))
    (z_one (z_ret (re_lst (a_cons (re_tup (a_cons (re_str s_105) (a_cons (re_tup (a_cons (re_str s_26803436005) (a_cons (re_var (i := 6)) (a_cons (r_ix C (re_var (i := 2)) re_int) (a_cons (re_var (i := 7)) a_nil))))) a_nil))) a_nil))))) z_nil)
    (z_cons (z_if (v_inS C (re_var (i := 4)) (re_tup (a_cons (re_str s_209221228) (a_cons (re_str s_1899245) (a_cons (re_str s_228162035) a_nil))))) (z_one (z_ret (re_lst (a_cons (re_tup (a_cons (re_str s_101) (a_cons (r_ix C (re_var (i := 3)) re_int) a_nil))) (a_cons (re_tup (a_cons (re_str s_101) (a_cons (r_ix C (re_var (i := 3)) re_int) a_nil))) (a_cons (re_tup (a_cons (re_str s_105) (a_cons (re_tup (a_cons (re_var (i := 4)) (a_cons (r_ix C (re_var (i := 2)) re_int) a_nil))) a_nil))) a_nil)))))) z_nil)
    (z_cons (z_if (v_eq (re_var (i := 4)) (re_str s_1896697)) (z_one (z_ret (re_lst (a_cons (re_tup (a_cons (re_str s_101) (a_cons (r_ix C (re_var (i := 3)) re_int) a_nil))) (a_cons (re_tup (a_cons (re_str s_105) (a_cons (re_tup (a_cons (re_var (i := 4)) (a_cons (r_ix C (re_var (i := 2)) re_int) a_nil))) a_nil))) a_nil))))) z_nil)
    (z_cons (z_if (v_eq (re_var (i := 4)) (re_str s_245002731)) (z_one (z_ret (re_lst (a_cons (re_tup (a_cons (re_str s_105) (a_cons (re_tup (a_cons (re_str s_245002731) a_nil)) a_nil))) (a_cons (re_tup (a_cons (re_str s_101) (a_cons (r_ix C (re_var (i := 3)) re_int) a_nil))) a_nil))))) z_nil)
    (z_cons (z_if (v_eq (re_var (i := 4)) (re_str s_1897204)) (z_one (z_ret (re_lst (a_cons (re_tup (a_cons (re_str s_105) (a_cons (re_tup (a_cons (re_str s_27344581362) (a_cons (r_ix C (re_var (i := 2)) re_int) (a_cons (r_ix C (re_var (i := 2)) re_int) a_nil)))) a_nil))) (a_cons (re_tup (a_cons (re_str s_101) (a_cons (r_ix C (re_var (i := 3)) re_int) a_nil))) (a_cons (re_tup (a_cons (re_str s_105) (a_cons (re_tup (a_cons (re_str s_29204446053) (a_cons (r_ix C (re_var (i := 2)) re_int) a_nil))) a_nil))) a_nil)))))) z_nil)
    (z_one (z_ret (r_ifE (v_inS C (re_var (i := 4)) (re_tup (a_cons (re_str s_13542) (a_cons (re_str s_3983535845864) a_nil)))) (r_meth C (fo_Block_branching F) (F.cl 8 (by decide)) (F.mt 36 _ _ _ rfl) (re_var (i := 0)) (a_cons (re_var (i := 2)) (a_cons (re_var (i := 3)) a_nil))) (r_meth C (fo_Block_binding F) (F.cl 8 (by decide)) (F.mt 35 _ _ _ rfl) (re_var (i := 0)) (a_cons (re_var (i := 2)) (a_cons (re_var (i := 1)) (a_cons (re_var (i := 3)) a_nil))))))))))))))))))
theorem sc_Block_fill : FnScope ["self", "index", "left", "kind", "one"] ["self", "index"] (defScope st_Block_fill) := ⟨rfl, rfl, rfl, by decide +kernel, rfl, by decide +kernel, by decide +kernel⟩
theorem fo_Block_fill {G : Gm} (F : FZ G) : Fo G 5 (He.fAd G.K ("Block", some "fill")) ["self", "index"] m_Block_fill := fo_of (dd_Block_fill F) sc_Block_fill rfl rfl (fun _ _ _ _ _ _ us hl => match us, hl with | [_, _], _ => rfl) fun cdv A outer s H E C =>
  (z_cons (z_set C (re_lst (a_cons (re_tup (a_cons (re_str s_105) (a_cons (re_tup (a_cons (re_str s_3944367356270) a_nil)) a_nil))) (a_cons (re_tup (a_cons (re_str s_101) (a_cons (re_var (i := 1)) a_nil))) a_nil))))
    (z_one (z_while C (v_tru C (re_var (i := 2))) (z_cons (z_unp C (r_pop C (re_var (i := 2))) (gs_cons C (gs_cons C gs_nil)))
    (z_one (z_if (v_eq (re_var (i := 3)) (re_str s_105)) (z_one (z_expr (r_append C (r_fld C (F.cl 8 (by decide)) (re_var (i := 0))) (a_cons (re_var (i := 4)) a_nil)))) (z_one (z_if (v_eq (re_var (i := 3)) (re_str s_29196071660)) (z_one (z_dput C (r_fld C (F.cl 8 (by decide)) (re_var (i := 0))) (re_var (i := 4)) (r_len C (F.free 0 _ rfl) (a_cons (r_fld C (F.cl 8 (by decide)) (re_var (i := 0))) a_nil)))) (z_one (z_expr (r_extend C (re_var (i := 2)) (a_cons (r_rev C (r_meth C (fo_Block_tasks F) (F.cl 8 (by decide)) (F.mt 33 _ _ _ rfl) (re_var (i := 0)) (a_cons (re_var (i := 4)) a_nil))) a_nil))))))))))))
theorem sc_Block_linked : FnScope ["self", "one", "branches", "number", "label"] ["self", "one"] (defScope st_Block_linked) := ⟨rfl, rfl, rfl, by decide +kernel, rfl, by decide +kernel, by decide +kernel⟩
theorem fo_Block_linked {G : Gm} (F : FZ G) : Fo G 1 (He.fAd G.K ("Block", some "linked")) ["self", "one"] m_Block_linked := fo_of (dd_Block_linked F) sc_Block_linked rfl rfl (fun _ _ _ _ _ _ us hl => match us, hl with | [_, _], _ => rfl) fun cdv A outer s H E C =>
  (z_cons (z_if (v_eq (r_ix C (re_var (i := 1)) re_int) (re_str s_244939252)) (z_one (z_ret (re_tup (a_cons (re_str s_244939252) (a_cons (r_ix C (re_var (i := 1)) re_int) (a_cons (r_dget C (r_fld C (F.cl 8 (by decide)) (re_var (i := 0))) (r_ix C (re_var (i := 1)) re_int)) a_nil)))))) z_nil)
    (z_cons (z_if (v_eq (r_ix C (re_var (i := 1)) re_int) (re_str s_224229104)) (z_one (z_ret (re_tup (a_cons (re_str s_224229104) (a_cons (r_dget C (r_fld C (F.cl 8 (by decide)) (re_var (i := 0))) (r_ix C (re_var (i := 1)) re_int)) a_nil))))) z_nil)
    (z_cons (z_if (v_eq (r_ix C (re_var (i := 1)) re_int) (re_str s_3983535845864)) (z_cons (z_set C (r_tuple C (F.free 4 _ rfl) (a_cons (r_lcT C [("number", 3), ("label", 4)] (r_ix C (re_var (i := 1)) re_int) (blkOk_by (by kernel_rfl)) (fun s H c cl fp => g_tup C.blk (gs_cons C.blk (gs_cons C.blk gs_nil))) (fun s H c cl fp => t_yes) (fun s H c cl fp => (re_tup (a_cons (re_var (i := 3)) (a_cons (r_dget C.blk (r_fld C.blk (F.cl 8 (by decide)) (re_var (i := 0))) (re_var (i := 4))) a_nil)))) (by decide)) a_nil)))
    (z_one (z_ret (re_tup (a_cons (re_str s_3983535845864) (a_cons (r_ix C (re_var (i := 1)) re_int) (a_cons (re_var (i := 2)) (a_cons (r_dget C (r_fld C (F.cl 8 (by decide)) (re_var (i := 0))) (r_ix C (re_var (i := 1)) re_int)) a_nil)))))))) z_nil)
    (z_one (z_ret (re_var (i := 1)))))))
theorem sc_Block_made : FnScope ["self", "one"] ["self"] (defScope st_Block_made) := ⟨rfl, rfl, rfl, by decide +kernel, rfl, by decide +kernel, by decide +kernel⟩
theorem fo_Block_made {G : Gm} (F : FZ G) : Fo G 2 (He.fAd G.K ("Block", some "made")) ["self"] m_Block_made := fo_of (dd_Block_made F) sc_Block_made rfl rfl (fun _ _ _ _ _ _ us hl => match us, hl with | [_], _ => rfl) fun cdv A outer s H E C =>
  (z_one (z_ret (re_tup (a_cons (r_fld C (F.cl 8 (by decide)) (re_var (i := 0))) (a_cons (r_tuple C (F.free 4 _ rfl) (a_cons (r_lcL C [("one", 1)] (r_fld C (F.cl 8 (by decide)) (re_var (i := 0))) (blkOk_by (by kernel_rfl)) (fun s H c cl fp => g_one C.blk) (fun s H c cl fp => t_yes) (fun s H c cl fp => (r_meth C.blk (fo_Block_linked F) (F.cl 8 (by decide)) (F.mt 38 _ _ _ rfl) (re_var (i := 0)) (a_cons (re_var (i := 1)) a_nil))) (by decide)) a_nil)) a_nil)))))
theorem sc_Compiler_init : FnScope ["self", "layout"] ["self", "layout"] (defScope st_Compiler_init) := ⟨rfl, rfl, rfl, by decide +kernel, rfl, by decide +kernel, by decide +kernel⟩
theorem fo_Compiler_init {G : Gm} (F : FZ G) : Fo G 1 (He.fAd G.K ("Compiler", some "__init__")) ["self", "layout"] m_Compiler_init := fo_of (dd_Compiler_init F) sc_Compiler_init rfl rfl (fun _ _ _ _ _ _ us hl => match us, hl with | [_, _], _ => rfl) fun cdv A outer s H E C =>
  (z_cons (z_setF C (F.cl 9 (by decide)) (re_var (i := 0)) (re_var (i := 1)))
    (z_one (z_setF C (F.cl 9 (by decide)) (re_var (i := 0)) (re_lst a_nil))))
theorem sc_compile_plain : FnScope ["plain", "compiler", "blocks", "index", "binders", "argument", "block"] ["plain"] (defScope st_compile_plain) := ⟨rfl, rfl, rfl, by decide +kernel, rfl, by decide +kernel, by decide +kernel⟩
theorem fo_compile_plain {G : Gm} (F : FZ G) : Fo G 6 (He.fAd G.K ("compile_plain", none)) ["plain"] m_compile_plain := fo_of (dd_compile_plain F) sc_compile_plain rfl rfl (fun _ _ _ _ _ _ us hl => match us, hl with | [_], _ => rfl) fun cdv A outer s H E C =>
  (z_cons (z_set C (r_make C (fo_Compiler_init F) (F.mkr 9 _ rfl) (F.cg 9 _ rfl) (a_cons (r_make C (fo_Layout_init F) (F.mkr 7 _ rfl) (F.cg 7 _ rfl) (a_cons (re_var (i := 0)) a_nil)) a_nil)))
    (z_cons (z_expr (r_meth C (fo_Compiler_add F) (F.cl 9 (by decide)) (F.mt 39 _ _ _ rfl) (re_var (i := 1)) (a_cons re_int (a_cons (re_lst a_nil) (a_cons re_non a_nil)))))
    (z_cons (z_set C (re_lst a_nil))
    (z_cons (z_while C (v_lt (r_len C (F.free 0 _ rfl) (a_cons (re_var (i := 2)) a_nil)) (r_len C (F.free 0 _ rfl) (a_cons (r_fld C (F.cl 9 (by decide)) (re_var (i := 1))) a_nil))) (z_cons (z_unp C (r_ix C (r_fld C (F.cl 9 (by decide)) (re_var (i := 1))) (r_len C (F.free 0 _ rfl) (a_cons (re_var (i := 2)) a_nil))) (gs_cons C (gs_cons C (gs_cons C gs_nil))))
    (z_cons (z_set C (r_make C (fo_Block_init F) (F.mkr 8 _ rfl) (F.cg 8 _ rfl) (a_cons (re_var (i := 1)) (a_cons (re_var (i := 4)) (a_cons (re_var (i := 5)) a_nil)))))
    (z_cons (z_expr (r_meth C (fo_Block_fill F) (F.cl 8 (by decide)) (F.mt 32 _ _ _ rfl) (re_var (i := 6)) (a_cons (re_var (i := 3)) a_nil)))
    (z_one (z_expr (r_append C (re_var (i := 2)) (a_cons (r_meth0 C (fo_Block_made F) (F.cl 8 (by decide)) (F.mt 37 _ _ _ rfl) (re_var (i := 6))) a_nil))))))))
    (z_one (z_ret (r_tuple C (F.free 4 _ rfl) (a_cons (re_var (i := 2)) a_nil))))))))
theorem sc_parts_of : FnScope ["e"] ["e"] (defScope st_parts_of) := ⟨rfl, rfl, rfl, by decide +kernel, rfl, by decide +kernel, by decide +kernel⟩
theorem fo_parts_of {G : Gm} (F : FZ G) : Fo G 1 (He.fAd G.K ("parts_of", none)) ["e"] m_parts_of := fo_of (dd_parts_of F) sc_parts_of rfl rfl (fun _ _ _ _ _ _ us hl => match us, hl with | [_], _ => rfl) fun cdv A outer s H E C =>
  (z_cons (z_if (v_inS C (r_ix C (re_var (i := 0)) re_int) (re_tup (a_cons (re_str s_209221228) (a_cons (re_str s_1899245) (a_cons (re_str s_228162035) (a_cons (re_str s_13542) (a_cons (re_str s_1896697) a_nil))))))) (z_one (z_ret (r_slT C (re_var (i := 0)) (o_some re_int) o_none))) z_nil)
    (z_one (z_ret (r_ifE (v_eq (r_ix C (re_var (i := 0)) re_int) (re_str s_1782516)) (re_tup (a_cons (r_ix C (re_var (i := 0)) re_int) a_nil)) (re_tup a_nil)))))
theorem sc_shown_tower : FnScope ["value"] ["value"] (defScope st_shown_tower) := ⟨rfl, rfl, rfl, by decide +kernel, rfl, by decide +kernel, by decide +kernel⟩
theorem fo_shown_tower {G : Gm} (F : FZ G) : Fo G 1 (He.fAd G.K ("shown_tower", none)) ["value"] m_shown_tower := fo_of (dd_shown_tower F) sc_shown_tower rfl rfl (fun _ _ _ _ _ _ us hl => match us, hl with | [_], _ => rfl) fun cdv A outer s H E C =>
  (z_one (z_ret (r_ifE (v_val (r_isInt C (F.free 7 _ rfl) (F.free 1 _ rfl) (re_var (i := 0)))) (re_var (i := 0)) (re_tup (a_cons (re_str s_13166) (a_cons (r_ix C (re_var (i := 0)) re_int) a_nil))))))
theorem sc_Setting_init : FnScope ["self", "level", "names", "about"] ["self", "level", "names", "about"] (defScope st_Setting_init) := ⟨rfl, rfl, rfl, by decide +kernel, rfl, by decide +kernel, by decide +kernel⟩
theorem fo_Setting_init {G : Gm} (F : FZ G) : Fo G 1 (He.fAd G.K ("Setting", some "__init__")) ["self", "level", "names", "about"] m_Setting_init := fo_of (dd_Setting_init F) sc_Setting_init rfl rfl (fun _ _ _ _ _ _ us hl => match us, hl with | [_, _, _, _], _ => rfl) fun cdv A outer s H E C =>
  (z_cons (z_setF C (F.cl 10 (by decide)) (re_var (i := 0)) (re_var (i := 1)))
    (z_cons (z_setF C (F.cl 10 (by decide)) (re_var (i := 0)) (re_var (i := 2)))
    (z_one (z_setF C (F.cl 10 (by decide)) (re_var (i := 0)) (re_var (i := 3))))))
theorem sc_Setting_with_name : FnScope ["self", "x", "value", "names"] ["self", "x", "value"] (defScope st_Setting_with_name) := ⟨rfl, rfl, rfl, by decide +kernel, rfl, by decide +kernel, by decide +kernel⟩
theorem fo_Setting_with_name {G : Gm} (F : FZ G) : Fo G 3 (He.fAd G.K ("Setting", some "with_name")) ["self", "x", "value"] m_Setting_with_name := fo_of (dd_Setting_with_name F) sc_Setting_with_name rfl rfl (fun _ _ _ _ _ _ us hl => match us, hl with | [_, _, _], _ => rfl) fun cdv A outer s H E C =>
  (z_cons (z_set C (r_dict C (F.free 5 _ rfl) (a_cons (r_fld C (F.cl 10 (by decide)) (re_var (i := 0))) a_nil)))
    (z_cons (z_dput C (re_var (i := 3)) (re_var (i := 1)) (re_var (i := 2)))
    (z_one (z_ret (r_make C (fo_Setting_init F) (F.mkr 10 _ rfl) (F.cg 10 _ rfl) (a_cons (r_fld C (F.cl 10 (by decide)) (re_var (i := 0))) (a_cons (re_var (i := 3)) (a_cons (r_fld C (F.cl 10 (by decide)) (re_var (i := 0))) a_nil))))))))
theorem sc_Tower_init : FnScope ["self", "program", "fuel"] ["self", "program", "fuel"] (defScope st_Tower_init) := ⟨rfl, rfl, rfl, by decide +kernel, rfl, by decide +kernel, by decide +kernel⟩
theorem fo_Tower_init {G : Gm} (F : FZ G) : Fo G 3 (He.fAd G.K ("Tower", some "__init__")) ["self", "program", "fuel"] m_Tower_init := fo_of (dd_Tower_init F) sc_Tower_init rfl rfl (fun _ _ _ _ _ _ us hl => match us, hl with | [_, _, _], _ => rfl) fun cdv A outer s H E C =>
  (z_cons (z_setF C (F.cl 11 (by decide)) (re_var (i := 0)) (re_var (i := 1)))
    (z_cons (z_setF C (F.cl 11 (by decide)) (re_var (i := 0)) (r_make C (fo_Setting_init F) (F.mkr 10 _ rfl) (F.cg 10 _ rfl) (a_cons re_int (a_cons re_dictK (a_cons re_non a_nil)))))
    (z_cons (z_setF C (F.cl 11 (by decide)) (re_var (i := 0)) re_bl)
    (z_cons (z_setF C (F.cl 11 (by decide)) (re_var (i := 0)) (re_var (i := 2)))
    (z_cons (z_setF C (F.cl 11 (by decide)) (re_var (i := 0)) re_dictT)
    (z_cons (z_setF C (F.cl 11 (by decide)) (re_var (i := 0)) (re_lst a_nil))
    (z_cons (z_setF C (F.cl 11 (by decide)) (re_var (i := 0)) (re_lst a_nil))
    (z_one (z_setF C (F.cl 11 (by decide)) (re_var (i := 0)) re_non)))))))))
theorem sc_Tower_go : FnScope ["self", "e", "setting"] ["self", "e", "setting"] (defScope st_Tower_go) := ⟨rfl, rfl, rfl, by decide +kernel, rfl, by decide +kernel, by decide +kernel⟩
theorem fo_Tower_go {G : Gm} (F : FZ G) : Fo G 1 (He.fAd G.K ("Tower", some "go")) ["self", "e", "setting"] m_Tower_go := fo_of (dd_Tower_go F) sc_Tower_go rfl rfl (fun _ _ _ _ _ _ us hl => match us, hl with | [_, _, _], _ => rfl) fun cdv A outer s H E C =>
  (z_cons (z_setF C (F.cl 11 (by decide)) (re_var (i := 0)) (re_var (i := 1)))
    (z_cons (z_setF C (F.cl 11 (by decide)) (re_var (i := 0)) (re_var (i := 2)))
    (z_one (z_setF C (F.cl 11 (by decide)) (re_var (i := 0)) re_bl))))
theorem sc_Tower_go_built_in : FnScope ["self", "e", "setting"] ["self", "e", "setting"] (defScope st_Tower_go_built_in) := ⟨rfl, rfl, rfl, by decide +kernel, rfl, by decide +kernel, by decide +kernel⟩
theorem fo_Tower_go_built_in {G : Gm} (F : FZ G) : Fo G 2 (He.fAd G.K ("Tower", some "go_built_in")) ["self", "e", "setting"] m_Tower_go_built_in := fo_of (dd_Tower_go_built_in F) sc_Tower_go_built_in rfl rfl (fun _ _ _ _ _ _ us hl => match us, hl with | [_, _, _], _ => rfl) fun cdv A outer s H E C =>
  (z_cons (z_expr (r_meth C (fo_Tower_go F) (F.cl 11 (by decide)) (F.mt 42 _ _ _ rfl) (re_var (i := 0)) (a_cons (re_var (i := 1)) (a_cons (re_var (i := 2)) a_nil))))
    (z_one (z_setF C (F.cl 11 (by decide)) (re_var (i := 0)) re_bl)))
theorem sc_Tower_step : FnScope ["self"] ["self"] (defScope st_Tower_step) := ⟨rfl, rfl, rfl, by decide +kernel, rfl, by decide +kernel, by decide +kernel⟩
theorem fo_Tower_step {G : Gm} (F : FZ G) : Fo G 1 (He.fAd G.K ("Tower", some "step")) ["self"] m_Tower_step := fo_of (dd_Tower_step F) sc_Tower_step rfl rfl (fun _ _ _ _ _ _ us hl => match us, hl with | [_], _ => rfl) fun cdv A outer s H E C =>
  (z_cons (z_if (v_eq (r_fld C (F.cl 11 (by decide)) (re_var (i := 0))) re_int) (z_cons (z_setF C (F.cl 11 (by decide)) (re_var (i := 0)) (re_tup (a_cons (re_str s_230422885) a_nil)))
    (z_one (z_ret re_bl))) z_nil)
    (z_cons (z_subF C (F.cl 11 (by decide)) (re_var (i := 0)) re_int)
    (z_one (z_ret re_bl))))
theorem sc_Tower_change_or_ask : FnScope ["self", "e", "setting", "kind", "place", "other", "below"] ["self", "e", "setting"] (defScope st_Tower_change_or_ask) := ⟨rfl, rfl, rfl, by decide +kernel, rfl, by decide +kernel, by decide +kernel⟩
theorem fo_Tower_change_or_ask {G : Gm} (F : FZ G) : Fo G 3 (He.fAd G.K ("Tower", some "change_or_ask")) ["self", "e", "setting"] m_Tower_change_or_ask := fo_of (dd_Tower_change_or_ask F) sc_Tower_change_or_ask rfl rfl (fun _ _ _ _ _ _ us hl => match us, hl with | [_, _, _], _ => rfl) fun cdv A outer s H E C =>
  (z_cons (z_set C (r_ix C (re_var (i := 1)) re_int))
    (z_one (z_if (v_eq (re_var (i := 3)) (re_str s_241006181)) (z_cons (z_set C (re_tup (a_cons (r_fld C (F.cl 10 (by decide)) (re_var (i := 2))) (a_cons (r_ix C (re_var (i := 1)) re_int) a_nil))))
    (z_cons (z_expr (r_append C (r_fld C (F.cl 11 (by decide)) (re_var (i := 0))) (a_cons (re_tup (a_cons (re_str s_207122923) (a_cons (re_var (i := 4)) (a_cons (r_get1 C (r_fld C (F.cl 11 (by decide)) (re_var (i := 0))) (re_var (i := 4))) a_nil)))) a_nil)))
    (z_cons (z_dput C (r_fld C (F.cl 11 (by decide)) (re_var (i := 0))) (re_var (i := 4)) (r_ix C (re_var (i := 1)) re_int))
    (z_one (z_expr (r_meth C (fo_Tower_go F) (F.cl 11 (by decide)) (F.mt 42 _ _ _ rfl) (re_var (i := 0)) (a_cons (r_ix C (re_var (i := 1)) re_int) (a_cons (re_var (i := 2)) a_nil)))))))) (z_one (z_if (v_eq (re_var (i := 3)) (re_str s_251296360)) (z_cons (z_expr (r_append C (r_fld C (F.cl 11 (by decide)) (re_var (i := 0))) (a_cons (re_tup (a_cons (re_str s_251296360) (a_cons (re_var (i := 1)) (a_cons (re_var (i := 2)) a_nil)))) a_nil)))
    (z_one (z_expr (r_meth C (fo_Tower_go F) (F.cl 11 (by decide)) (F.mt 42 _ _ _ rfl) (re_var (i := 0)) (a_cons (r_ix C (re_var (i := 1)) re_int) (a_cons (re_var (i := 2)) a_nil)))))) (z_one (z_if (v_eq (re_var (i := 3)) (re_str s_12911)) (z_cons (z_expr (r_append C (r_fld C (F.cl 11 (by decide)) (re_var (i := 0))) (a_cons (re_tup (a_cons (re_str s_12911) (a_cons (re_var (i := 1)) (a_cons (re_var (i := 2)) (a_cons (re_tup a_nil) a_nil))))) a_nil)))
    (z_one (z_expr (r_meth C (fo_Tower_go F) (F.cl 11 (by decide)) (F.mt 42 _ _ _ rfl) (re_var (i := 0)) (a_cons (r_ix C (r_ix C (re_var (i := 1)) re_int) re_int) (a_cons (re_var (i := 2)) a_nil)))))) (z_one (z_if (v_val (r_meth0 C (fo_Tower_step F) (F.cl 11 (by decide)) (F.mt 44 _ _ _ rfl) (re_var (i := 0)))) (z_cons (z_unp C (r_fld C (F.cl 10 (by decide)) (re_var (i := 2))) (gs_cons C (gs_cons C gs_nil)))
    (z_one (z_if (v_eq (re_var (i := 3)) (re_str s_236484980)) (z_one (z_expr (r_meth C (fo_Tower_go F) (F.cl 11 (by decide)) (F.mt 42 _ _ _ rfl) (re_var (i := 0)) (a_cons (r_ix C (r_call C (fo_parts_of F) (F.glo 15 _ rfl) (a_cons (re_var (i := 5)) a_nil)) (r_ix C (re_var (i := 1)) re_int)) (a_cons (re_var (i := 6)) a_nil))))) (z_one (z_expr (r_meth C (fo_Tower_go_built_in F) (F.cl 11 (by decide)) (F.mt 43 _ _ _ rfl) (re_var (i := 0)) (a_cons (re_var (i := 5)) (a_cons (re_var (i := 6)) a_nil)))))))) z_nil)))))))))
theorem sc_Tower_begin : FnScope ["self", "e", "setting", "rule"] ["self"] (defScope st_Tower_begin) := ⟨rfl, rfl, rfl, by decide +kernel, rfl, by decide +kernel, by decide +kernel⟩
theorem fo_Tower_begin {G : Gm} (F : FZ G) : Fo G 4 (He.fAd G.K ("Tower", some "begin")) ["self"] m_Tower_begin := fo_of (dd_Tower_begin F) sc_Tower_begin rfl rfl (fun _ _ _ _ _ _ us hl => match us, hl with | [_], _ => rfl) fun cdv A outer s H E C =>
  (z_cons (z_set C (r_fld C (F.cl 11 (by decide)) (re_var (i := 0))))
    (z_cons (z_set C (r_fld C (F.cl 11 (by decide)) (re_var (i := 0))))
    (z_cons (z_if (w_and (v_inS C (r_ix C (re_var (i := 1)) re_int) (r_kinds C F (.inr rfl))) (w_and1 (v_not (v_val (r_fld C (F.cl 11 (by decide)) (re_var (i := 0))))))).pt (z_cons (z_set C (r_get1 C (r_fld C (F.cl 11 (by decide)) (re_var (i := 0))) (re_tup (a_cons (r_fld C (F.cl 10 (by decide)) (re_var (i := 2))) (a_cons (r_ix C (re_var (i := 1)) re_int) a_nil)))))
    (z_one (z_if (v_notN (re_var (i := 3)) re_non) (z_cons (z_expr (r_meth C (fo_Tower_go F) (F.cl 11 (by decide)) (F.mt 42 _ _ _ rfl) (re_var (i := 0)) (a_cons (re_var (i := 3)) (a_cons (r_make C (fo_Setting_init F) (F.mkr 10 _ rfl) (F.cg 10 _ rfl) (a_cons (r_add (r_fld C (F.cl 10 (by decide)) (re_var (i := 2))) re_int) (a_cons re_dictK (a_cons (re_tup (a_cons (re_var (i := 1)) (a_cons (re_var (i := 2)) a_nil))) a_nil)))) a_nil))))
    (z_one (z_ret re_non))) z_nil))) z_nil)
    (z_cons (z_if (v_eq (r_ix C (re_var (i := 1)) re_int) (re_str s_1817325)) (z_one (z_ret (r_ix C (re_var (i := 1)) re_int))) z_nil)
    (z_cons (z_if (v_eq (r_ix C (re_var (i := 1)) re_int) (re_str s_232290021)) (z_one (z_ret (r_dget C (r_fld C (F.cl 10 (by decide)) (re_var (i := 2))) (r_ix C (re_var (i := 1)) re_int)))) z_nil)
    (z_cons (z_if (v_eq (r_ix C (re_var (i := 1)) re_int) (re_str s_13166)) (z_one (z_ret (re_tup (a_cons (re_str s_13166) (a_cons (r_fld C (F.cl 10 (by decide)) (re_var (i := 2))) (a_cons (r_ix C (re_var (i := 1)) re_int) (a_cons (r_ix C (re_var (i := 1)) re_int) (a_cons (re_var (i := 2)) a_nil)))))))) z_nil)
    (z_cons (z_if (v_inS C (r_ix C (re_var (i := 1)) re_int) (r_kinds C F (.inr rfl))) (z_cons (z_expr (r_append C (r_fld C (F.cl 11 (by decide)) (re_var (i := 0))) (a_cons (re_tup (a_cons (r_ix C (re_var (i := 1)) re_int) (a_cons (re_var (i := 1)) (a_cons (re_var (i := 2)) a_nil)))) a_nil)))
    (z_cons (z_expr (r_meth C (fo_Tower_go F) (F.cl 11 (by decide)) (F.mt 42 _ _ _ rfl) (re_var (i := 0)) (a_cons (r_ix C (r_call C (fo_parts_of F) (F.glo 15 _ rfl) (a_cons (re_var (i := 1)) a_nil)) re_int) (a_cons (re_var (i := 2)) a_nil))))
    (z_one (z_ret re_non)))) z_nil)
    (z_cons (z_if (v_eq (r_ix C (re_var (i := 1)) re_int) (re_str s_226063088)) (z_cons (z_dput C (r_fld C (F.cl 11 (by decide)) (re_var (i := 0))) (re_tup (a_cons (r_fld C (F.cl 10 (by decide)) (re_var (i := 2))) (a_cons (r_ix C (re_var (i := 1)) re_int) a_nil))) (r_ix C (re_var (i := 1)) re_int))
    (z_one (z_ret re_int))) z_nil)
    (z_cons (z_expr (r_meth C (fo_Tower_change_or_ask F) (F.cl 11 (by decide)) (F.mt 47 _ _ _ rfl) (re_var (i := 0)) (a_cons (re_var (i := 1)) (a_cons (re_var (i := 2)) a_nil))))
    (z_one (z_ret re_non)))))))))))
theorem sc_Tower_bind_let : FnScope ["self", "about", "value", "other", "below"] ["self", "about", "value"] (defScope st_Tower_bind_let) := ⟨rfl, rfl, rfl, by decide +kernel, rfl, by decide +kernel, by decide +kernel⟩
theorem fo_Tower_bind_let {G : Gm} (F : FZ G) : Fo G 4 (He.fAd G.K ("Tower", some "bind_let")) ["self", "about", "value"] m_Tower_bind_let := fo_of (dd_Tower_bind_let F) sc_Tower_bind_let rfl rfl (fun _ _ _ _ _ _ us hl => match us, hl with | [_, _, _], _ => rfl) fun cdv A outer s H E C =>
  (z_one (z_if (v_val (r_meth0 C (fo_Tower_step F) (F.cl 11 (by decide)) (F.mt 44 _ _ _ rfl) (re_var (i := 0)))) (z_cons (z_unp C (re_var (i := 1)) (gs_cons C (gs_cons C gs_nil)))
    (z_one (z_expr (r_meth C (fo_Tower_go F) (F.cl 11 (by decide)) (F.mt 42 _ _ _ rfl) (re_var (i := 0)) (a_cons (r_ix C (re_var (i := 3)) re_int) (a_cons (r_meth C (fo_Setting_with_name F) (F.cl 10 (by decide)) (F.mt 40 _ _ _ rfl) (re_var (i := 4)) (a_cons (r_ix C (re_var (i := 3)) re_int) (a_cons (re_var (i := 2)) a_nil))) a_nil)))))) z_nil))
theorem sc_Tower_stick : FnScope ["self", "level"] ["self", "level"] (defScope st_Tower_stick) := ⟨rfl, rfl, rfl, by decide +kernel, rfl, by decide +kernel, by decide +kernel⟩
theorem fo_Tower_stick {G : Gm} (F : FZ G) : Fo G 1 (He.fAd G.K ("Tower", some "stick")) ["self", "level"] m_Tower_stick := fo_of (dd_Tower_stick F) sc_Tower_stick rfl rfl (fun _ _ _ _ _ _ us hl => match us, hl with | [_, _], _ => rfl) fun cdv A outer s H E C =>
  (z_one (z_setF C (F.cl 11 (by decide)) (re_var (i := 0)) (re_tup (a_cons (re_str s_31115276779) (a_cons (re_var (i := 1)) a_nil)))))
theorem sc_Tower_decide : FnScope ["self", "e", "setting", "value"] ["self", "e", "setting", "value"] (defScope st_Tower_decide) := ⟨rfl, rfl, rfl, by decide +kernel, rfl, by decide +kernel, by decide +kernel⟩
theorem fo_Tower_decide {G : Gm} (F : FZ G) : Fo G 2 (He.fAd G.K ("Tower", some "decide")) ["self", "e", "setting", "value"] m_Tower_decide := fo_of (dd_Tower_decide F) sc_Tower_decide rfl rfl (fun _ _ _ _ _ _ us hl => match us, hl with | [_, _, _, _], _ => rfl) fun cdv A outer s H E C =>
  (z_one (z_if (v_not (v_val (r_isInt C (F.free 7 _ rfl) (F.free 1 _ rfl) (re_var (i := 3))))) (z_one (z_expr (r_meth C (fo_Tower_stick F) (F.cl 11 (by decide)) (F.mt 45 _ _ _ rfl) (re_var (i := 0)) (a_cons (r_fld C (F.cl 10 (by decide)) (re_var (i := 2))) a_nil)))) (z_one (z_expr (r_meth C (fo_Tower_go F) (F.cl 11 (by decide)) (F.mt 42 _ _ _ rfl) (re_var (i := 0)) (a_cons (r_ifE (v_ne (re_var (i := 3)) re_int) (r_ix C (re_var (i := 1)) re_int) (r_ix C (re_var (i := 1)) re_int)) (a_cons (re_var (i := 2)) a_nil)))))))
theorem sc_Tower_enter : FnScope ["self", "level", "function", "argument"] ["self", "level", "function", "argument"] (defScope st_Tower_enter) := ⟨rfl, rfl, rfl, by decide +kernel, rfl, by decide +kernel, by decide +kernel⟩
theorem fo_Tower_enter {G : Gm} (F : FZ G) : Fo G 4 (He.fAd G.K ("Tower", some "enter")) ["self", "level", "function", "argument"] m_Tower_enter := fo_of (dd_Tower_enter F) sc_Tower_enter rfl rfl (fun _ _ _ _ _ _ us hl => match us, hl with | [_, _, _, _], _ => rfl) fun cdv A outer s H E C =>
  (z_one (z_if (w_or (v_val (r_isInt C (F.free 7 _ rfl) (F.free 1 _ rfl) (re_var (i := 2)))) (w_or1 (v_ne (r_ix C (re_var (i := 2)) re_int) (re_var (i := 1))))).pt (z_one (z_expr (r_meth C (fo_Tower_stick F) (F.cl 11 (by decide)) (F.mt 45 _ _ _ rfl) (re_var (i := 0)) (a_cons (re_var (i := 1)) a_nil)))) (z_one (z_if (v_val (r_meth0 C (fo_Tower_step F) (F.cl 11 (by decide)) (F.mt 44 _ _ _ rfl) (re_var (i := 0)))) (z_one (z_expr (r_meth C (fo_Tower_go F) (F.cl 11 (by decide)) (F.mt 42 _ _ _ rfl) (re_var (i := 0)) (a_cons (r_ix C (re_var (i := 2)) re_int) (a_cons (r_meth C (fo_Setting_with_name F) (F.cl 10 (by decide)) (F.mt 40 _ _ _ rfl) (r_ix C (re_var (i := 2)) re_int) (a_cons (r_ix C (re_var (i := 2)) re_int) (a_cons (re_var (i := 3)) a_nil))) a_nil))))) z_nil))))
theorem sc_Tower_operate : FnScope ["self", "kind", "level", "values", "first", "second"] ["self", "kind", "level", "values"] (defScope st_Tower_operate) := ⟨rfl, rfl, rfl, by decide +kernel, rfl, by decide +kernel, by decide +kernel⟩
theorem fo_Tower_operate {G : Gm} (F : FZ G) : Fo G 5 (He.fAd G.K ("Tower", some "operate")) ["self", "kind", "level", "values"] m_Tower_operate := fo_of (dd_Tower_operate F) sc_Tower_operate rfl rfl (fun _ _ _ _ _ _ us hl => match us, hl with | [_, _, _, _], _ => rfl) fun cdv A outer s H E C =>
  (z_cons (z_if (v_eq (re_var (i := 1)) (re_str s_1896697)) (z_cons (z_expr (r_append C (r_fld C (F.cl 11 (by decide)) (re_var (i := 0))) (a_cons (re_tup (a_cons (re_var (i := 2)) (a_cons (r_call C (fo_shown_tower F) (F.glo 16 _ rfl) (a_cons (r_ix C (re_var (i := 3)) re_int) a_nil)) a_nil))) a_nil)))
    (z_one (z_ret (r_ix C (re_var (i := 3)) re_int)))) z_nil)
    (z_cons (z_unp C (re_var (i := 3)) (gs_cons C (gs_cons C gs_nil)))
    (z_cons (z_if (v_eq (re_var (i := 1)) (re_str s_209221228)) (z_cons (z_expr (r_meth C (fo_Tower_enter F) (F.cl 11 (by decide)) (F.mt 54 _ _ _ rfl) (re_var (i := 0)) (a_cons (re_var (i := 2)) (a_cons (re_var (i := 4)) (a_cons (re_var (i := 5)) a_nil)))))
    (z_one (z_ret re_non))) z_nil)
    (z_cons (z_if (w_or (v_not (v_val (r_isInt C (F.free 7 _ rfl) (F.free 1 _ rfl) (re_var (i := 4))))) (w_or1 (v_not (v_val (r_isInt C (F.free 7 _ rfl) (F.free 1 _ rfl) (re_var (i := 5))))))).pt (z_cons (z_expr (r_meth C (fo_Tower_stick F) (F.cl 11 (by decide)) (F.mt 45 _ _ _ rfl) (re_var (i := 0)) (a_cons (re_var (i := 2)) a_nil)))
    (z_one (z_ret re_non))) z_nil)
    (z_one (z_ret (r_ifE (v_eq (re_var (i := 1)) (re_str s_1899245)) (r_add (re_var (i := 4)) (re_var (i := 5))) (r_int C (F.free 1 _ rfl) (a_cons (r_lt (re_var (i := 4)) (re_var (i := 5))) a_nil)))))))))
theorem sc_Tower_gathered : FnScope ["self", "e", "setting", "values", "other", "below"] ["self", "e", "setting", "values"] (defScope st_Tower_gathered) := ⟨rfl, rfl, rfl, by decide +kernel, rfl, by decide +kernel, by decide +kernel⟩
theorem fo_Tower_gathered {G : Gm} (F : FZ G) : Fo G 6 (He.fAd G.K ("Tower", some "gathered")) ["self", "e", "setting", "values"] m_Tower_gathered := fo_of (dd_Tower_gathered F) sc_Tower_gathered rfl rfl (fun _ _ _ _ _ _ us hl => match us, hl with | [_, _, _, _], _ => rfl) fun cdv A outer s H E C =>
  (z_cons (z_if (v_lt (r_len C (F.free 0 _ rfl) (a_cons (re_var (i := 3)) a_nil)) (r_len C (F.free 0 _ rfl) (a_cons (r_ix C (re_var (i := 1)) re_int) a_nil))) (z_cons (z_expr (r_append C (r_fld C (F.cl 11 (by decide)) (re_var (i := 0))) (a_cons (re_tup (a_cons (re_str s_12911) (a_cons (re_var (i := 1)) (a_cons (re_var (i := 2)) (a_cons (re_var (i := 3)) a_nil))))) a_nil)))
    (z_cons (z_expr (r_meth C (fo_Tower_go F) (F.cl 11 (by decide)) (F.mt 42 _ _ _ rfl) (re_var (i := 0)) (a_cons (r_ix C (r_ix C (re_var (i := 1)) re_int) (r_len C (F.free 0 _ rfl) (a_cons (re_var (i := 3)) a_nil))) (a_cons (re_var (i := 2)) a_nil))))
    (z_one (z_ret re_non)))) z_nil)
    (z_cons (z_if (v_not (v_val (r_meth0 C (fo_Tower_step F) (F.cl 11 (by decide)) (F.mt 44 _ _ _ rfl) (re_var (i := 0))))) (z_one (z_ret re_non)) z_nil)
    (z_cons (z_unp C (r_fld C (F.cl 10 (by decide)) (re_var (i := 2))) (gs_cons C (gs_cons C gs_nil)))
    (z_one (z_ret (r_meth C (fo_Tower_operate F) (F.cl 11 (by decide)) (F.mt 53 _ _ _ rfl) (re_var (i := 0)) (a_cons (r_ix C (re_var (i := 4)) re_int) (a_cons (r_fld C (F.cl 10 (by decide)) (re_var (i := 5))) (a_cons (re_var (i := 3)) a_nil)))))))))
theorem sc_Tower_put_back : FnScope ["self", "place", "rule"] ["self", "place", "rule"] (defScope st_Tower_put_back) := ⟨rfl, rfl, rfl, by decide +kernel, rfl, by decide +kernel, by decide +kernel⟩
theorem fo_Tower_put_back {G : Gm} (F : FZ G) : Fo G 1 (He.fAd G.K ("Tower", some "put_back")) ["self", "place", "rule"] m_Tower_put_back := fo_of (dd_Tower_put_back F) sc_Tower_put_back rfl rfl (fun _ _ _ _ _ _ us hl => match us, hl with | [_, _, _], _ => rfl) fun cdv A outer s H E C =>
  (z_one (z_if (v_isN (re_var (i := 2)) re_non) (z_one (z_expr (r_popT C (r_fld C (F.cl 11 (by decide)) (re_var (i := 0))) (a_cons (re_var (i := 1)) (a_cons re_non a_nil))))) (z_one (z_dput C (r_fld C (F.cl 11 (by decide)) (re_var (i := 0))) (re_var (i := 1)) (re_var (i := 2))))))
theorem sc_Tower_resume : FnScope ["self", "value", "frame", "kind", "e", "setting"] ["self", "value"] (defScope st_Tower_resume) := ⟨rfl, rfl, rfl, by decide +kernel, rfl, by decide +kernel, by decide +kernel⟩
theorem fo_Tower_resume {G : Gm} (F : FZ G) : Fo G 7 (He.fAd G.K ("Tower", some "resume")) ["self", "value"] m_Tower_resume := fo_of (dd_Tower_resume F) sc_Tower_resume rfl rfl (fun _ _ _ _ _ _ us hl => match us, hl with | [_, _], _ => rfl) fun cdv A outer s H E C =>
  (z_cons (z_if (v_not (v_tru C (r_fld C (F.cl 11 (by decide)) (re_var (i := 0))))) (z_cons (z_setF C (F.cl 11 (by decide)) (re_var (i := 0)) (re_tup (a_cons (re_str s_31880592101) (a_cons (r_call C (fo_shown_tower F) (F.glo 16 _ rfl) (a_cons (re_var (i := 1)) a_nil)) a_nil))))
    (z_one (z_ret re_non))) z_nil)
    (z_cons (z_set C (r_pop C (r_fld C (F.cl 11 (by decide)) (re_var (i := 0)))))
    (z_cons (z_set C (r_ix C (re_var (i := 2)) re_int))
    (z_cons (z_if (v_eq (re_var (i := 3)) (re_str s_207122923)) (z_cons (z_expr (r_meth C (fo_Tower_put_back F) (F.cl 11 (by decide)) (F.mt 49 _ _ _ rfl) (re_var (i := 0)) (a_cons (r_ix C (re_var (i := 2)) re_int) (a_cons (r_ix C (re_var (i := 2)) re_int) a_nil))))
    (z_one (z_ret (re_var (i := 1))))) z_nil)
    (z_cons (z_if (v_eq (re_var (i := 3)) (re_str s_3978691344228)) (z_one (z_ret (r_meth C (fo_Tower_operate F) (F.cl 11 (by decide)) (F.mt 53 _ _ _ rfl) (re_var (i := 0)) (a_cons (r_ix C (re_var (i := 2)) re_int) (a_cons (r_ix C (re_var (i := 2)) re_int) (a_cons (re_tup (a_cons (r_ix C (re_var (i := 2)) re_int) (a_cons (re_var (i := 1)) a_nil))) a_nil)))))) z_nil)
    (z_cons (z_par C (a_cons (r_ix C (re_var (i := 2)) re_int) (a_cons (r_ix C (re_var (i := 2)) re_int) a_nil)))
    (z_cons (z_if (v_eq (re_var (i := 3)) (re_str s_12911)) (z_one (z_ret (r_meth C (fo_Tower_gathered F) (F.cl 11 (by decide)) (F.mt 51 _ _ _ rfl) (re_var (i := 0)) (a_cons (re_var (i := 4)) (a_cons (re_var (i := 5)) (a_cons (r_catT C (r_ix C (re_var (i := 2)) re_int) (re_tup (a_cons (re_var (i := 1)) a_nil))) a_nil)))))) z_nil)
    (z_cons (z_if (v_eq (re_var (i := 3)) (re_str s_1896697)) (z_one (z_ret (r_meth C (fo_Tower_operate F) (F.cl 11 (by decide)) (F.mt 53 _ _ _ rfl) (re_var (i := 0)) (a_cons (re_str s_1896697) (a_cons (r_fld C (F.cl 10 (by decide)) (re_var (i := 5))) (a_cons (re_tup (a_cons (re_var (i := 1)) a_nil)) a_nil)))))) z_nil)
    (z_cons (z_if (v_eq (re_var (i := 3)) (re_str s_1782516)) (z_one (z_expr (r_meth C (fo_Tower_go F) (F.cl 11 (by decide)) (F.mt 42 _ _ _ rfl) (re_var (i := 0)) (a_cons (r_ix C (re_var (i := 4)) re_int) (a_cons (r_meth C (fo_Setting_with_name F) (F.cl 10 (by decide)) (F.mt 40 _ _ _ rfl) (re_var (i := 5)) (a_cons (r_ix C (re_var (i := 4)) re_int) (a_cons (re_var (i := 1)) a_nil))) a_nil))))) (z_one (z_if (v_eq (re_var (i := 3)) (re_str s_251296360)) (z_one (z_expr (r_meth C (fo_Tower_bind_let F) (F.cl 11 (by decide)) (F.mt 50 _ _ _ rfl) (re_var (i := 0)) (a_cons (r_fld C (F.cl 10 (by decide)) (re_var (i := 5))) (a_cons (re_var (i := 1)) a_nil))))) (z_one (z_if (v_eq (re_var (i := 3)) (re_str s_13542)) (z_one (z_expr (r_meth C (fo_Tower_decide F) (F.cl 11 (by decide)) (F.mt 52 _ _ _ rfl) (re_var (i := 0)) (a_cons (re_var (i := 4)) (a_cons (re_var (i := 5)) (a_cons (re_var (i := 1)) a_nil)))))) (z_cons (z_expr (r_append C (r_fld C (F.cl 11 (by decide)) (re_var (i := 0))) (a_cons (re_tup (a_cons (re_str s_3978691344228) (a_cons (re_var (i := 3)) (a_cons (r_fld C (F.cl 10 (by decide)) (re_var (i := 5))) (a_cons (re_var (i := 1)) a_nil))))) a_nil)))
    (z_one (z_expr (r_meth C (fo_Tower_go F) (F.cl 11 (by decide)) (F.mt 42 _ _ _ rfl) (re_var (i := 0)) (a_cons (r_ix C (re_var (i := 4)) re_int) (a_cons (re_var (i := 5)) a_nil)))))))))))
    (z_one (z_ret re_non)))))))))))
theorem sc_Tower_run : FnScope ["self", "value"] ["self"] (defScope st_Tower_run) := ⟨rfl, rfl, rfl, by decide +kernel, rfl, by decide +kernel, by decide +kernel⟩
theorem fo_Tower_run {G : Gm} (F : FZ G) : Fo G 8 (He.fAd G.K ("Tower", some "run")) ["self"] m_Tower_run := fo_of (dd_Tower_run F) sc_Tower_run rfl rfl (fun _ _ _ _ _ _ us hl => match us, hl with | [_], _ => rfl) fun cdv A outer s H E C =>
  (z_one (z_while C (v_isN (r_fld C (F.cl 11 (by decide)) (re_var (i := 0))) re_non) (z_cons (z_set C (r_meth0 C (fo_Tower_begin F) (F.cl 11 (by decide)) (F.mt 46 _ _ _ rfl) (re_var (i := 0))))
    (z_one (z_while C (w_and (v_notN (re_var (i := 1)) re_non) (w_and1 (v_isN (r_fld C (F.cl 11 (by decide)) (re_var (i := 0))) re_non))).pt (z_one (z_set C (r_meth C (fo_Tower_resume F) (F.cl 11 (by decide)) (F.mt 48 _ _ _ rfl) (re_var (i := 0)) (a_cons (re_var (i := 1)) a_nil)))))))))
theorem sc_run : FnScope ["program", "fuel", "tower"] ["program", "fuel"] (defScope st_run) := ⟨rfl, rfl, rfl, by decide +kernel, rfl, by decide +kernel, by decide +kernel⟩
theorem fo_run {G : Gm} (F : FZ G) : Fo G 9 (He.fAd G.K ("run", none)) ["program", "fuel"] m_run := fo_of (dd_run F) sc_run rfl rfl (fun _ _ _ _ _ _ us hl => match us, hl with | [_, _], _ => rfl) fun cdv A outer s H E C =>
  (z_cons (z_set C (r_make C (fo_Tower_init F) (F.mkr 11 _ rfl) (F.cg 11 _ rfl) (a_cons (re_var (i := 0)) (a_cons (re_var (i := 1)) a_nil))))
    (z_cons (z_expr (r_meth0 C (fo_Tower_run F) (F.cl 11 (by decide)) (F.mt 41 _ _ _ rfl) (re_var (i := 2))))
    (z_one (z_ret (re_tup (a_cons (r_tuple C (F.free 4 _ rfl) (a_cons (r_fld C (F.cl 11 (by decide)) (re_var (i := 2))) a_nil)) (a_cons (r_fld C (F.cl 11 (by decide)) (re_var (i := 2))) a_nil)))))))
theorem sc__law_start : FnScope ["_law_script", "_law_cell"] ["_law_script"] (defScope st__law_start) := ⟨rfl, rfl, rfl, by decide +kernel, rfl, by decide +kernel, by decide +kernel⟩
theorem fo__law_start {G : Gm} (F : FZ G) : Fo G 1 (He.fAd G.K ("_law_start", none)) ["_law_script"] m__law_start := fo_of (dd__law_start F) sc__law_start rfl rfl (fun _ _ _ _ _ _ us hl => match us, hl with | [_], _ => rfl) fun cdv A outer s H E C =>
  (z_one (z_ret (re_lst (a_cons (r_lcL C [("_law_cell", 1)] (r_slL C (re_var (i := 0)) o_none (o_some re_int)) (blkOk_by (by kernel_rfl)) (fun s H c cl fp => g_one C.blk) (fun s H c cl fp => t_yes) (fun s H c cl fp => (r_int C.blk (F.free 1 _ rfl) (a_cons (re_var (i := 1)) a_nil))) (by decide)) (a_cons re_int (a_cons re_int (a_cons re_int (a_cons re_int (a_cons (re_lst a_nil) a_nil)))))))))
theorem sc__law_fill : FnScope ["_law_c", "_law_number"] ["_law_c"] (defScope st__law_fill) := ⟨rfl, rfl, rfl, by decide +kernel, rfl, by decide +kernel, by decide +kernel⟩
theorem fo__law_fill {G : Gm} (F : FZ G) : Fo G 1 (He.fAd G.K ("_law_fill", none)) ["_law_c"] m__law_fill := fo_of (dd__law_fill F) sc__law_fill rfl rfl (fun _ _ _ _ _ _ us hl => match us, hl with | [_], _ => rfl) fun cdv A outer s H E C =>
  (z_cons (z_lput (re_var (i := 0)) re_int (r_add (r_ix C (re_var (i := 0)) re_int) re_int))
    (z_cons (z_set C (r_add (r_mul (r_ix C (re_var (i := 0)) re_int) re_int) re_int))
    (z_cons (z_if (v_lt (r_ix C (re_var (i := 0)) re_int) (r_len C (F.free 0 _ rfl) (a_cons (r_ix C (re_var (i := 0)) re_int) a_nil))) (z_cons (z_set C (r_ix C (r_ix C (re_var (i := 0)) re_int) (r_ix C (re_var (i := 0)) re_int)))
    (z_cons (z_lput (re_var (i := 0)) re_int (r_add (r_ix C (re_var (i := 0)) re_int) re_int))
    (z_cons (z_if (v_lt (re_var (i := 1)) re_int) (z_one (z_set C (r_sub (r_sub re_int re_int) (re_var (i := 1))))) z_nil)
    (z_one (z_if (v_ge (re_var (i := 1)) (r_pow re_int re_int)) (z_one (z_ret (re_var (i := 1)))) z_nil))))) z_nil)
    (z_cons (z_if (w_and (v_tru C (r_ix C (re_var (i := 0)) re_int)) (w_and1 (v_ge (r_ix C (re_var (i := 0)) re_int) (r_len C (F.free 0 _ rfl) (a_cons (r_ix C (re_var (i := 0)) re_int) a_nil))))).pt (z_one (z_set C (r_add (re_var (i := 1)) (r_mod (r_int C (F.free 1 _ rfl) (a_cons (r_ix C (r_ix C (re_var (i := 0)) re_int) re_neg) a_nil)) re_int)))) z_nil)
    (z_cons (z_set C (r_mod (r_int C (F.free 1 _ rfl) (a_cons (r_add (r_mul (re_var (i := 1)) re_int) (r_mul (r_ix C (re_var (i := 0)) re_int) re_int)) a_nil)) re_int))
    (z_one (z_ret (r_add (r_mod (r_int C (F.free 1 _ rfl) (a_cons (r_add (r_add (r_mul (re_var (i := 1)) (re_var (i := 1))) (r_mul (r_ix C (re_var (i := 0)) re_int) re_int)) re_int) a_nil)) re_int) re_int))))))))
theorem sc__law_take : FnScope ["_law_c", "_law_many", "_law_digit"] ["_law_c", "_law_many"] (defScope st__law_take) := ⟨rfl, rfl, rfl, by decide +kernel, rfl, by decide +kernel, by decide +kernel⟩
theorem fo__law_take {G : Gm} (F : FZ G) : Fo G 2 (He.fAd G.K ("_law_take", none)) ["_law_c", "_law_many"] m__law_take := fo_of (dd__law_take F) sc__law_take rfl rfl (fun _ _ _ _ _ _ us hl => match us, hl with | [_, _], _ => rfl) fun cdv A outer s H E C =>
  (z_cons (z_if (v_lt (r_ix C (re_var (i := 0)) re_int) (re_var (i := 1))) (z_one (z_lput (re_var (i := 0)) re_int (r_call C (fo__law_fill F) (F.glo 19 _ rfl) (a_cons (re_var (i := 0)) a_nil)))) z_nil)
    (z_cons (z_set C (r_mod (r_int C (F.free 1 _ rfl) (a_cons (r_ix C (re_var (i := 0)) re_int) a_nil)) (re_var (i := 1))))
    (z_cons (z_lput (re_var (i := 0)) re_int (r_fdiv (r_ix C (re_var (i := 0)) re_int) (re_var (i := 1))))
    (z_one (z_ret (re_var (i := 2)))))))
theorem sc__law_turn : FnScope [] [] (defScope st__law_turn) := ⟨rfl, rfl, rfl, by decide +kernel, rfl, by decide +kernel, by decide +kernel⟩
theorem fo__law_turn {G : Gm} (F : FZ G) : Fo G 1 (He.fAd G.K ("_law_turn", none)) [] m__law_turn := fo_of (dd__law_turn F) sc__law_turn rfl rfl (fun _ _ _ _ _ _ us hl => match us, hl with | [], _ => rfl) fun cdv A outer s H E C =>
  (z_one (z_ret (re_tup (a_cons (re_str s_209221228) (a_cons (re_tup (a_cons (re_str s_209221228) (a_cons (re_tup (a_cons (re_str s_232290021) (a_cons (re_str s_102) a_nil))) (a_cons (re_tup (a_cons (re_str s_232290021) (a_cons (re_str s_102) a_nil))) a_nil)))) (a_cons (re_tup (a_cons (re_str s_1899245) (a_cons (re_tup (a_cons (re_str s_232290021) (a_cons (re_str s_110) a_nil))) (a_cons (re_tup (a_cons (re_str s_1817325) (a_cons (r_sub re_int re_int) a_nil))) a_nil)))) a_nil))))))
theorem sc__law_started : FnScope ["_law_body", "_law_many"] ["_law_body", "_law_many"] (defScope st__law_started) := ⟨rfl, rfl, rfl, by decide +kernel, rfl, by decide +kernel, by decide +kernel⟩
theorem fo__law_started {G : Gm} (F : FZ G) : Fo G 1 (He.fAd G.K ("_law_started", none)) ["_law_body", "_law_many"] m__law_started := fo_of (dd__law_started F) sc__law_started rfl rfl (fun _ _ _ _ _ _ us hl => match us, hl with | [_, _], _ => rfl) fun cdv A outer s H E C =>
  (z_one (z_ret (re_tup (a_cons (re_str s_1782516) (a_cons (re_str s_13295) (a_cons (re_tup (a_cons (re_str s_13166) (a_cons (re_str s_102) (a_cons (re_tup (a_cons (re_str s_13166) (a_cons (re_str s_110) (a_cons (re_var (i := 0)) a_nil)))) a_nil)))) (a_cons (re_tup (a_cons (re_str s_209221228) (a_cons (re_tup (a_cons (re_str s_209221228) (a_cons (re_tup (a_cons (re_str s_232290021) (a_cons (re_str s_13295) a_nil))) (a_cons (re_tup (a_cons (re_str s_232290021) (a_cons (re_str s_13295) a_nil))) a_nil)))) (a_cons (re_tup (a_cons (re_str s_1817325) (a_cons (re_var (i := 1)) a_nil))) a_nil)))) a_nil)))))))
theorem sc__law_doubled : FnScope ["_law_c", "_law_many", "_law_x", "_law_turn_here", "_law_body", "_law_loop", "_law_program", "_law_value", "_law_k"] ["_law_c"] (defScope st__law_doubled) := ⟨rfl, rfl, rfl, by decide +kernel, rfl, by decide +kernel, by decide +kernel⟩
theorem fo__law_doubled {G : Gm} (F : FZ G) : Fo G 3 (He.fAd G.K ("_law_doubled", none)) ["_law_c"] m__law_doubled := fo_of (dd__law_doubled F) sc__law_doubled rfl rfl (fun _ _ _ _ _ _ us hl => match us, hl with | [_], _ => rfl) fun cdv A outer s H E C =>
  (z_cons (z_set C (r_call C (fo__law_take F) (F.glo 20 _ rfl) (a_cons (re_var (i := 0)) (a_cons re_int a_nil))))
    (z_cons (z_set C (r_sub (r_call C (fo__law_take F) (F.glo 20 _ rfl) (a_cons (re_var (i := 0)) (a_cons re_int a_nil))) re_int))
    (z_cons (z_set C (re_tup (a_cons (re_str s_209221228) (a_cons (r_call0 C (fo__law_turn F) (F.glo 21 _ rfl)) (a_cons (re_tup (a_cons (re_str s_1899245) (a_cons (re_tup (a_cons (re_str s_232290021) (a_cons (re_str s_120) a_nil))) (a_cons (re_tup (a_cons (re_str s_232290021) (a_cons (re_str s_120) a_nil))) a_nil)))) a_nil)))))
    (z_cons (z_set C (re_tup (a_cons (re_str s_13166) (a_cons (re_str s_120) (a_cons (re_tup (a_cons (re_str s_13542) (a_cons (re_tup (a_cons (re_str s_228162035) (a_cons (re_tup (a_cons (re_str s_1817325) (a_cons re_int a_nil))) (a_cons (re_tup (a_cons (re_str s_232290021) (a_cons (re_str s_110) a_nil))) a_nil)))) (a_cons (re_var (i := 3)) (a_cons (re_tup (a_cons (re_str s_232290021) (a_cons (re_str s_120) a_nil))) a_nil))))) a_nil)))))
    (z_cons (z_set C (re_tup (a_cons (re_str s_13166) (a_cons (re_str s_102) (a_cons (re_tup (a_cons (re_str s_13166) (a_cons (re_str s_110) (a_cons (re_var (i := 4)) a_nil)))) a_nil)))))
    (z_cons (z_set C (re_tup (a_cons (re_str s_1782516) (a_cons (re_str s_13295) (a_cons (re_var (i := 5)) (a_cons (re_tup (a_cons (re_str s_209221228) (a_cons (re_tup (a_cons (re_str s_209221228) (a_cons (re_tup (a_cons (re_str s_209221228) (a_cons (re_tup (a_cons (re_str s_232290021) (a_cons (re_str s_13295) a_nil))) (a_cons (re_tup (a_cons (re_str s_232290021) (a_cons (re_str s_13295) a_nil))) a_nil)))) (a_cons (re_tup (a_cons (re_str s_1817325) (a_cons (re_var (i := 1)) a_nil))) a_nil)))) (a_cons (re_tup (a_cons (re_str s_1817325) (a_cons (re_var (i := 2)) a_nil))) a_nil)))) a_nil))))))
    (z_cons (z_set C (re_var (i := 2)))
    (z_cons (z_forR1 C (F.free 9 _ rfl) (re_var (i := 1)) (g_one C) (z_one (z_set C (r_add (re_var (i := 7)) (re_var (i := 7))))))
    (z_one (z_ret (re_lst (a_cons (re_var (i := 6)) (a_cons (re_tup a_nil) (a_cons (re_var (i := 7)) (a_cons (r_add (r_mul re_int (re_var (i := 1))) re_int) a_nil)))))))))))))))
theorem sc__law_counted : FnScope ["_law_c", "_law_many", "_law_turn_here", "_law_value", "_law_n", "_law_shown", "_law_program", "_law_outputs", "_law_kind", "_law_steps", "_law_k", "_law_body"] ["_law_c"] (defScope st__law_counted) := ⟨rfl, rfl, rfl, by decide +kernel, rfl, by decide +kernel, by decide +kernel⟩
theorem fo__law_counted {G : Gm} (F : FZ G) : Fo G 3 (He.fAd G.K ("_law_counted", none)) ["_law_c"] m__law_counted := fo_of (dd__law_counted F) sc__law_counted rfl rfl (fun _ _ _ _ _ _ us hl => match us, hl with | [_], _ => rfl) fun cdv A outer s H E C =>
  (z_cons (z_set C (r_call C (fo__law_take F) (F.glo 20 _ rfl) (a_cons (re_var (i := 0)) (a_cons (r_ix C (re_lst (a_cons re_int (a_cons re_int a_nil))) (r_int C (F.free 1 _ rfl) (a_cons (r_eq (r_call C (fo__law_take F) (F.glo 20 _ rfl) (a_cons (re_var (i := 0)) (a_cons re_int a_nil))) re_int) a_nil))) a_nil))))
    (z_cons (z_set C (r_call0 C (fo__law_turn F) (F.glo 21 _ rfl)))
    (z_cons (z_set C re_int)
    (z_cons (z_if (v_eq (r_call C (fo__law_take F) (F.glo 20 _ rfl) (a_cons (re_var (i := 0)) (a_cons re_int a_nil))) re_int) (z_cons (z_set C (re_tup (a_cons (re_str s_1899245) (a_cons (re_tup (a_cons (re_str s_1817325) (a_cons re_int a_nil))) (a_cons (re_var (i := 2)) a_nil)))))
    (z_one (z_set C (r_add re_int (r_mul re_int (re_var (i := 1))))))) z_nil)
    (z_cons (z_set C (re_tup (a_cons (re_str s_232290021) (a_cons (re_str s_110) a_nil))))
    (z_cons (z_set C (r_eq (r_call C (fo__law_take F) (F.glo 20 _ rfl) (a_cons (re_var (i := 0)) (a_cons re_int a_nil))) re_int))
    (z_cons (z_if (v_val (re_var (i := 5))) (z_one (z_set C (re_tup (a_cons (re_str s_1896697) (a_cons (re_var (i := 4)) a_nil))))) z_nil)
    (z_cons (z_set C (r_call C (fo__law_started F) (F.glo 22 _ rfl) (a_cons (re_tup (a_cons (re_str s_13542) (a_cons (re_tup (a_cons (re_str s_228162035) (a_cons (re_tup (a_cons (re_str s_1817325) (a_cons re_int a_nil))) (a_cons (re_var (i := 4)) a_nil)))) (a_cons (re_var (i := 2)) (a_cons (re_tup (a_cons (re_str s_1817325) (a_cons re_int a_nil))) a_nil))))) (a_cons (re_var (i := 1)) a_nil))))
    (z_cons (z_set C (re_lst a_nil))
    (z_cons (z_set C (r_call C (fo__law_take F) (F.glo 20 _ rfl) (a_cons (re_var (i := 0)) (a_cons re_int a_nil))))
    (z_cons (z_set C (r_add (r_mul re_int (re_var (i := 1))) re_int))
    (z_cons (z_forR3 C (F.free 9 _ rfl) (a_cons (re_var (i := 1)) (a_cons (r_sub re_int re_int) (a_cons (r_sub re_int re_int) a_nil))) (g_one C) (z_cons (z_if (w_and (v_val (re_var (i := 5))) (w_and1 (v_eq (re_var (i := 8)) re_int))).pt (z_one (z_set C (r_catL (re_var (i := 7)) (re_lst (a_cons (re_tup (a_cons re_int (a_cons re_int a_nil))) a_nil))))) z_nil)
    (z_one (z_if (v_val (re_var (i := 5))) (z_one (z_expr (r_append C (re_var (i := 7)) (a_cons (re_tup (a_cons re_int (a_cons (re_var (i := 10)) a_nil))) a_nil)))) z_nil))))
    (z_cons (z_if (v_eq (re_var (i := 8)) re_int) (z_cons (z_set C (re_tup (a_cons (re_str s_241006181) (a_cons (re_str s_228162035) (a_cons (re_tup (a_cons (re_str s_1782516) (a_cons (re_str s_118) (a_cons (re_tup (a_cons (re_str s_31650050284) a_nil)) (a_cons (re_tup (a_cons (re_str s_232290021) (a_cons (re_str s_118) a_nil))) a_nil))))) (a_cons (re_var (i := 6)) a_nil))))))
    (z_one (z_set C (r_add (r_add (re_var (i := 9)) (re_var (i := 1))) re_int)))) z_nil)
    (z_cons (z_if (v_eq (re_var (i := 8)) re_int) (z_cons (z_set C (re_tup (a_cons (re_str s_241006181) (a_cons (re_str s_1896697) (a_cons (re_tup (a_cons (re_str s_1782516) (a_cons (re_str s_118) (a_cons (re_tup (a_cons (re_str s_1896697) (a_cons (re_tup (a_cons (re_str s_1817325) (a_cons re_int a_nil))) a_nil))) (a_cons (re_tup (a_cons (re_str s_31650050284) a_nil)) a_nil))))) (a_cons (re_var (i := 6)) a_nil))))))
    (z_one (z_set C (r_add (re_var (i := 9)) (r_ix C (re_lst (a_cons re_int (a_cons (r_add (re_var (i := 1)) re_int) a_nil))) (r_int C (F.free 1 _ rfl) (a_cons (re_var (i := 5)) a_nil))))))) z_nil)
    (z_cons (z_if (v_eq (re_var (i := 8)) re_int) (z_cons (z_set C (re_tup (a_cons (re_str s_241006181) (a_cons (re_str s_228162035) (a_cons (re_tup (a_cons (re_str s_228162035) (a_cons (re_tup (a_cons (re_str s_236484980) (a_cons re_int a_nil))) (a_cons (re_tup (a_cons (re_str s_236484980) (a_cons re_int a_nil))) a_nil)))) (a_cons (re_tup (a_cons (re_str s_13542) (a_cons (re_tup (a_cons (re_str s_228162035) (a_cons (re_tup (a_cons (re_str s_1817325) (a_cons re_int a_nil))) (a_cons (re_var (i := 4)) a_nil)))) (a_cons (re_var (i := 2)) (a_cons (re_tup (a_cons (re_str s_1817325) (a_cons re_int a_nil))) a_nil))))) a_nil))))))
    (z_cons (z_set C (r_call C (fo__law_started F) (F.glo 22 _ rfl) (a_cons (re_var (i := 11)) (a_cons (re_var (i := 1)) a_nil))))
    (z_one (z_set C (r_add (r_add (re_var (i := 9)) (r_mul re_int (re_var (i := 1)))) re_int))))) z_nil)
    (z_one (z_ret (re_lst (a_cons (re_var (i := 6)) (a_cons (r_tuple C (F.free 4 _ rfl) (a_cons (re_var (i := 7)) a_nil)) (a_cons (re_var (i := 3)) (a_cons (re_var (i := 9)) a_nil))))))))))))))))))))))
theorem sc_law : FnScope ["_law_script", "_law_c", "_law_program", "_law_outputs", "_law_value", "_law_steps", "_law_plain", "_law_code", "_law_due", "_law_told"] ["_law_script"] (defScope st_law) := ⟨rfl, rfl, rfl, by decide +kernel, rfl, by decide +kernel, by decide +kernel⟩
theorem fo_law {G : Gm} (F : FZ G) : Fo G 65 (He.fAd G.K ("law", none)) ["_law_script"] m_law := fo_of (dd_law F) sc_law rfl rfl (fun _ _ _ _ _ _ us hl => match us, hl with | [_], _ => rfl) fun cdv A outer s H E C =>
  (z_cons (z_set C (r_call C (fo__law_start F) (F.glo 18 _ rfl) (a_cons (re_var (i := 0)) a_nil)))
    (z_cons (z_if (v_eq (r_call C (fo__law_take F) (F.glo 20 _ rfl) (a_cons (re_var (i := 1)) (a_cons re_int a_nil))) re_int) (z_one (z_unpL C (r_call C (fo__law_doubled F) (F.glo 23 _ rfl) (a_cons (re_var (i := 1)) a_nil)) (gs_cons C (gs_cons C (gs_cons C (gs_cons C gs_nil)))))) (z_one (z_unpL C (r_call C (fo__law_counted F) (F.glo 24 _ rfl) (a_cons (re_var (i := 1)) a_nil)) (gs_cons C (gs_cons C (gs_cons C (gs_cons C gs_nil)))))))
    (z_cons (z_if (v_gt (re_var (i := 5)) re_int) (z_one (z_ret re_bl)) z_nil)
    (z_cons (z_set C (r_call C (fo_collapse F) (F.glo 6 _ rfl) (a_cons (re_var (i := 2)) a_nil)))
    (z_cons (z_set C (r_call C (fo_compile_plain F) (F.glo 14 _ rfl) (a_cons (re_var (i := 6)) a_nil)))
    (z_cons (z_set C (re_tup (a_cons (re_var (i := 3)) (a_cons (re_tup (a_cons (re_str s_31880592101) (a_cons (re_var (i := 4)) a_nil))) a_nil))))
    (z_cons (z_if (w_or (v_neD C (r_call C (fo_run F) (F.glo 17 _ rfl) (a_cons (re_var (i := 2)) (a_cons (re_var (i := 5)) a_nil))) (re_var (i := 8))) (w_or (v_neD C (r_call C (fo_run_plain F) (F.glo 12 _ rfl) (a_cons (re_var (i := 6)) (a_cons (re_var (i := 5)) a_nil))) (re_var (i := 8))) (w_or1 (v_neD C (r_call C (fo_run_code F) (F.glo 2 _ rfl) (a_cons (re_var (i := 7)) (a_cons (re_var (i := 5)) a_nil))) (re_var (i := 8)))))).pt (z_one (z_ret re_bl)) z_nil)
    (z_cons (z_set C (r_call C (fo_run F) (F.glo 17 _ rfl) (a_cons (re_var (i := 2)) (a_cons (r_sub (re_var (i := 5)) re_int) a_nil))))
    (z_cons (z_if (w_or (v_neD C (r_ix C (re_var (i := 9)) re_int) (re_tup (a_cons (re_str s_230422885) a_nil))) (w_or1 (v_neD C (r_ix C (re_var (i := 9)) re_int) (r_slT C (re_var (i := 3)) o_none (o_some (r_len C (F.free 0 _ rfl) (a_cons (r_ix C (re_var (i := 9)) re_int) a_nil))))))).pt (z_one (z_ret re_bl)) z_nil)
    (z_one (z_ret (r_andV (r_eqD C (r_call C (fo_run_plain F) (F.glo 12 _ rfl) (a_cons (re_var (i := 6)) (a_cons (r_sub (re_var (i := 5)) re_int) a_nil))) (re_var (i := 9))) (r_eqD C (r_call C (fo_run_code F) (F.glo 2 _ rfl) (a_cons (re_var (i := 7)) (a_cons (r_sub (re_var (i := 5)) re_int) a_nil))) (re_var (i := 9)))))))))))))))
end Zg
set_option Elab.async false
set_option maxRecDepth 100000
set_option maxHeartbeats 4000000
set_option linter.all false
/-! ZDer2: the interpreters' loops, the defs that call them, the law over what they are shown to do; printed by gen.py. -/
namespace Zg
open PySem L2
theorem FZ.re {G : Gm} (F : FZ G) (x : Ex) : FZ (G.re x) := ⟨F.free, fun c hc => ⟨(F.cl c hc).cl, (F.cl c hc).na, (F.cl c hc).nd, (F.cl c hc).le⟩, F.cg, F.glo, F.mt, F.mkr, F.dd, F.kinds, F.parts, F.most⟩
theorem Ck.re {G : Gm} {X : Cx} {k : Nat} (C : Ck G X k) (x : Ex) : Ck (G.re x) X k := ⟨⟨C.hP, C.hw, C.hK, C.hm, C.hb, C.calm, C.room, C.nd⟩, C.po⟩
theorem pt_fam {G : Gm} {X : Cx} {e : Expr} {m : MT} (h : ∀ x : Ex, PT X e (DT (G.re x) m)) : PT X e (TOf G m) := ⟨fun pins s σ H Q I ⟨x, q⟩ => (h x).run pins s σ H Q I q⟩
theorem ps_fam {G : Gm} {X : Cx} {st : Stmt} {m : MS} (h : ∀ x : Ex, PS X st (DS (G.re x) m)) : PS X st (SOf G m) := ⟨fun pins s σ H D I ⟨x, q⟩ => (h x).run pins s σ H D I q⟩
theorem pss_fam {G : Gm} {X : Cx} {st : List Stmt} {m : MS} (h : ∀ x : Ex, PSs X st (DS (G.re x) m)) : PSs X st (SOf G m) := ⟨fun pins s σ H D I ⟨x, q⟩ => (h x).run pins s σ H D I q⟩
theorem tr_Tower_run {G : Gm} (F : FZ G) (cdv : Value) (A : Around) (outer : List Env) (s : Shared) (H : Hp) (E : XK) (C : Ck G (XX G ["self", "value"] "Tower.run" (defScope st_Tower_run) (He.fAd G.K ("Tower", some "run")) cdv A outer s H E) 7) : PSs (XX G ["self", "value"] "Tower.run" (defScope st_Tower_run) (He.fAd G.K ("Tower", some "run")) cdv A outer s H E) (defBody st_Tower_run) (tWhile (TOf G iTow.L.to) (tSeq (SOf G iTow.L.so) (tWhile (TOf G iTow.L.ti) (SOf G iTow.L.si)))) :=
  pss_one (ps_while C.po (pt_fam fun x => (v_isN (r_fld (C.re x) ((F.re x).cl 11 (by decide)) (re_var (i := 0))) re_non)) (pss_cons (ps_fam fun x => (z_set (C.re x) (r_meth0 (C.re x) (fo_Tower_begin (F.re x)) ((F.re x).cl 11 (by decide)) ((F.re x).mt 46 _ _ _ rfl) (re_var (i := 0))))) (pss_one (ps_while C.po (pt_fam fun x => (w_and (v_notN (re_var (i := 1)) re_non) (w_and1 (v_isN (r_fld (C.re x) ((F.re x).cl 11 (by decide)) (re_var (i := 0))) re_non))).pt) (pss_fam fun x => (z_one (z_set (C.re x) (r_meth (C.re x) (fo_Tower_resume (F.re x)) ((F.re x).cl 11 (by decide)) ((F.re x).mt 48 _ _ _ rfl) (re_var (i := 0)) (a_cons (re_var (i := 1)) a_nil)))))))))
theorem lo_Tower_run {G : Gm} (F : FZ G) {x : Ex} {v : AV} {A0 AF : AH} {mr : MF} (hm : ∀ avs A r, mr avs A = some r → avs = [v] ∧ A = A0 ∧ r = (.non, AF))
    (hw : ∀ (Fin : St → Hp → Prop) ρ σ H, Cf (G.re x) ρ A0 (some v :: List.replicate 1 none) σ H → (∀ ρ' H' σ', Ext (G.re x) ρ A0 H ρ' AF H' → Rel (G.re x) ρ' AF H' → Fin σ' H') → ∃ m, WP G iTow.L Fin m 0 σ H) : Fo (G.re x) 8 (He.fAd G.K ("Tower", some "run")) ["self"] mr := by
  obtain ⟨fd, D⟩ := dd_Tower_run F
  refine ⟨⟨fd, D.ok sc_Tower_run (fun vs H Q E h => h.1) fun cdv A outer s H vs Q E hr h => ⟨_, PSs.nox (tr_Tower_run F cdv A outer s H E ⟨⟨rfl, rfl, rfl, rfl, rfl, rfl, hr, sc_Tower_run.nd⟩, PassesOwn.never⟩), ?_⟩, D.bindsN (fun _ _ _ _ _ _ us hl => match us, hl with | [_], _ => rfl), fdAt_of D⟩, D.kp, fun avs A r h => by
    obtain ⟨rfl, _⟩ := hm _ _ _ h
    rfl⟩
  obtain ⟨hl, ρ, A1, avs, w, A', R, rr, hm1, o⟩ := h
  obtain ⟨rfl, rfl, e⟩ := hm _ _ _ hm1
  cases e
  obtain ⟨m, h⟩ := hw (fun _ H' => Q .non H') ρ (L2.start ["self", "value"] vs) H ⟨rst_start (p := 1) (m := 2) rfl rfl rr, R⟩ fun ρ' H' σ' e R' => o ρ' H' .non e R' .non
  exact while_two (L := iTow.L) rfl h
theorem tr_PlainRun_run {G : Gm} (F : FZ G) (cdv : Value) (A : Around) (outer : List Env) (s : Shared) (H : Hp) (E : XK) (C : Ck G (XX G ["self", "value"] "PlainRun.run" (defScope st_PlainRun_run) (He.fAd G.K ("PlainRun", some "run")) cdv A outer s H E) 6) : PSs (XX G ["self", "value"] "PlainRun.run" (defScope st_PlainRun_run) (He.fAd G.K ("PlainRun", some "run")) cdv A outer s H E) (defBody st_PlainRun_run) (tWhile (TOf G iPla.L.to) (tSeq (SOf G iPla.L.so) (tWhile (TOf G iPla.L.ti) (SOf G iPla.L.si)))) :=
  pss_one (ps_while C.po (pt_fam fun x => (v_isN (r_fld (C.re x) ((F.re x).cl 6 (by decide)) (re_var (i := 0))) re_non)) (pss_cons (ps_fam fun x => (z_set (C.re x) (r_meth0 (C.re x) (fo_PlainRun_begin (F.re x)) ((F.re x).cl 6 (by decide)) ((F.re x).mt 21 _ _ _ rfl) (re_var (i := 0))))) (pss_one (ps_while C.po (pt_fam fun x => (w_and (v_notN (re_var (i := 1)) re_non) (w_and1 (v_isN (r_fld (C.re x) ((F.re x).cl 6 (by decide)) (re_var (i := 0))) re_non))).pt) (pss_fam fun x => (z_one (z_set (C.re x) (r_meth (C.re x) (fo_PlainRun_resume (F.re x)) ((F.re x).cl 6 (by decide)) ((F.re x).mt 23 _ _ _ rfl) (re_var (i := 0)) (a_cons (re_var (i := 1)) a_nil)))))))))
theorem lo_PlainRun_run {G : Gm} (F : FZ G) {x : Ex} {v : AV} {A0 AF : AH} {mr : MF} (hm : ∀ avs A r, mr avs A = some r → avs = [v] ∧ A = A0 ∧ r = (.non, AF))
    (hw : ∀ (Fin : St → Hp → Prop) ρ σ H, Cf (G.re x) ρ A0 (some v :: List.replicate 1 none) σ H → (∀ ρ' H' σ', Ext (G.re x) ρ A0 H ρ' AF H' → Rel (G.re x) ρ' AF H' → Fin σ' H') → ∃ m, WP G iPla.L Fin m 0 σ H) : Fo (G.re x) 7 (He.fAd G.K ("PlainRun", some "run")) ["self"] mr := by
  obtain ⟨fd, D⟩ := dd_PlainRun_run F
  refine ⟨⟨fd, D.ok sc_PlainRun_run (fun vs H Q E h => h.1) fun cdv A outer s H vs Q E hr h => ⟨_, PSs.nox (tr_PlainRun_run F cdv A outer s H E ⟨⟨rfl, rfl, rfl, rfl, rfl, rfl, hr, sc_PlainRun_run.nd⟩, PassesOwn.never⟩), ?_⟩, D.bindsN (fun _ _ _ _ _ _ us hl => match us, hl with | [_], _ => rfl), fdAt_of D⟩, D.kp, fun avs A r h => by
    obtain ⟨rfl, _⟩ := hm _ _ _ h
    rfl⟩
  obtain ⟨hl, ρ, A1, avs, w, A', R, rr, hm1, o⟩ := h
  obtain ⟨rfl, rfl, e⟩ := hm _ _ _ hm1
  cases e
  obtain ⟨m, h⟩ := hw (fun _ H' => Q .non H') ρ (L2.start ["self", "value"] vs) H ⟨rst_start (p := 1) (m := 2) rfl rfl rr, R⟩ fun ρ' H' σ' e R' => o ρ' H' .non e R' .non
  exact while_two (L := iPla.L) rfl h
theorem tr_Machine_run {G : Gm} (F : FZ G) (cdv : Value) (A : Around) (outer : List Env) (s : Shared) (H : Hp) (E : XK) (C : Ck G (XX G ["self", "frame", "instruction"] "Machine.run" (defScope st_Machine_run) (He.fAd G.K ("Machine", some "run")) cdv A outer s H E) 5) : PSs (XX G ["self", "frame", "instruction"] "Machine.run" (defScope st_Machine_run) (He.fAd G.K ("Machine", some "run")) cdv A outer s H E) (defBody st_Machine_run) (tWhile (TOf G iMac.L.to) (SOf G iMac.L.so)) :=
  pss_one (ps_while C.po (pt_fam fun x => (v_isN (r_fld (C.re x) ((F.re x).cl 1 (by decide)) (re_var (i := 0))) re_non)) (pss_fam fun x => (z_cons (z_set (C.re x) (r_ix (C.re x) (r_fld (C.re x) ((F.re x).cl 1 (by decide)) (re_var (i := 0))) re_neg))
    (z_cons (z_set (C.re x) (r_ix (C.re x) (r_fld (C.re x) ((F.re x).cl 0 (by decide)) (re_var (i := 1))) (r_fld (C.re x) ((F.re x).cl 0 (by decide)) (re_var (i := 1)))))
    (z_cons (z_addF (C.re x) ((F.re x).cl 0 (by decide)) (re_var (i := 1)) re_int)
    (z_one (z_expr (r_meth (C.re x) (fo_Machine_execute (F.re x)) ((F.re x).cl 1 (by decide)) ((F.re x).mt 1 _ _ _ rfl) (re_var (i := 0)) (a_cons (re_var (i := 1)) (a_cons (re_var (i := 2)) a_nil))))))))))
theorem lo_Machine_run {G : Gm} (F : FZ G) {x : Ex} {v : AV} {A0 AF : AH} {mr : MF} (hm : ∀ avs A r, mr avs A = some r → avs = [v] ∧ A = A0 ∧ r = (.non, AF))
    (hw : ∀ (Fin : St → Hp → Prop) ρ σ H, Cf (G.re x) ρ A0 (some v :: List.replicate 2 none) σ H → (∀ ρ' H' σ', Ext (G.re x) ρ A0 H ρ' AF H' → Rel (G.re x) ρ' AF H' → Fin σ' H') → ∃ m, WP G iMac.L Fin m 0 σ H) : Fo (G.re x) 6 (He.fAd G.K ("Machine", some "run")) ["self"] mr := by
  obtain ⟨fd, D⟩ := dd_Machine_run F
  refine ⟨⟨fd, D.ok sc_Machine_run (fun vs H Q E h => h.1) fun cdv A outer s H vs Q E hr h => ⟨_, PSs.nox (tr_Machine_run F cdv A outer s H E ⟨⟨rfl, rfl, rfl, rfl, rfl, rfl, hr, sc_Machine_run.nd⟩, PassesOwn.never⟩), ?_⟩, D.bindsN (fun _ _ _ _ _ _ us hl => match us, hl with | [_], _ => rfl), fdAt_of D⟩, D.kp, fun avs A r h => by
    obtain ⟨rfl, _⟩ := hm _ _ _ h
    rfl⟩
  obtain ⟨hl, ρ, A1, avs, w, A', R, rr, hm1, o⟩ := h
  obtain ⟨rfl, rfl, e⟩ := hm _ _ _ hm1
  cases e
  obtain ⟨m, h⟩ := hw (fun _ H' => Q .non H') ρ (L2.start ["self", "frame", "instruction"] vs) H ⟨rst_start (p := 1) (m := 3) rfl rfl rr, R⟩ fun ρ' H' σ' e R' => o ρ' H' .non e R' .non
  exact while_one (L := iMac.L) rfl h
theorem fx_run {G : Gm} (F : FZ G) {mr : MF} (h : Fo G 8 (He.fAd G.K ("Tower", some "run")) ["self"] mr) : Fo G 9 (He.fAd G.K ("run", none)) ["program", "fuel"] (mRun 2 3 (bR iTow mr)) := fo_of (dd_run F) sc_run rfl rfl (fun _ _ _ _ _ _ us hl => match us, hl with | [_, _], _ => rfl) fun cdv A outer s H E C =>
  (z_cons (z_set C (r_make C (fo_Tower_init F) (F.mkr 11 _ rfl) (F.cg 11 _ rfl) (a_cons (re_var (i := 0)) (a_cons (re_var (i := 1)) a_nil))))
    (z_cons (z_expr (r_meth0 C h (F.cl 11 (by decide)) (F.mt 41 _ _ _ rfl) (re_var (i := 2))))
    (z_one (z_ret (re_tup (a_cons (r_tuple C (F.free 4 _ rfl) (a_cons (r_fld C (F.cl 11 (by decide)) (re_var (i := 2))) a_nil)) (a_cons (r_fld C (F.cl 11 (by decide)) (re_var (i := 2))) a_nil)))))))
theorem fx_run_plain {G : Gm} (F : FZ G) {mr : MF} (h : Fo G 7 (He.fAd G.K ("PlainRun", some "run")) ["self"] mr) : Fo G 8 (He.fAd G.K ("run_plain", none)) ["plain", "fuel"] (mRun 2 3 (bR iPla mr)) := fo_of (dd_run_plain F) sc_run_plain rfl rfl (fun _ _ _ _ _ _ us hl => match us, hl with | [_, _], _ => rfl) fun cdv A outer s H E C =>
  (z_cons (z_set C (r_make C (fo_PlainRun_init F) (F.mkr 6 _ rfl) (F.cg 6 _ rfl) (a_cons (re_var (i := 0)) (a_cons (re_var (i := 1)) a_nil))))
    (z_cons (z_expr (r_meth0 C h (F.cl 6 (by decide)) (F.mt 16 _ _ _ rfl) (re_var (i := 2))))
    (z_one (z_ret (re_tup (a_cons (r_tuple C (F.free 4 _ rfl) (a_cons (r_fld C (F.cl 6 (by decide)) (re_var (i := 2))) a_nil)) (a_cons (r_fld C (F.cl 6 (by decide)) (re_var (i := 2))) a_nil)))))))
theorem fx_run_code {G : Gm} (F : FZ G) {mr : MF} (h : Fo G 6 (He.fAd G.K ("Machine", some "run")) ["self"] mr) : Fo G 7 (He.fAd G.K ("run_code", none)) ["code", "fuel"] (mRun 2 3 (bR iMac mr)) := fo_of (dd_run_code F) sc_run_code rfl rfl (fun _ _ _ _ _ _ us hl => match us, hl with | [_, _], _ => rfl) fun cdv A outer s H E C =>
  (z_cons (z_set C (r_make C (fo_Machine_init F) (F.mkr 1 _ rfl) (F.cg 1 _ rfl) (a_cons (re_var (i := 0)) (a_cons (re_var (i := 1)) a_nil))))
    (z_cons (z_expr (r_meth0 C h (F.cl 1 (by decide)) (F.mt 0 _ _ _ rfl) (re_var (i := 2))))
    (z_one (z_ret (re_tup (a_cons (r_tuple C (F.free 4 _ rfl) (a_cons (r_fld C (F.cl 1 (by decide)) (re_var (i := 2))) a_nil)) (a_cons (r_fld C (F.cl 1 (by decide)) (re_var (i := 2))) a_nil)))))))
def b_lawX (r0 r1 r2 r3 r4 : MF) : MS := (mSeq (mSet 1 (mCall m__law_start (mCons (mVar 0) mNil)))
    (mSeq (mIfS (mB (mOp oEq (mCall m__law_take (mCons (mVar 1) (mCons (mC (.int 3)) mNil))) (mC (.int 0)))) (mUnpL [2, 3, 4, 5] (mCall m__law_doubled (mCons (mVar 1) mNil))) (mUnpL [2, 3, 4, 5] (mCall m__law_counted (mCons (mVar 1) mNil))))
    (mSeq (mIfS (mB (mOp oGt (mVar 5) (mC (.int 2000)))) (mRet (mC (.bl true))) mNext)
    (mSeq (mSet 6 (mCall r0 (mCons (mVar 2) mNil)))
    (mSeq (mSet 7 (mCall r1 (mCons (mVar 6) mNil)))
    (mSeq (mSet 8 (mTup (mCons (mVar 3) (mCons (mTup (mCons (mC (.str 31880592101)) (mCons (mVar 4) mNil))) mNil))))
    (mSeq (mIfS (mOr (mB (mOp oNeD (mCall r2 (mCons (mVar 2) (mCons (mVar 5) mNil))) (mVar 8))) (mOr (mB (mOp oNeD (mCall r3 (mCons (mVar 6) (mCons (mVar 5) mNil))) (mVar 8))) (mB (mOp oNeD (mCall r4 (mCons (mVar 7) (mCons (mVar 5) mNil))) (mVar 8))))) (mRet (mC (.bl false))) mNext)
    (mSeq (mSet 9 (mCall r2 (mCons (mVar 2) (mCons (mOp oSub (mVar 5) (mC (.int 1))) mNil))))
    (mSeq (mIfS (mOr (mB (mOp oNeD (mOp oIx (mVar 9) (mC (.int 1))) (mTup (mCons (mC (.str 230422885)) mNil)))) (mB (mOp oNeD (mOp oIx (mVar 9) (mC (.int 0))) (mSlT (mVar 3) mNoP (mP (mCall cLen (mCons (mOp oIx (mVar 9) (mC (.int 0))) mNil))))))) (mRet (mC (.bl false))) mNext)
    (mRet (mAndV (mOp oEqD (mCall r3 (mCons (mVar 6) (mCons (mOp oSub (mVar 5) (mC (.int 1))) mNil))) (mVar 9)) (mOp oEqD (mCall r4 (mCons (mVar 7) (mCons (mOp oSub (mVar 5) (mC (.int 1))) mNil))) (mVar 9)))))))))))))
theorem fx_law {G : Gm} (F : FZ G) {r0 r1 r2 r3 r4 : MF} (h0 : Fo G 64 (He.fAd G.K ("collapse", none)) ["program"] r0) (h1 : Fo G 6 (He.fAd G.K ("compile_plain", none)) ["plain"] r1) (h2 : Fo G 9 (He.fAd G.K ("run", none)) ["program", "fuel"] r2) (h3 : Fo G 8 (He.fAd G.K ("run_plain", none)) ["plain", "fuel"] r3) (h4 : Fo G 7 (He.fAd G.K ("run_code", none)) ["code", "fuel"] r4) : Fo G 65 (He.fAd G.K ("law", none)) ["_law_script"] (mRun 1 10 (b_lawX r0 r1 r2 r3 r4)) := fo_of (dd_law F) sc_law rfl rfl (fun _ _ _ _ _ _ us hl => match us, hl with | [_], _ => rfl) fun cdv A outer s H E C =>
  (z_cons (z_set C (r_call C (fo__law_start F) (F.glo 18 _ rfl) (a_cons (re_var (i := 0)) a_nil)))
    (z_cons (z_if (v_eq (r_call C (fo__law_take F) (F.glo 20 _ rfl) (a_cons (re_var (i := 1)) (a_cons re_int a_nil))) re_int) (z_one (z_unpL C (r_call C (fo__law_doubled F) (F.glo 23 _ rfl) (a_cons (re_var (i := 1)) a_nil)) (gs_cons C (gs_cons C (gs_cons C (gs_cons C gs_nil)))))) (z_one (z_unpL C (r_call C (fo__law_counted F) (F.glo 24 _ rfl) (a_cons (re_var (i := 1)) a_nil)) (gs_cons C (gs_cons C (gs_cons C (gs_cons C gs_nil)))))))
    (z_cons (z_if (v_gt (re_var (i := 5)) re_int) (z_one (z_ret re_bl)) z_nil)
    (z_cons (z_set C (r_call C h0 (F.glo 6 _ rfl) (a_cons (re_var (i := 2)) a_nil)))
    (z_cons (z_set C (r_call C h1 (F.glo 14 _ rfl) (a_cons (re_var (i := 6)) a_nil)))
    (z_cons (z_set C (re_tup (a_cons (re_var (i := 3)) (a_cons (re_tup (a_cons (re_str s_31880592101) (a_cons (re_var (i := 4)) a_nil))) a_nil))))
    (z_cons (z_if (w_or (v_neD C (r_call C h2 (F.glo 17 _ rfl) (a_cons (re_var (i := 2)) (a_cons (re_var (i := 5)) a_nil))) (re_var (i := 8))) (w_or (v_neD C (r_call C h3 (F.glo 12 _ rfl) (a_cons (re_var (i := 6)) (a_cons (re_var (i := 5)) a_nil))) (re_var (i := 8))) (w_or1 (v_neD C (r_call C h4 (F.glo 2 _ rfl) (a_cons (re_var (i := 7)) (a_cons (re_var (i := 5)) a_nil))) (re_var (i := 8)))))).pt (z_one (z_ret re_bl)) z_nil)
    (z_cons (z_set C (r_call C h2 (F.glo 17 _ rfl) (a_cons (re_var (i := 2)) (a_cons (r_sub (re_var (i := 5)) re_int) a_nil))))
    (z_cons (z_if (w_or (v_neD C (r_ix C (re_var (i := 9)) re_int) (re_tup (a_cons (re_str s_230422885) a_nil))) (w_or1 (v_neD C (r_ix C (re_var (i := 9)) re_int) (r_slT C (re_var (i := 3)) o_none (o_some (r_len C (F.free 0 _ rfl) (a_cons (r_ix C (re_var (i := 9)) re_int) a_nil))))))).pt (z_one (z_ret re_bl)) z_nil)
    (z_one (z_ret (r_andV (r_eqD C (r_call C h3 (F.glo 12 _ rfl) (a_cons (re_var (i := 6)) (a_cons (r_sub (re_var (i := 5)) re_int) a_nil))) (re_var (i := 9))) (r_eqD C (r_call C h4 (F.glo 2 _ rfl) (a_cons (re_var (i := 7)) (a_cons (r_sub (re_var (i := 5)) re_int) a_nil))) (re_var (i := 9)))))))))))))))
end Zg
set_option Elab.async false
set_option maxRecDepth 100000
set_option maxHeartbeats 4000000
set_option linter.all false
/-! ZP: a run by its checks. -/
namespace Zg
open PySem L2
def Ipx (G : Gm) (P : Ipr) (j : Nat) (f : Addr) (ps : List Str) : Prop := ∀ (x : Ex) (v : AV) (A0 AF : AH) (mr : MF), (∀ avs A r, mr avs A = some r → avs = [v] ∧ A = A0 ∧ r = (.non, AF)) →
  (∀ (Fin : St → Hp → Prop) ρ σ H, Cf (G.re x) ρ A0 (some v :: List.replicate (P.ns - 1) none) σ H → (∀ ρ' H' σ', Ext (G.re x) ρ A0 H ρ' AF H' → Rel (G.re x) ρ' AF H' → Fin σ' H') → ∃ m, WP G P.L Fin m 0 σ H) →
  Fo (G.re x) j f ps (mRun 2 3 (bR P mr))
theorem ipx_tow {G : Gm} (F : FZ G) : Ipx G iTow 9 (He.fAd G.K ("run", none)) ["program", "fuel"] := fun x v A0 AF mr hm hw => fx_run (F.re x) (lo_Tower_run F hm hw)
theorem ipx_pla {G : Gm} (F : FZ G) : Ipx G iPla 8 (He.fAd G.K ("run_plain", none)) ["plain", "fuel"] := fun x v A0 AF mr hm hw => fx_run_plain (F.re x) (lo_PlainRun_run F hm hw)
theorem ipx_mac {G : Gm} (F : FZ G) : Ipx G iMac 7 (He.fAd G.K ("run_code", none)) ["code", "fuel"] := fun x v A0 AF mr hm hw => fx_run_code (F.re x) (lo_Machine_run F hm hw)
theorem mkI_some {P : Ipr} {e f : AV} {q0 : Sta} (h : mkI P e f = some q0) : mMake P.cls P.ini (mCons (mC e) (mCons (mC f) mNil)) [] emp = some (.ref 0, q0.2.2) ∧ q0.2.1 = some (.ref 0) :: List.replicate (P.ns - 1) none ∧ q0.1 = 0 := by
  unfold mkI at h
  split at h
  · rename_i v A hm
    cases h
    have : v = .ref 0 := by
      obtain ⟨xs, A1, h1, h2⟩ := bnd_some hm
      cases h1
      obtain ⟨u, A2, h3, h4⟩ := bnd_some h2
      split at h4
      · cases h4
        rfl
      · cases h4
    subst this
    exact ⟨hm, rfl, rfl⟩
  · cases h
section
variable {s : SA} {A A2 : AH} {r c i : Nat} {vs : List AV} {o : ME} {ra : MA} {x : AV} {xs : List AV} {m : MF}
theorem meth_at (ho : o s A = some (.ref r, A)) (hg : A.get r = some (.ins c vs)) (hm : m [.ref r] A = some (x, A2)) : mMeth c m o mNil s A = some (x, A2) := by
  unfold mMeth
  rw [ho]
  show (match A.get r with
    | some (.ins d _) => cond (d.beq c) (m [.ref r] A) none
    | _ => none) = _
  rw [hg]
  show cond (c.beq c) (m [.ref r] A) none = _
  rw [Nat.beq_refl]
  exact hm
theorem fld_at {v : AV} (ho : o s A = some (.ref r, A)) (hg : A.get r = some (.ins c vs)) (hv : vs[i]? = some v) : mFld o c i s A = some (v, A) := by
  unfold mFld
  rw [ho]
  show (match A.get r with
    | some (.ins d vs) => cond (d.beq c) (match vs[i]? with
      | some v => some (v, A)
      | none => none) none
    | _ => none) = _
  rw [hg]
  show cond (c.beq c) (match vs[i]? with
      | some v => some (v, A)
      | none => none) none = _
  rw [Nat.beq_refl, hv]
  rfl
theorem cons_at (ha : o s A = some (x, A)) (hr : ra s A = some (xs, A)) : mCons o ra s A = some (x :: xs, A) := by
  unfold mCons
  rw [ha]
  show bnd (ra s A) _ = _
  rw [hr]
  rfl
theorem tuple_at {outs : List AV} (ho : o s A = some (.ref r, A)) (hg : A.get r = some (.lst outs)) : mCall cTuple (mCons o mNil) s A = some (.tup outs, A) := by
  unfold mCall
  rw [cons_at ho (show mNil s A = some ([], A) from rfl)]
  show cTuple [.ref r] A = _
  unfold cTuple
  show (match A.get r with
    | some (.lst ys) => some (AV.tup ys, A)
    | _ => none) = _
  rw [hg]
end
theorem run_any {G : Gm} {P : Ipr} {j : Nat} {f : Addr} {ps : List Str} (I : Ipx G P j f ps) {x : Ex} {e fu endv : AV} {q0 : Sta} (hI : mkI P e fu = some q0) {c0 : List AV} (h0 : q0.2.2.get 0 = some (.ins P.cls c0)) {AF : AH} {io : Nat} {outs : List AV}
    (hw : ∀ (Fin : St → Hp → Prop) ρ σ H, Cf (G.re x) ρ q0.2.2 q0.2.1 σ H → (∀ ρ' H' σ', Ext (G.re x) ρ q0.2.2 H ρ' AF H' → Rel (G.re x) ρ' AF H' → Fin σ' H') → ∃ m, WP G P.L Fin m q0.1 σ H)
    {vs : List AV} (h1 : AF.get 0 = some (.ins P.cls vs)) (h2 : vs[P.ou]? = some (.ref io)) (h3 : vs[P.en]? = some endv) (h4 : AF.get io = some (.lst outs)) {a1 a2 w : AV}
    (ha : ∀ ρ n H us, RVs G ρ n H [a1, a2] us → ∀ ρ', RVs (G.re x) ρ' 0 H [e, fu] us) (hr : ∀ ρ n H u, RV (G.re x) ρ n H (.tup [.tup outs, endv]) u → ∀ ρ' n', RV G ρ' n' H w u) : Fo G j f ps (orc [a1, a2] w) := by
  obtain ⟨m1, m2, m3⟩ := mkI_some hI
  open Classical in
  refine fo_orc (m := mRun 2 3 (bR P fun avs A => if avs = [.ref 0] ∧ A = q0.2.2 then some (.non, AF) else none)) (avsS := [e, fu]) (v := .tup [.tup outs, endv]) (A' := AF) (I x (.ref 0) q0.2.2 AF _ (fun avs A r h => ?_) (fun Fin ρ σ H c k => ?_)) ?_ rfl ha hr
  · have h : (if avs = [.ref 0] ∧ A = q0.2.2 then some (.non, AF) else none) = some r := h
    split at h
    · rename_i h5
      cases h
      exact ⟨h5.1, h5.2, rfl⟩
    · cases h
  · rw [← m2] at c
    have := hw Fin ρ σ H c k
    rw [m3] at this
    exact this
  · show ends (bR P _ [some e, some fu, none] emp) = some (.tup [.tup outs, endv], AF)
    have s1 : mSet 2 (mMake P.cls P.ini (mCons (mVar 0) (mCons (mVar 1) mNil))) [some e, some fu, none] emp = some (.nx, [some e, some fu, some (.ref 0)], q0.2.2) := by
      have : mMake P.cls P.ini (mCons (mVar 0) (mCons (mVar 1) mNil)) [some e, some fu, none] emp = some (.ref 0, q0.2.2) := m1
      unfold mSet
      rw [this]
      rfl
    have s2 : mExpr (mMeth P.cls (fun avs A => if avs = [.ref 0] ∧ A = q0.2.2 then some (.non, AF) else none) (mVar 2) mNil) [some e, some fu, some (.ref 0)] q0.2.2 = some (.nx, [some e, some fu, some (.ref 0)], AF) := by
      unfold mExpr
      rw [meth_at (show mVar 2 [some e, some fu, some (.ref 0)] q0.2.2 = some (.ref 0, q0.2.2) from rfl) h0 (show (if [AV.ref 0] = [.ref 0] ∧ q0.2.2 = q0.2.2 then some (AV.non, AF) else none) = some (.non, AF) from if_pos ⟨rfl, rfl⟩)]
      rfl
    have v2 : mVar 2 [some e, some fu, some (.ref 0)] AF = some (.ref 0, AF) := rfl
    have s4 := cons_at (tuple_at (fld_at v2 h1 h2) h4) (cons_at (fld_at v2 h1 h3) (show mNil [some e, some fu, some (.ref 0)] AF = some ([], AF) from rfl))
    have s5 : mRet (mTup (mCons (mCall cTuple (mCons (mFld (mVar 2) P.cls P.ou) mNil)) (mCons (mFld (mVar 2) P.cls P.en) mNil))) [some e, some fu, some (.ref 0)] AF = some (.rt (.tup [.tup outs, endv]), [some e, some fu, some (.ref 0)], AF) := by
      unfold mRet mTup
      rw [s4]
      rfl
    unfold bR mSeq
    rw [s1]
    show ends (match mExpr _ _ _ with
      | some (.nx, s1, A1) => mRet _ s1 A1
      | r => r) = _
    rw [s2]
    show ends (mRet _ _ _) = _
    rw [s5]
    rfl
end Zg
set_option Elab.async false
set_option maxRecDepth 100000
set_option maxHeartbeats 4000000
set_option linter.all false
/-! ZP2: the promises of the three run defs at the written programs. -/
namespace Zg
open PySem L2
/-- k, the int x -/
def xE (k : Nat) (X : Int) (hX : 0 ≤ X + 4) : Ex := ⟨fun i => match i with
  | 0 => 1
  | 2 => dbl k (X + X)
  | 3 => k
  | 4 => X + 4
  | _ => 0, rfl, fun i hi => match i, hi with
  | 3, _ => Int.natCast_nonneg k
  | 4, _ => hX
  | _ + 5, _ => Int.le_refl 0, fun i => if i = 1 then [.non] else [], fun i => by
  show (if i = 1 then [V.non] else []).length ≤ _
  split
  · decide
  · decide, by decide⟩
theorem xE_st {k : Nat} {X : Int} {hX : 0 ≤ X + 4} (i : Nat) : ((xE k X hX).st i).length ≤ 1 := by
  show (if i = 1 then [V.non] else []).length ≤ 1
  split
  · exact Nat.le_refl 1
  · exact Nat.zero_le 1
theorem xE_6 {k : Nat} {X : Int} {hX : 0 ≤ X + 4} : ∀ i, 6 ≤ i → (xE k X hX).ev i = 0 := fun i hi => match i, hi with
  | _ + 6, _ => rfl
theorem xE_inv {c : Int} {k : Nat} {X : Int} {hX : 0 ≤ X + 4} : Inv k (evS (xE k X hX).ev (thN c)) := by
  refine ⟨?_, ?_, fun i hi => evS_ge hi⟩
  · show 0 * (1 : Int) + (0 * 0 + (0 * dbl k (X + X) + (1 * (k : Int) + 0))) = k
    omega
  · show 0 * (1 : Int) + (0 * 0 + (1 * dbl k (X + X) + 0)) = dbl k (-8 * 1 + (0 * 0 + (0 * dbl k (X + X) + (0 * (k : Int) + (2 * (X + 4) + 0)))))
    have e : -8 * (1 : Int) + (0 * 0 + (0 * dbl k (X + X) + (0 * (k : Int) + (2 * (X + 4) + 0)))) = X + X := by
      rw [Int.zero_mul, Int.zero_mul, Int.zero_mul]
      omega
    rw [e]
    omega
section
variable {G : Gm} {P : Ipr} {j : Nat} {f : Addr} {ps : List Str}
theorem two_back {x : Ex} {e fu a1 a2 : AV} (h1 : gV x.ev e = a1) (h2 : gV x.ev fu = a2) (f1 : flt e = true) (f2 : flt fu = true) : ∀ ρ n H us, RVs G ρ n H [a1, a2] us → ∀ ρ', RVs (G.re x) ρ' 0 H [e, fu] us := fun ρ n H us r ρ' => by
  subst h1 h2
  refine gVs_back (x := x) [e, fu] us ?_ r
  show (flt e && (flt fu && true)) = true
  rw [f1, f2]
  rfl
theorem two_on {x : Ex} {outs w : List AV} {v endv : AV} (hz : ∀ i, 6 ≤ i → x.ev i = 0) (ho : gVs x.ev outs = w) (fo : flts outs = true) (hs : simV [] thI 0 endv v = true) (fe : flt endv = true) : ∀ ρ n H u, RV (G.re x) ρ n H (.tup [.tup outs, v]) u → ∀ ρ' n', RV G ρ' n' H (.tup [.tup w, gV x.ev endv]) u := fun ρ n H u r ρ' n' => by
  subst ho
  cases r with
  | tup h1 h2 =>
    cases h2 with
    | cons r1 r2 =>
      cases r2 with
      | cons r2 r3 =>
        cases r3
        cases r1 with
        | tup g1 g2 =>
          exact .tup h1 (.cons (.tup g1 (gVs_ok _ _ fo g2)) (.one (gV_ok _ _ fe (simV_ok (a := x) (evS_I hz) _ _ _ hs r2))))
theorem cls_of {q : Sta} (h : cls0 P q = true) : ∃ c0, q.2.2.get 0 = some (.ins P.cls c0) := by
  unfold cls0 at h
  split at h
  · rename_i c vs hc
    exact ⟨vs, by rw [hc, Nat.eq_of_beq_eq_true h]⟩
  · cases h
theorem end_of {r : Sta} {io : Nat} {endv : AV} (h : endB P r io endv = true) : ∃ vs v, r.2.2.get 0 = some (.ins P.cls vs) ∧ vs[P.ou]? = some (.ref io) ∧ vs[P.en]? = some v ∧ simV [] thI 0 endv v = true := by
  unfold endB at h
  split at h
  · rename_i c vs hc
    obtain ⟨h1, h2⟩ := and_yes h
    obtain ⟨h3, h4⟩ := and_yes h2
    split at h3
    · rename_i i hi
      split at h4
      · rename_i v hv
        exact ⟨vs, v, by rw [hc, Nat.eq_of_beq_eq_true h1], by rw [hi, Nat.eq_of_beq_eq_true h3], hv, h4⟩
      · cases h4
    · cases h3
  · cases h
theorem top_run (I : Ipx G P j f ps) {e fu endv : AV} {q0 q : Sta} {d : TD} {c0 cf : Nat} {pt : PM} {xs0 : List AV} (hI : mkI P e fu = some q0) (hc : cls0 P q0 = true) (h0 : P.L.itr c0 q0 = some q) (hL : d.L = P.L) {cc : Int} (h : chkD P d q pt (thN cc) cf xs0 endv = true)
    {k : Nat} {X : Int} {hX : 0 ≤ X + 4} (hk : k ≤ 2000) {a1 a2 : AV} (h1 : gV (xE k X hX).ev e = a1) (h2 : gV (xE k X hX).ev fu = a2) (f1 : flt e = true) (f2 : flt fu = true) :
    Fo G j f ps (orc [a1, a2] (.tup [.tup (cVs k xs0 ++ outsF d.os d.ob k), gV (xE k X hX).ev endv])) := by
  obtain ⟨hb, h⟩ := and_yes h
  obtain ⟨hs, h⟩ := and_yes h
  split at h
  · cases h
  · rename_i r hr
    obtain ⟨ht, h⟩ := and_yes h
    obtain ⟨he, fe⟩ := and_yes h
    obtain ⟨c1, hc1⟩ := cls_of hc
    obtain ⟨vs, v, e1, e2, e3, e4⟩ := end_of he
    have ob : okCs d.ob = true := (and_yes (and_yes hb).2).1
    have os : okCs d.os = true := (and_yes (and_yes hs).2).1
    have ox : okCs xs0 = true := (and_yes (and_yes ht).2).1
    have ne : (0 : Nat) ≠ fldR r.2.2 0 P.ou := fun z => by
      have t1 := (and_yes (and_yes (and_yes (and_yes (and_yes (and_yes (and_yes ht).2).2).2).2).2).2).2
      have t2 := (and_yes t1).1
      rw [← z, e1] at t2
      cases t2
    obtain ⟨g1, g2⟩ := gVs_c (xE k X hX).ev k xs0 ox
    obtain ⟨g3, g4⟩ := outsF_c (xE k X hX).ev os ob k
    refine run_any I hI hc1 (AF := r.2.2.set (fldR r.2.2 0 P.ou) (.lst (cVs k xs0 ++ outsF d.os d.ob k))) (io := fldR r.2.2 0 P.ou) (outs := cVs k xs0 ++ outsF d.os d.ob k) (fun Fin ρ σ H c kk => ?_) (by rw [get_set_ne ne]; exact e1) e2 e3 get_set (two_back h1 h2 f1 f2) (two_on xE_6 (by rw [gVs_app, g1, g3]) (by rw [flts_app, g2, g4]; rfl) e4 fe)
    have := top_ok (turn_all hb hs) (by rw [hL]; exact h0) hr ht xE_inv rfl xE_6 xE_st hk c (Fin := Fin) fun ρ' H' σ' e' c' => kk ρ' H' σ' e' c'.rel
    rw [hL] at this
    exact this
  
theorem two_on2 {x : Ex} {outs ys : List AV} {v endv : AV} (hz : ∀ i, 6 ≤ i → x.ev i = 0) (ho : simVs [] thI 0 outs ys = true) (fo : flts outs = true) (hs : simV [] thI 0 endv v = true) (fe : flt endv = true) : ∀ ρ n H u, RV (G.re x) ρ n H (.tup [.tup ys, v]) u → ∀ ρ' n', RV G ρ' n' H (.tup [.tup (gVs x.ev outs), gV x.ev endv]) u := fun ρ n H u r ρ' n' => by
  cases r with
  | tup h1 h2 =>
    cases h2 with
    | cons r1 r2 =>
      cases r2 with
      | cons r2 r3 =>
        cases r3
        cases r1 with
        | tup g1 g2 =>
          exact .tup h1 (.cons (.tup g1 (gVs_ok _ _ fo (simVs_ok (a := x) (evS_I hz) _ _ _ ho g2))) (.one (gV_ok _ _ fe (simV_ok (a := x) (evS_I hz) _ _ _ hs r2))))
theorem fin2_ok {L : Lp} : ∀ {n : Nat} {q r : Sta}, fin2 L n q = some r → ∃ c, L.itr c q = some r
  | 0, q, r, h => by cases h
  | n + 1, q, r, h => by
    have h : cond (q.1.beq 2) (some q) (match L.stp q with
      | some q' => fin2 L n q'
      | none => none) = some r := h
    rcases cond_some h with ⟨_, h⟩ | ⟨_, h⟩
    · exact ⟨0, h⟩
    · split at h
      · rename_i q' hq
        obtain ⟨c, hc⟩ := fin2_ok h
        refine ⟨c + 1, ?_⟩
        show (match L.stp q with
          | some q' => L.itr c q'
          | none => none) = some r
        rw [hq]
        exact hc
      · cases h
theorem zero_run (I : Ipx G P j f ps) {e fu endv : AV} {q0 r : Sta} {c0 : Nat} {xs0 : List AV} (hI : mkI P e fu = some q0) (hc : cls0 P q0 = true) (h0 : P.L.itr c0 q0 = some r) (h : chkZ P q0 r xs0 endv = true)
    {k : Nat} {X : Int} {hX : 0 ≤ X + 4} {a1 a2 : AV} (h1 : gV (xE k X hX).ev e = a1) (h2 : gV (xE k X hX).ev fu = a2) (f1 : flt e = true) (f2 : flt fu = true) :
    Fo G j f ps (orc [a1, a2] (.tup [.tup (gVs (xE k X hX).ev xs0), gV (xE k X hX).ev endv])) := by
  obtain ⟨hr, h⟩ := and_yes h
  obtain ⟨he, h⟩ := and_yes h
  obtain ⟨fe, h⟩ := and_yes h
  obtain ⟨c1, hc1⟩ := cls_of hc
  obtain ⟨vs, v, e1, e2, e3, e4⟩ := end_of he
  have hr := Nat.eq_of_beq_eq_true hr
  split at h
  · rename_i xs hx
    obtain ⟨o1, o2⟩ := and_yes h
    exact run_any I hI hc1 (AF := r.2.2) (io := fldR r.2.2 0 P.ou) (outs := xs) (fun Fin ρ σ H c kk => dir_ok h0 hr c fun ρ' H' σ' e' c' => kk ρ' H' σ' e' c'.rel) e1 e2 e3 hx (two_back h1 h2 f1 f2) (two_on2 xE_6 o1 o2 e4 fe)
  · cases h
end
end Zg
set_option Elab.async false
set_option maxRecDepth 100000
set_option maxHeartbeats 4000000
set_option linter.all false
/-! ZP3: the three run defs at a written program. -/
namespace Zg
open PySem L2
def outN (sh : Shp) (N : Nat) : List AV := outsF (osF kp1 sh) (osF (.int 0) sh) N
def outM (sh : Shp) : Nat → List AV
  | 0 => ob0 sh
  | m + 1 => outsF (osF kp2 sh) (ob1 sh) m
def valN (N : Nat) (X : Int) : Shp → Int
  | .d => dbl N X
  | .c a _ _ => cond a (7 + 2 * (N : Int)) 7
/-- a template -/
structure Tpl (e : Prg) : Prop where
  g : ∀ ev a b, gV ev (e a b) = e (gV ev a) (gV ev b)
  f1 : flt (e kp1 x4) = true
  f2 : flt (e kp2 x4) = true
  f0 : ∀ n, flt (e (.int n) x4) = true
  f3 : flt (e (.sym [0, 0, 0, 1]) x4) = true
/-- a shape that is met -/
def okSh : Shp → Bool
  | .d => true
  | .c _ _ k => k.blt 4
theorem tpl_progF : ∀ {sh : Shp}, okSh sh = true → Tpl (progF sh)
  | .d, _ => ⟨fun _ _ _ => rfl, rfl, rfl, fun _ => rfl, rfl⟩
  | .c false false 0, _ => ⟨fun _ _ _ => rfl, rfl, rfl, fun _ => rfl, rfl⟩
  | .c false false 1, _ => ⟨fun _ _ _ => rfl, rfl, rfl, fun _ => rfl, rfl⟩
  | .c false false 2, _ => ⟨fun _ _ _ => rfl, rfl, rfl, fun _ => rfl, rfl⟩
  | .c false false 3, _ => ⟨fun _ _ _ => rfl, rfl, rfl, fun _ => rfl, rfl⟩
  | .c false true 0, _ => ⟨fun _ _ _ => rfl, rfl, rfl, fun _ => rfl, rfl⟩
  | .c false true 1, _ => ⟨fun _ _ _ => rfl, rfl, rfl, fun _ => rfl, rfl⟩
  | .c false true 2, _ => ⟨fun _ _ _ => rfl, rfl, rfl, fun _ => rfl, rfl⟩
  | .c false true 3, _ => ⟨fun _ _ _ => rfl, rfl, rfl, fun _ => rfl, rfl⟩
  | .c true false 0, _ => ⟨fun _ _ _ => rfl, rfl, rfl, fun _ => rfl, rfl⟩
  | .c true false 1, _ => ⟨fun _ _ _ => rfl, rfl, rfl, fun _ => rfl, rfl⟩
  | .c true false 2, _ => ⟨fun _ _ _ => rfl, rfl, rfl, fun _ => rfl, rfl⟩
  | .c true false 3, _ => ⟨fun _ _ _ => rfl, rfl, rfl, fun _ => rfl, rfl⟩
  | .c true true 0, _ => ⟨fun _ _ _ => rfl, rfl, rfl, fun _ => rfl, rfl⟩
  | .c true true 1, _ => ⟨fun _ _ _ => rfl, rfl, rfl, fun _ => rfl, rfl⟩
  | .c true true 2, _ => ⟨fun _ _ _ => rfl, rfl, rfl, fun _ => rfl, rfl⟩
  | .c true true 3, _ => ⟨fun _ _ _ => rfl, rfl, rfl, fun _ => rfl, rfl⟩
  | .c _ _ (_ + 4), h => by cases h
theorem tpl_plainF : ∀ {sh : Shp}, okSh sh = true → Tpl (plainF sh)
  | .d, _ => ⟨fun _ _ _ => rfl, rfl, rfl, fun _ => rfl, rfl⟩
  | .c false false 0, _ => ⟨fun _ _ _ => rfl, rfl, rfl, fun _ => rfl, rfl⟩
  | .c false false 1, _ => ⟨fun _ _ _ => rfl, rfl, rfl, fun _ => rfl, rfl⟩
  | .c false false 2, _ => ⟨fun _ _ _ => rfl, rfl, rfl, fun _ => rfl, rfl⟩
  | .c false false 3, _ => ⟨fun _ _ _ => rfl, rfl, rfl, fun _ => rfl, rfl⟩
  | .c false true 0, _ => ⟨fun _ _ _ => rfl, rfl, rfl, fun _ => rfl, rfl⟩
  | .c false true 1, _ => ⟨fun _ _ _ => rfl, rfl, rfl, fun _ => rfl, rfl⟩
  | .c false true 2, _ => ⟨fun _ _ _ => rfl, rfl, rfl, fun _ => rfl, rfl⟩
  | .c false true 3, _ => ⟨fun _ _ _ => rfl, rfl, rfl, fun _ => rfl, rfl⟩
  | .c true false 0, _ => ⟨fun _ _ _ => rfl, rfl, rfl, fun _ => rfl, rfl⟩
  | .c true false 1, _ => ⟨fun _ _ _ => rfl, rfl, rfl, fun _ => rfl, rfl⟩
  | .c true false 2, _ => ⟨fun _ _ _ => rfl, rfl, rfl, fun _ => rfl, rfl⟩
  | .c true false 3, _ => ⟨fun _ _ _ => rfl, rfl, rfl, fun _ => rfl, rfl⟩
  | .c true true 0, _ => ⟨fun _ _ _ => rfl, rfl, rfl, fun _ => rfl, rfl⟩
  | .c true true 1, _ => ⟨fun _ _ _ => rfl, rfl, rfl, fun _ => rfl, rfl⟩
  | .c true true 2, _ => ⟨fun _ _ _ => rfl, rfl, rfl, fun _ => rfl, rfl⟩
  | .c true true 3, _ => ⟨fun _ _ _ => rfl, rfl, rfl, fun _ => rfl, rfl⟩
  | .c _ _ (_ + 4), h => by cases h
theorem tpl_codeF : ∀ {sh : Shp}, okSh sh = true → Tpl (codeF sh)
  | .d, _ => ⟨fun _ _ _ => rfl, rfl, rfl, fun _ => rfl, rfl⟩
  | .c false false 0, _ => ⟨fun _ _ _ => rfl, rfl, rfl, fun _ => rfl, rfl⟩
  | .c false false 1, _ => ⟨fun _ _ _ => rfl, rfl, rfl, fun _ => rfl, rfl⟩
  | .c false false 2, _ => ⟨fun _ _ _ => rfl, rfl, rfl, fun _ => rfl, rfl⟩
  | .c false false 3, _ => ⟨fun _ _ _ => rfl, rfl, rfl, fun _ => rfl, rfl⟩
  | .c false true 0, _ => ⟨fun _ _ _ => rfl, rfl, rfl, fun _ => rfl, rfl⟩
  | .c false true 1, _ => ⟨fun _ _ _ => rfl, rfl, rfl, fun _ => rfl, rfl⟩
  | .c false true 2, _ => ⟨fun _ _ _ => rfl, rfl, rfl, fun _ => rfl, rfl⟩
  | .c false true 3, _ => ⟨fun _ _ _ => rfl, rfl, rfl, fun _ => rfl, rfl⟩
  | .c true false 0, _ => ⟨fun _ _ _ => rfl, rfl, rfl, fun _ => rfl, rfl⟩
  | .c true false 1, _ => ⟨fun _ _ _ => rfl, rfl, rfl, fun _ => rfl, rfl⟩
  | .c true false 2, _ => ⟨fun _ _ _ => rfl, rfl, rfl, fun _ => rfl, rfl⟩
  | .c true false 3, _ => ⟨fun _ _ _ => rfl, rfl, rfl, fun _ => rfl, rfl⟩
  | .c true true 0, _ => ⟨fun _ _ _ => rfl, rfl, rfl, fun _ => rfl, rfl⟩
  | .c true true 1, _ => ⟨fun _ _ _ => rfl, rfl, rfl, fun _ => rfl, rfl⟩
  | .c true true 2, _ => ⟨fun _ _ _ => rfl, rfl, rfl, fun _ => rfl, rfl⟩
  | .c true true 3, _ => ⟨fun _ _ _ => rfl, rfl, rfl, fun _ => rfl, rfl⟩
  | .c _ _ (_ + 4), h => by cases h
section
variable {k : Nat} {X : Int} {hX : 0 ≤ X + 4}
theorem gv_x4 : gV (xE k X hX).ev x4 = .int X := by
  show AV.int (-4 * 1 + (0 * 0 + (0 * dbl k (X + X) + (0 * (k : Int) + (1 * (X + 4) + 0))))) = .int X
  congr 1
  rw [Int.zero_mul, Int.zero_mul, Int.zero_mul]
  omega
theorem gv_lin (a b c d : Int) (h : c = 0) (h2 : b = 0) : gV (xE k X hX).ev (.sym [a, b, c, d]) = .int (a + d * (k : Int)) := by
  show AV.int (a * 1 + (b * 0 + (c * dbl k (X + X) + (d * (k : Int) + 0)))) = _
  congr 1
  rw [h, h2, Int.zero_mul, Int.zero_mul]
  omega
theorem gv_kp1 : gV (xE k X hX).ev kp1 = .int ((k + 1 : Nat) : Int) := by
  unfold kp1
  rw [gv_lin _ _ _ _ rfl rfl]
  congr 1
  omega
theorem gv_kp2 : gV (xE k X hX).ev kp2 = .int ((k + 2 : Nat) : Int) := by
  unfold kp2
  rw [gv_lin _ _ _ _ rfl rfl]
  congr 1
  omega
theorem chkE_ok {P : Ipr} {e f : AV} {c0 : Nat} {kk : Sta → Sta → Bool} (h : chkE P e f c0 kk = true) : ∃ q0 q, mkI P e f = some q0 ∧ cls0 P q0 = true ∧ P.L.itr c0 q0 = some q ∧ kk q0 q = true := by
  unfold chkE at h
  split at h
  · cases h
  · rename_i q0 hq
    obtain ⟨h1, h2⟩ := and_yes h
    split at h2
    · cases h2
    · rename_i q hq2
      exact ⟨q0, q, hq, h1, hq2, h2⟩
variable {G : Gm} {P : Ipr} {j : Nat} {f : Addr} {ps : List Str} {e : Prg} {sh : Shp} {n : Row} {N : Nat}
theorem ex_run (I : Ipx G P j f ps) (t : Tpl e) (h : exB P e sh n = true) (hX : 0 ≤ X + 4) (hk : k ≤ 2000) : Fo G j f ps (orc [e (.int ((k + 1 : Nat) : Int)) (.int X), .int ((stepsC sh).1 * ((k + 1 : Nat) : Int) + (stepsC sh).2)] (.tup [.tup (outN sh (k + 1)), gV (xE k X hX).ev (vEnd (evF sh))])) := by
  obtain ⟨q0, q, a1, a2, a3, a4⟩ := chkE_ok h
  have := top_run (hX := hX) I a1 a2 a3 rfl a4 hk (a1 := e (.int ((k + 1 : Nat) : Int)) (.int X)) (a2 := .int ((stepsC sh).1 * ((k + 1 : Nat) : Int) + (stepsC sh).2)) (by rw [t.g, gv_kp1, gv_x4]) (by
    rw [gv_lin _ _ _ _ rfl rfl]
    congr 1
    rw [Int.natCast_add, Int.mul_add]
    omega) t.f1 rfl
  exact this
theorem mo_run (I : Ipx G P j f ps) (t : Tpl e) (h : moB P e sh n = true) (hX : 0 ≤ X + 4) (hk : k ≤ 2000) : Fo G j f ps (orc [e (.int ((k + 2 : Nat) : Int)) (.int X), .int ((stepsC sh).1 * ((k + 2 : Nat) : Int) + (stepsC sh).2 - 1)] (.tup [.tup (outM sh (k + 2)), mEnd])) := by
  obtain ⟨q0, q, a1, a2, a3, a4⟩ := chkE_ok h
  have := top_run (hX := hX) I a1 a2 a3 rfl a4 hk (a1 := e (.int ((k + 2 : Nat) : Int)) (.int X)) (a2 := .int ((stepsC sh).1 * ((k + 2 : Nat) : Int) + (stepsC sh).2 - 1)) (by rw [t.g, gv_kp2, gv_x4]) (by
    rw [gv_lin _ _ _ _ rfl rfl]
    congr 1
    rw [Int.natCast_add, Int.mul_add]
    omega) t.f2 rfl
  exact this
theorem zi_run (I : Ipx G P j f ps) (t : Tpl e) {m fu : Int} {os : List AV} {endv : AV} (h : ziB P e m fu os endv = true) (hX : 0 ≤ X + 4) : Fo G j f ps (orc [e (.int m) (.int X), .int fu] (.tup [.tup (gVs (xE 0 X hX).ev os), gV (xE 0 X hX).ev endv])) := by
  obtain ⟨q0, q, a1, a2, a3, a4⟩ := chkE_ok h
  split at a4
  · cases a4
  · rename_i r hr
    obtain ⟨c, hc⟩ := fin2_ok hr
    exact zero_run (hX := hX) I a1 a2 hc a4 (by rw [t.g, gv_x4]; rfl) rfl (t.f0 m) rfl
theorem sh_run (I : Ipx G P j f ps) (t : Tpl e) (hs : okSh sh = true) (h : shB P e sh n = true) (hX : 0 ≤ X + 4) (hN : N ≤ 2000) :
    Fo G j f ps (orM (orc [e (.int (N : Int)) (.int X), .int ((stepsC sh).1 * (N : Int) + (stepsC sh).2)] (.tup [.tup (outN sh N), vEnd (.int (valN N X sh))])) (orc [e (.int (N : Int)) (.int X), .int ((stepsC sh).1 * (N : Int) + (stepsC sh).2 - 1)] (.tup [.tup (outM sh N), mEnd]))) := by
  obtain ⟨h1, h⟩ := and_yes h
  obtain ⟨h2, h⟩ := and_yes h
  obtain ⟨h3, h⟩ := and_yes h
  obtain ⟨h4, h5⟩ := and_yes h
  refine fo_orM ?_ ?_
  · cases N with
    | zero =>
      have := zi_run I t h3 hX
      have e1 : (stepsC sh).1 * ((0 : Nat) : Int) + (stepsC sh).2 = (stepsC sh).2 := by
        show (stepsC sh).1 * 0 + _ = _
        omega
      rw [e1]
      have e2 : gVs (xE 0 X hX).ev (osF (.int 0) sh) = outN sh 0 := by
        match sh, hs with
        | .d, _ => rfl
        | .c _ false _, _ => rfl
        | .c _ true 0, _ => rfl
        | .c _ true 1, _ => rfl
        | .c _ true 2, _ => rfl
        | .c _ true 3, _ => rfl
        | .c _ true (_ + 4), h => cases h
      have e3 : gV (xE 0 X hX).ev (vEnd (ezF sh)) = vEnd (.int (valN 0 X sh)) := by
        cases sh with
        | d =>
          show AV.tup [.str 31880592101, gV (xE 0 X hX).ev x4] = _
          rw [gv_x4]
          rfl
        | c a b c => cases a <;> rfl
      rw [e2, e3] at this
      exact this
    | succ k =>
      have := ex_run I t h1 hX (k := k) (by omega)
      have e3 : gV (xE k X hX).ev (vEnd (evF sh)) = vEnd (.int (valN (k + 1) X sh)) := by
        cases sh with
        | d =>
          show AV.tup [.str 31880592101, .int (0 * 1 + (0 * 0 + (1 * dbl k (X + X) + 0)))] = vEnd (.int (dbl k (X + X)))
          have : (0 : Int) * 1 + (0 * 0 + (1 * dbl k (X + X) + 0)) = dbl k (X + X) := by omega
          rw [this]
          rfl
        | c a b c =>
          cases a with
          | false => rfl
          | true =>
            show AV.tup [.str 31880592101, gV (xE k X hX).ev (.sym [9, 0, 0, 2])] = vEnd (.int (7 + 2 * ((k + 1 : Nat) : Int)))
            rw [gv_lin _ _ _ _ rfl rfl]
            have : (9 : Int) + 2 * (k : Int) = 7 + 2 * ((k + 1 : Nat) : Int) := by omega
            rw [this]
            rfl
      rw [e3] at this
      exact this
  · match N, hN with
    | 0, _ =>
      have := zi_run I t h4 hX
      have e1 : (stepsC sh).1 * ((0 : Nat) : Int) + (stepsC sh).2 - 1 = (stepsC sh).2 - 1 := by
        show (stepsC sh).1 * 0 + _ - 1 = _
        omega
      rw [e1]
      have e2 : gVs (xE 0 X hX).ev (ob0 sh) = outM sh 0 := by
        match sh, hs with
        | .d, _ => rfl
        | .c _ false _, _ => rfl
        | .c _ true 0, _ => rfl
        | .c _ true 1, _ => rfl
        | .c _ true 2, _ => rfl
        | .c _ true 3, _ => rfl
        | .c _ true (_ + 4), h => cases h
      rw [e2] at this
      exact this
    | 1, _ =>
      have := zi_run I t h5 hX
      have e1 : (stepsC sh).1 * ((1 : Nat) : Int) + (stepsC sh).2 - 1 = (stepsC sh).1 + (stepsC sh).2 - 1 := by
        show (stepsC sh).1 * 1 + _ - 1 = _
        omega
      rw [e1]
      have e2 : gVs (xE 0 X hX).ev (ob1 sh) = outM sh 1 := by
        match sh, hs with
        | .d, _ => rfl
        | .c _ false _, _ => rfl
        | .c _ true 0, _ => rfl
        | .c _ true 1, _ => rfl
        | .c _ true 2, _ => rfl
        | .c _ true 3, _ => rfl
        | .c _ true (_ + 4), h => cases h
      rw [e2] at this
      exact this
    | k + 2, hN => exact mo_run I t h2 hX (by omega)
end
/-! ### pure defs -/
def n3 : AV := .sym [0, 0, 0, 1]
def puB (m : MF) (e r : Prg) : Bool := match m [e n3 x4] emp with
  | some (v, _) => simV [] thI 0 (r n3 x4) v
  | none => false
theorem pu_run {G : Gm} {j : Nat} {f : Addr} {ps : List Str} {m : MF} {e r : Prg} (h : ∀ x : Ex, Fo (G.re x) j f ps m) (te : Tpl e) (tr : Tpl r) (hb : puB m e r = true) (N : Nat) (X : Int) (hX : 0 ≤ X + 4) : Fo G j f ps (orc [e (.int (N : Int)) (.int X)] (r (.int (N : Int)) (.int X))) := by
  unfold puB at hb
  split at hb
  · rename_i v A' hv
    have gn : gV (xE N X hX).ev n3 = .int (N : Int) := by
      unfold n3
      rw [gv_lin _ _ _ _ rfl rfl]
      congr 1
      omega
    refine fo_orc (h (xE N X hX)) hv rfl (fun ρ n H us q ρ' => ?_) (fun ρ n H u q ρ' n' => ?_)
    · refine gVs_back (x := xE N X hX) [e n3 x4] us (by show (flt (e n3 x4) && true) = true; rw [show flt (e n3 x4) = true from te.f3]; rfl) (ρ := ρ) (n := n) (G := G) ?_
      show RVs G ρ n H [gV (xE N X hX).ev (e n3 x4)] us
      rw [te.g, gn, gv_x4]
      exact q
    · have := gV_ok (G := G) (ρ' := ρ') (n' := n') _ _ tr.f3 (simV_ok (a := xE N X hX) (G := G) (evS_I xE_6) _ _ _ hb q)
      have e2 : gV (xE N X hX).ev (r (.sym [0, 0, 0, 1]) x4) = r (.int (N : Int)) (.int X) := by
        rw [tr.g, gv_x4]
        rw [show gV (xE N X hX).ev (.sym [0, 0, 0, 1]) = .int (N : Int) from gn]
      rw [e2] at this
      exact this
  · cases hb
end Zg
set_option Elab.async false
set_option maxRecDepth 1000000
set_option maxHeartbeats 0
set_option linter.all false
/-! ZK2: collapse and compile_plain at the written programs; printed by genk.py pure. -/
namespace Zg
theorem pc_d : puB m_collapse (progF (.d)) (plainF (.d)) = true := by decide +kernel
theorem pp_d : puB m_compile_plain (plainF (.d)) (codeF (.d)) = true := by decide +kernel
theorem pc_cff0 : puB m_collapse (progF (.c false false 0)) (plainF (.c false false 0)) = true := by decide +kernel
theorem pp_cff0 : puB m_compile_plain (plainF (.c false false 0)) (codeF (.c false false 0)) = true := by decide +kernel
theorem pc_cff1 : puB m_collapse (progF (.c false false 1)) (plainF (.c false false 1)) = true := by decide +kernel
theorem pp_cff1 : puB m_compile_plain (plainF (.c false false 1)) (codeF (.c false false 1)) = true := by decide +kernel
theorem pc_cff2 : puB m_collapse (progF (.c false false 2)) (plainF (.c false false 2)) = true := by decide +kernel
theorem pp_cff2 : puB m_compile_plain (plainF (.c false false 2)) (codeF (.c false false 2)) = true := by decide +kernel
theorem pc_cff3 : puB m_collapse (progF (.c false false 3)) (plainF (.c false false 3)) = true := by decide +kernel
theorem pp_cff3 : puB m_compile_plain (plainF (.c false false 3)) (codeF (.c false false 3)) = true := by decide +kernel
theorem pc_cft0 : puB m_collapse (progF (.c false true 0)) (plainF (.c false true 0)) = true := by decide +kernel
theorem pp_cft0 : puB m_compile_plain (plainF (.c false true 0)) (codeF (.c false true 0)) = true := by decide +kernel
theorem pc_cft1 : puB m_collapse (progF (.c false true 1)) (plainF (.c false true 1)) = true := by decide +kernel
theorem pp_cft1 : puB m_compile_plain (plainF (.c false true 1)) (codeF (.c false true 1)) = true := by decide +kernel
theorem pc_cft2 : puB m_collapse (progF (.c false true 2)) (plainF (.c false true 2)) = true := by decide +kernel
theorem pp_cft2 : puB m_compile_plain (plainF (.c false true 2)) (codeF (.c false true 2)) = true := by decide +kernel
theorem pc_cft3 : puB m_collapse (progF (.c false true 3)) (plainF (.c false true 3)) = true := by decide +kernel
theorem pp_cft3 : puB m_compile_plain (plainF (.c false true 3)) (codeF (.c false true 3)) = true := by decide +kernel
theorem pc_ctf0 : puB m_collapse (progF (.c true false 0)) (plainF (.c true false 0)) = true := by decide +kernel
theorem pp_ctf0 : puB m_compile_plain (plainF (.c true false 0)) (codeF (.c true false 0)) = true := by decide +kernel
theorem pc_ctf1 : puB m_collapse (progF (.c true false 1)) (plainF (.c true false 1)) = true := by decide +kernel
theorem pp_ctf1 : puB m_compile_plain (plainF (.c true false 1)) (codeF (.c true false 1)) = true := by decide +kernel
theorem pc_ctf2 : puB m_collapse (progF (.c true false 2)) (plainF (.c true false 2)) = true := by decide +kernel
theorem pp_ctf2 : puB m_compile_plain (plainF (.c true false 2)) (codeF (.c true false 2)) = true := by decide +kernel
theorem pc_ctf3 : puB m_collapse (progF (.c true false 3)) (plainF (.c true false 3)) = true := by decide +kernel
theorem pp_ctf3 : puB m_compile_plain (plainF (.c true false 3)) (codeF (.c true false 3)) = true := by decide +kernel
theorem pc_ctt0 : puB m_collapse (progF (.c true true 0)) (plainF (.c true true 0)) = true := by decide +kernel
theorem pp_ctt0 : puB m_compile_plain (plainF (.c true true 0)) (codeF (.c true true 0)) = true := by decide +kernel
theorem pc_ctt1 : puB m_collapse (progF (.c true true 1)) (plainF (.c true true 1)) = true := by decide +kernel
theorem pp_ctt1 : puB m_compile_plain (plainF (.c true true 1)) (codeF (.c true true 1)) = true := by decide +kernel
theorem pc_ctt2 : puB m_collapse (progF (.c true true 2)) (plainF (.c true true 2)) = true := by decide +kernel
theorem pp_ctt2 : puB m_compile_plain (plainF (.c true true 2)) (codeF (.c true true 2)) = true := by decide +kernel
theorem pc_ctt3 : puB m_collapse (progF (.c true true 3)) (plainF (.c true true 3)) = true := by decide +kernel
theorem pp_ctt3 : puB m_compile_plain (plainF (.c true true 3)) (codeF (.c true true 3)) = true := by decide +kernel
end Zg
set_option Elab.async false
set_option maxRecDepth 100000
set_option maxHeartbeats 4000000
set_option linter.all false
/-! ZL1: the law's own arithmetic over the abstract machine. -/
namespace Zg
section
variable {s s1 : SA} {A A1 A2 : AH} {x y z v w : AV} {xs : List AV} {c L e i k : Nat} {ma mb mo : ME} {ra : MA} {ta tb : MT} {sa sb : MS} {m : MF} {f : AV → AV → AH → Option (AV × AH)} {b : Bool}
theorem e_var (h : s[i]? = some (some v)) : mVar i s A = some (v, A) := by
  unfold mVar
  rw [h]
theorem e_op (ha : ma s A = some (x, A1)) (hb : mb s A1 = some (y, A2)) {r : AV × AH} (hf : f x y A2 = some r) : mOp f ma mb s A = some r := by
  unfold mOp
  rw [ha]
  show bnd (mb s A1) _ = _
  rw [hb]
  exact hf
theorem e_cons (ha : ma s A = some (x, A1)) (hr : ra s A1 = some (xs, A2)) : mCons ma ra s A = some (x :: xs, A2) := by
  unfold mCons
  rw [ha]
  show bnd (ra s A1) _ = _
  rw [hr]
  rfl
theorem e_call (hr : ra s A = some (xs, A1)) {r : AV × AH} (hm : m xs A1 = some r) : mCall m ra s A = some r := by
  unfold mCall
  rw [hr]
  exact hm
theorem e_B (ha : ma s A = some (.bl b, A1)) : mB ma s A = some (b, A1) := by
  unfold mB
  rw [ha]
  rfl
theorem e_and (ha : ta s A = some (b, A1)) {r : Bool × AH} (hr : cond b (tb s A1) (some (false, A1)) = some r) : mAnd ta tb s A = some r := by
  unfold mAnd
  rw [ha]
  exact hr
theorem t_set (ha : ma s A = some (v, A1)) : mSet i ma s A = some (.nx, s.set i (some v), A1) := by
  unfold mSet
  rw [ha]
  rfl
theorem t_seq {r : Option (Fl × SA × AH)} (ha : sa s A = some (.nx, s1, A1)) (hb : sb s1 A1 = r) : mSeq sa sb s A = r := by
  unfold mSeq
  rw [ha]
  exact hb
theorem t_seqR {q : SA × AH} (ha : sa s A = some (.rt v, q)) : mSeq sa sb s A = some (.rt v, q) := by
  unfold mSeq
  rw [ha]
theorem t_if {r : Option (Fl × SA × AH)} (ht : ta s A = some (b, A1)) (hr : cond b (sa s A1) (sb s A1) = r) : mIfS ta sa sb s A = r := by
  unfold mIfS
  rw [ht]
  exact hr
theorem t_ret (ha : ma s A = some (v, A1)) : mRet ma s A = some (.rt v, s, A1) := by
  unfold mRet
  rw [ha]
  rfl
/-- an item of the list c -/
theorem e_ix {j : Nat} (ha : ma s A = some (.ref c, A)) (hg : A.get c = some (.lst xs)) (hx : xs[j]? = some v) : mOp oIx ma (mC (.int (Int.ofNat j))) s A = some (v, A) := by
  refine e_op ha (show mC (.int (Int.ofNat j)) s A = some (.int (Int.ofNat j), A) from rfl) ?_
  unfold oIx
  show (match A.get c with
    | some (.lst xs) => pur (atA xs (Int.ofNat j)) A
    | some (.stk _ xs) => _
    | _ => none) = _
  rw [hg]
  show pur xs[j]? A = _
  rw [hx]
  rfl
/-- xs[j] = e -/
theorem t_lput {j : Nat} (hv : mb s A = some (w, A1)) (ho : ma s A1 = some (.ref c, A1)) (hg : A1.get c = some (.lst xs)) (hj : j < xs.length) : mLPut ma (mC (.int (Int.ofNat j))) mb s A = some (.nx, s, A1.set c (.lst (xs.set j w))) := by
  unfold mLPut
  rw [hv]
  show bnd (ma s A1) _ = _
  rw [ho]
  show (match lstOf A1 (.ref c), AV.int (Int.ofNat j) with
    | some (a, xs), .int (.ofNat k) => cond (k.blt xs.length) (some (Fl.nx, s, A1.set a (.lst (xs.set k w)))) none
    | _, _ => none) = _
  have : lstOf A1 (.ref c) = some (c, xs) := by
    show (match A1.get c with
      | some (.lst xs) => some (c, xs)
      | _ => none) = _
    rw [hg]
  rw [this]
  show cond (j.blt xs.length) _ none = _
  rw [Nat.blt_eq.mpr hj]
  rfl
end
/-! ### the law's list -/
def cst (L : Nat) (i p t : Int) (e : Nat) : AO := .lst [.ref L, .int i, .int p, .int t, .int 20, .ref e]
structure CS0 (A : AH) (c L e : Nat) (is : List Int) (i p t : Int) : Prop where
  gc : A.get c = some (cst L i p t e)
  gl : A.get L = some (.lst (is.map .int))
  ne : L ≠ c
  i0 : 0 ≤ i
  i1 : i ≤ is.length
  p0 : 0 ≤ p
  t0 : 0 ≤ t
  t1 : t ≤ 1000
structure Same (A A' : AH) (c : Nat) : Prop where
  n : A'.n = A.n
  g : ∀ j, j ≠ c → A'.get j = A.get j
theorem Same.trans {A A1 A2 : AH} {c : Nat} (h : Same A A1 c) (k : Same A1 A2 c) : Same A A2 c := ⟨k.n.trans h.n, fun j hj => (k.g j hj).trans (h.g j hj)⟩
theorem Same.set {A : AH} {c : Nat} {o : AO} : Same A (A.set c o) c := ⟨rfl, fun j hj => get_set_ne hj⟩
theorem Same.refl {A : AH} {c : Nat} : Same A A c := ⟨rfl, fun _ _ => rfl⟩
end Zg
set_option Elab.async false
set_option maxRecDepth 100000
set_option maxHeartbeats 4000000
set_option linter.all false
/-! ZL2: _law_fill, _law_take. -/
namespace Zg
def fT : MS := (mSeq (mIfS (mAnd (mTru (mOp oIx (mVar 0) (mC (.int 0)))) (mB (mOp oGe (mOp oIx (mVar 0) (mC (.int 1))) (mCall cLen (mCons (mOp oIx (mVar 0) (mC (.int 0))) mNil))))) (mSet 1 (mOp oAdd (mVar 1) (mOp oMod (mCall cInt (mCons (mOp oIx (mOp oIx (mVar 0) (mC (.int 0))) (mC (.int (-1)))) mNil)) (mC (.int 1000003))))) mNext)
    (mSeq (mSet 1 (mOp oMod (mCall cInt (mCons (mOp oAdd (mOp oMul (mVar 1) (mC (.int 48271))) (mOp oMul (mOp oIx (mVar 0) (mC (.int 3))) (mC (.int 69621)))) mNil)) (mC (.int 2147483647))))
    (mRet (mOp oAdd (mOp oMod (mCall cInt (mCons (mOp oAdd (mOp oAdd (mOp oMul (mVar 1) (mVar 1)) (mOp oMul (mOp oIx (mVar 0) (mC (.int 3))) (mC (.int 7919)))) (mC (.int 11))) mNil)) (mC (.int 2305843009213693951))) (mC (.int 2305843009213693951))))))
section
variable {s : SA} {A A' : AH} {c L e : Nat} {is : List Int} {i p t : Int} {num : Int} {ma mb : ME}
theorem o_add {a b : Int} : oAdd (.int a) (.int b) A = some (.int (a + b), A) := rfl
theorem o_sub {a b : Int} : oSub (.int a) (.int b) A = some (.int (a - b), A) := rfl
theorem o_mul {a b : Int} (h : a.natAbs < 2 ^ 64) : oMul (.int a) (.int b) A = some (.int (a * b), A) := by
  unfold oMul
  show cond (a.natAbs.blt (2 ^ 64)) _ none = _
  rw [Nat.blt_eq.mpr h]
  rfl
theorem o_mod {a b : Int} (h : 1 ≤ b) : oMod (.int a) (.int b) A = some (.int (a.fmod b), A) := by
  unfold oMod
  show cond ((1 : Nat).ble b.toNat) _ none = _
  rw [Nat.ble_eq_true_of_le (by omega)]
  rfl
theorem o_fdiv {a b : Int} (h : 1 ≤ b) (h2 : b < 1000000000) : oFdiv (.int a) (.int b) A = some (.int (a.fdiv b), A) := by
  unfold oFdiv
  show cond ((1 : Nat).ble b.toNat && b.toNat.blt 1000000000) _ none = _
  rw [Nat.ble_eq_true_of_le (by omega), Nat.blt_eq.mpr (by omega)]
  rfl
theorem e_c {v : AV} : mC v s A = some (v, A) := rfl
theorem e_nil : mNil s A = some ([], A) := rfl
theorem e_int {n : Int} (h : ma s A = some (.int n, A')) : mCall cInt (mCons ma mNil) s A = some (.int n, A') := e_call (e_cons h e_nil) rfl
theorem e_intB {b : Bool} (h : ma s A = some (.bl b, A')) : mCall cInt (mCons ma mNil) s A = some (.int (cond b 1 0), A') := e_call (e_cons h e_nil) rfl
theorem CS0.ix0 (C : CS0 A c L e is i p t) (h : s[0]? = some (some (.ref c))) : mOp oIx (mVar 0) (mC (.int 0)) s A = some (.ref L, A) := e_ix (j := 0) (e_var h) C.gc rfl
theorem CS0.ix1 (C : CS0 A c L e is i p t) (h : s[0]? = some (some (.ref c))) : mOp oIx (mVar 0) (mC (.int 1)) s A = some (.int i, A) := e_ix (j := 1) (e_var h) C.gc rfl
theorem CS0.ix2 (C : CS0 A c L e is i p t) (h : s[0]? = some (some (.ref c))) : mOp oIx (mVar 0) (mC (.int 2)) s A = some (.int p, A) := e_ix (j := 2) (e_var h) C.gc rfl
theorem CS0.ix3 (C : CS0 A c L e is i p t) (h : s[0]? = some (some (.ref c))) : mOp oIx (mVar 0) (mC (.int 3)) s A = some (.int t, A) := e_ix (j := 3) (e_var h) C.gc rfl
theorem CS0.len (C : CS0 A c L e is i p t) (h : s[0]? = some (some (.ref c))) : mCall cLen (mCons (mOp oIx (mVar 0) (mC (.int 0))) mNil) s A = some (.int (Int.ofNat is.length), A) := by
  refine e_call (e_cons (C.ix0 h) e_nil) ?_
  unfold cLen
  show (match A.get L with
    | some (.lst ys) => some (AV.int (Int.ofNat ys.length), A)
    | _ => none) = _
  rw [C.gl]
  show some (AV.int (Int.ofNat (is.map AV.int).length), A) = _
  rw [List.length_map]
theorem o_ge {a b : Int} : oGe (.int a) (.int b) A = some (.bl (ile b a), A) := rfl
theorem o_lt {a b : Int} : oLt (.int a) (.int b) A = some (.bl (ilt a b), A) := rfl
theorem fmod_b {a b : Int} (h : 0 < b) : 0 ≤ a.fmod b ∧ a.fmod b < b := ⟨Int.fmod_nonneg_of_pos a h, Int.fmod_lt_of_pos a h⟩
theorem fill_end (C : CS0 A c L e is i p t) {v : Int} (h0 : 0 ≤ v) (h1 : v < 10 ^ 18 + 2000000) : ∃ q s', (mSeq (mSet 1 (mOp oMod (mCall cInt (mCons (mOp oAdd (mOp oMul (mVar 1) (mC (.int 48271))) (mOp oMul (mOp oIx (mVar 0) (mC (.int 3))) (mC (.int 69621)))) mNil)) (mC (.int 2147483647))))
    (mRet (mOp oAdd (mOp oMod (mCall cInt (mCons (mOp oAdd (mOp oAdd (mOp oMul (mVar 1) (mVar 1)) (mOp oMul (mOp oIx (mVar 0) (mC (.int 3))) (mC (.int 7919)))) (mC (.int 11))) mNil)) (mC (.int 2305843009213693951))) (mC (.int 2305843009213693951))))) [some (.ref c), some (.int v)] A = some (.rt (.int q), s', A) ∧ 0 ≤ q := by
  have t0 := C.t0
  have t1 := C.t1
  obtain ⟨m1, m2⟩ := fmod_b (a := v * 48271 + t * 69621) (b := 2147483647) (by decide)
  obtain ⟨n1, n2⟩ := fmod_b (a := (v * 48271 + t * 69621).fmod 2147483647 * (v * 48271 + t * 69621).fmod 2147483647 + t * 7919 + 11) (b := 2305843009213693951) (by decide)
  refine ⟨_, _, t_seq (t_set (e_op (e_int (e_op (e_op (e_var (v := .int v) rfl) e_c (o_mul (by omega))) (e_op (C.ix3 rfl) e_c (o_mul (by omega))) o_add)) e_c (o_mod (by decide)))) (t_ret (e_op (e_op (e_int (e_op (e_op (e_op (e_var rfl) (e_var rfl) (o_mul (by omega))) (e_op (C.ix3 rfl) e_c (o_mul (by omega))) o_add) e_c o_add)) e_c (o_mod (by decide))) e_c o_add)), ?_⟩
  omega
theorem e_ge {a b : Int} (ha : ma s A = some (.int a, A)) (hb : mb s A = some (.int b, A)) : mB (mOp oGe ma mb) s A = some (ile b a, A) := e_B (e_op ha hb o_ge)
theorem e_lt {a b : Int} (ha : ma s A = some (.int a, A)) (hb : mb s A = some (.int b, A)) : mB (mOp oLt ma mb) s A = some (ilt a b, A) := e_B (e_op ha hb o_lt)
theorem CS0.tru (C : CS0 A c L e is i p t) (h : s[0]? = some (some (.ref c))) : mTru (mOp oIx (mVar 0) (mC (.int 0))) s A = some (!is.isEmpty, A) := by
  unfold mTru
  rw [C.ix0 h]
  show (match A.get L with
    | some (.lst xs) => some (!xs.isEmpty, A)
    | some (.stk k xs) => _
    | _ => none) = _
  rw [C.gl]
  show some (!(is.map AV.int).isEmpty, A) = _
  cases is <;> rfl
theorem CS0.last (C : CS0 A c L e is i p t) (h : s[0]? = some (some (.ref c))) (hn : is ≠ []) : ∃ z, mOp oIx (mOp oIx (mVar 0) (mC (.int 0))) (mC (.int (-1))) s A = some (.int z, A) := by
  have hl : 0 < is.length := List.length_pos_iff.mpr hn
  refine ⟨is[is.length - 1]'(by omega), e_op (C.ix0 h) (show mC (.int (-1)) s A = some (.int (-1), A) from rfl) ?_⟩
  unfold oIx
  show (match A.get L with
    | some (.lst xs) => pur (atA xs (-1)) A
    | some (.stk _ xs) => _
    | _ => none) = _
  rw [C.gl]
  show pur (if 0 < (is.map AV.int).length then (is.map AV.int)[(is.map AV.int).length - 1 - 0]? else none) A = _
  rw [if_pos (by rw [List.length_map]; exact hl), List.length_map, List.getElem?_map, Nat.sub_zero, List.getElem?_eq_getElem (by omega)]
  rfl
theorem fill_tail (C : CS0 A c L e is i p t) {v : Int} (h0 : 0 ≤ v) (h1 : v < 10 ^ 18) : ∃ q s', fT [some (.ref c), some (.int v)] A = some (.rt (.int q), s', A) ∧ 0 ≤ q := by
  have key : ∃ v', 0 ≤ v' ∧ v' < 10 ^ 18 + 2000000 ∧ mIfS (mAnd (mTru (mOp oIx (mVar 0) (mC (.int 0)))) (mB (mOp oGe (mOp oIx (mVar 0) (mC (.int 1))) (mCall cLen (mCons (mOp oIx (mVar 0) (mC (.int 0))) mNil))))) (mSet 1 (mOp oAdd (mVar 1) (mOp oMod (mCall cInt (mCons (mOp oIx (mOp oIx (mVar 0) (mC (.int 0))) (mC (.int (-1)))) mNil)) (mC (.int 1000003))))) mNext [some (.ref c), some (.int v)] A = some (.nx, [some (.ref c), some (.int v')], A) := by
    by_cases hn : is = []
    · exact ⟨v, h0, by omega, t_if (b := false) (A1 := A) (e_and (b := !is.isEmpty) (C.tru rfl) (by rw [hn]; rfl)) rfl⟩
    · have hi : (!is.isEmpty) = true := by
        cases is with
        | nil => exact absurd rfl hn
        | cons _ _ => rfl
      cases hg : ile (Int.ofNat is.length) i with
      | false =>
        refine ⟨v, h0, by omega, t_if (b := false) (e_and (C.tru rfl) ?_) rfl⟩
        rw [hi]
        show mB _ _ A = _
        rw [e_ge (C.ix1 rfl) (C.len rfl), hg]
      | true =>
        obtain ⟨z, hz⟩ := C.last (s := [some (.ref c), some (.int v)]) rfl hn
        obtain ⟨m1, m2⟩ := fmod_b (a := z) (b := 1000003) (by decide)
        refine ⟨v + z.fmod 1000003, by omega, by omega, t_if (b := true) (e_and (C.tru rfl) ?_) (t_set (e_op (e_var rfl) (e_op (e_int hz) e_c (o_mod (by decide))) o_add))⟩
        rw [hi]
        show mB _ _ A = _
        rw [e_ge (C.ix1 rfl) (C.len rfl), hg]
  obtain ⟨v', a1, a2, a3⟩ := key
  obtain ⟨q, s', a4, a5⟩ := fill_end C a1 a2
  exact ⟨q, s', t_seq a3 a4, a5⟩
theorem CS0.setT (C : CS0 A c L e is i p t) (h : t + 1 ≤ 1000) : CS0 (A.set c (cst L i p (t + 1) e)) c L e is i p (t + 1) :=
  ⟨get_set, by rw [get_set_ne C.ne]; exact C.gl, C.ne, C.i0, C.i1, C.p0, by have := C.t0; omega, h⟩
theorem CS0.setI (C : CS0 A c L e is i p t) (h : i + 1 ≤ is.length) : CS0 (A.set c (cst L (i + 1) p t e)) c L e is (i + 1) p t :=
  ⟨get_set, by rw [get_set_ne C.ne]; exact C.gl, C.ne, by have := C.i0; omega, h, C.p0, C.t0, C.t1⟩
theorem CS0.setP (C : CS0 A c L e is i p t) {q : Int} (h : 0 ≤ q) : CS0 (A.set c (cst L i q t e)) c L e is i q t :=
  ⟨get_set, by rw [get_set_ne C.ne]; exact C.gl, C.ne, C.i0, C.i1, h, C.t0, C.t1⟩
theorem fill_ok (C : CS0 A c L e is i p t) (h : t + 1 ≤ 1000) : ∃ q i' A', m__law_fill [.ref c] A = some (.int q, A') ∧ Same A A' c ∧ CS0 A' c L e is i' p (t + 1) ∧ 0 ≤ q := by
  have C1 := C.setT h
  have t0 := C.t0
  have st1 : mLPut (mVar 0) (mC (.int 3)) (mOp oAdd (mOp oIx (mVar 0) (mC (.int 3))) (mC (.int 1))) [some (.ref c), none] A = some (.nx, [some (.ref c), none], A.set c (cst L i p (t + 1) e)) := t_lput (j := 3) (e_op (C.ix3 rfl) e_c o_add) (e_var rfl) C.gc (by show (3 : Nat) < 6; decide)
  have st2 : mSet 1 (mOp oAdd (mOp oMul (mOp oIx (mVar 0) (mC (.int 3))) (mC (.int 69621))) (mC (.int 12345))) [some (.ref c), none] (A.set c (cst L i p (t + 1) e)) = some (.nx, [some (.ref c), some (.int ((t + 1) * 69621 + 12345))], A.set c (cst L i p (t + 1) e)) := t_set (e_op (e_op (C1.ix3 rfl) e_c (o_mul (by omega))) e_c o_add)
  have fin : ∀ {r A'}, b__law_fill [some (.ref c), none] A = some (.rt r, A') → m__law_fill [.ref c] A = some (r, A'.2) := fun {r A'} h => by
    show ends (b__law_fill [some (.ref c), none] A) = _
    rw [h]
    rfl
  have hT : (1 : Int) ≤ t + 1 := by omega
  cases hg : ilt i (Int.ofNat is.length) with
  | false =>
    have st3 := t_if (sb := mNext) (sa := (mSeq (mSet 1 (mOp oIx (mOp oIx (mVar 0) (mC (.int 0))) (mOp oIx (mVar 0) (mC (.int 1)))))
    (mSeq (mLPut (mVar 0) (mC (.int 1)) (mOp oAdd (mOp oIx (mVar 0) (mC (.int 1))) (mC (.int 1))))
    (mSeq (mIfS (mB (mOp oLt (mVar 1) (mC (.int 0)))) (mSet 1 (mOp oSub (mOp oSub (mC (.int 0)) (mC (.int 1))) (mVar 1))) mNext)
    (mIfS (mB (mOp oGe (mVar 1) (mOp oPow (mC (.int 10)) (mC (.int 18))))) (mRet (mVar 1)) mNext))))) (e_lt (s := [some (.ref c), some (.int ((t + 1) * 69621 + 12345))]) (C1.ix1 rfl) (C1.len rfl)) (r := some (.nx, [some (.ref c), some (.int ((t + 1) * 69621 + 12345))], A.set c (cst L i p (t + 1) e))) (by rw [hg]; rfl)
    obtain ⟨q, s', a4, a5⟩ := fill_tail C1 (v := (t + 1) * 69621 + 12345) (by omega) (by omega)
    exact ⟨q, i, _, fin (t_seq st1 (t_seq st2 (t_seq st3 a4))), .set, C1, a5⟩
  | true =>
    rw [ilt_dec] at hg
    have hg2 : i < Int.ofNat is.length := of_decide_eq_true hg
    have i0 := C.i0
    have hl : i.toNat < is.length := by
      have : Int.ofNat is.length = (is.length : Int) := rfl
      omega
    have hI : is[i.toNat]? = some (is[i.toNat]'hl) := List.getElem?_eq_getElem hl
    generalize hz : is[i.toNat]'hl = z at hI
    have ei : i = Int.ofNat i.toNat := (Int.toNat_of_nonneg i0).symm
    have st3 : mSet 1 (mOp oIx (mOp oIx (mVar 0) (mC (.int 0))) (mOp oIx (mVar 0) (mC (.int 1)))) [some (.ref c), some (.int ((t + 1) * 69621 + 12345))] (A.set c (cst L i p (t + 1) e)) = some (.nx, [some (.ref c), some (.int z)], A.set c (cst L i p (t + 1) e)) := by
      refine t_set (e_op (C1.ix0 rfl) (C1.ix1 rfl) ?_)
      unfold oIx
      show (match (A.set c (cst L i p (t + 1) e)).get L with
        | some (.lst xs) => pur (atA xs i) (A.set c (cst L i p (t + 1) e))
        | some (.stk _ xs) => _
        | _ => none) = _
      rw [C1.gl]
      show pur (atA (is.map .int) i) _ = _
      have : atA (is.map AV.int) i = some (.int z) := by
        rw [ei]
        show (is.map AV.int)[i.toNat]? = _
        rw [List.getElem?_map, hI]
        rfl
      rw [this]
      rfl
    have hle : i + 1 ≤ is.length := by
      have : Int.ofNat is.length = (is.length : Int) := rfl
      omega
    have C2 := C1.setI hle
    have st4 : mLPut (mVar 0) (mC (.int 1)) (mOp oAdd (mOp oIx (mVar 0) (mC (.int 1))) (mC (.int 1))) [some (.ref c), some (.int z)] (A.set c (cst L i p (t + 1) e)) = some (.nx, [some (.ref c), some (.int z)], (A.set c (cst L i p (t + 1) e)).set c (cst L (i + 1) p (t + 1) e)) := t_lput (j := 1) (e_op (C1.ix1 rfl) e_c o_add) (e_var rfl) C1.gc (by show (1 : Nat) < 6; decide)
    have st5 : ∃ y, 0 ≤ y ∧ mIfS (mB (mOp oLt (mVar 1) (mC (.int 0)))) (mSet 1 (mOp oSub (mOp oSub (mC (.int 0)) (mC (.int 1))) (mVar 1))) mNext [some (.ref c), some (.int z)] ((A.set c (cst L i p (t + 1) e)).set c (cst L (i + 1) p (t + 1) e)) = some (.nx, [some (.ref c), some (.int y)], (A.set c (cst L i p (t + 1) e)).set c (cst L (i + 1) p (t + 1) e)) := by
      cases hn : ilt z 0 with
      | true =>
        have hn2 : z < 0 := by
          rw [ilt_dec] at hn
          exact of_decide_eq_true hn
        exact ⟨0 - 1 - z, by omega, t_if (e_lt (e_var rfl) e_c) (by rw [hn]; exact t_set (e_op (e_op e_c e_c o_sub) (e_var rfl) o_sub))⟩
      | false =>
        have hn2 : ¬ z < 0 := by
          rw [ilt_dec] at hn
          exact of_decide_eq_false hn
        exact ⟨z, by omega, t_if (e_lt (e_var rfl) e_c) (by rw [hn]; rfl)⟩
    obtain ⟨y, y0, st5⟩ := st5
    have pw : mOp oPow (mC (.int 10)) (mC (.int 18)) [some (.ref c), some (.int y)] ((A.set c (cst L i p (t + 1) e)).set c (cst L (i + 1) p (t + 1) e)) = some (.int (10 ^ 18), (A.set c (cst L i p (t + 1) e)).set c (cst L (i + 1) p (t + 1) e)) := rfl
    have sm : Same A ((A.set c (cst L i p (t + 1) e)).set c (cst L (i + 1) p (t + 1) e)) c := Same.set.trans .set
    cases hb : ile (10 ^ 18) y with
    | true =>
      refine ⟨y, i + 1, _, fin (t_seq st1 (t_seq st2 (t_seqR (t_if (e_lt (C1.ix1 rfl) (C1.len rfl)) (by rw [ilt_dec, hg]; exact t_seq st3 (t_seq st4 (t_seq st5 (t_if (e_ge (e_var rfl) pw) (by rw [hb]; exact t_ret (e_var rfl)))))))))), sm, C2, y0⟩
    | false =>
      have hb2 : ¬ (10 ^ 18 ≤ y) := by
        rw [ile_dec] at hb
        exact of_decide_eq_false hb
      obtain ⟨q, s', a4, a5⟩ := fill_tail C2 (v := y) y0 (by omega)
      exact ⟨q, i + 1, _, fin (t_seq st1 (t_seq st2 (t_seq (t_if (e_lt (C1.ix1 rfl) (C1.len rfl)) (by rw [ilt_dec, hg]; exact t_seq st3 (t_seq st4 (t_seq st5 (t_if (e_ge (e_var rfl) pw) (by rw [hb]; rfl)))))) a4))), sm, C2, a5⟩
theorem take_ok (C : CS0 A c L e is i p t) (h : t + 1 ≤ 1000) {many : Int} (h1 : 1 ≤ many) (h2 : many < 1000000000) : ∃ dg i' p' t' A', m__law_take [.ref c, .int many] A = some (.int dg, A') ∧ 0 ≤ dg ∧ dg < many ∧ Same A A' c ∧ CS0 A' c L e is i' p' t' ∧ t' ≤ t + 1 := by
  have fin : ∀ {r A'}, b__law_take [some (.ref c), some (.int many), none] A = some (.rt r, A') → m__law_take [.ref c, .int many] A = some (r, A'.2) := fun {r A'} h => by
    show ends (b__law_take [some (.ref c), some (.int many), none] A) = _
    rw [h]
    rfl
  have st1 : ∃ i' p' t' A1, mIfS (mB (mOp oLt (mOp oIx (mVar 0) (mC (.int 2))) (mVar 1))) (mLPut (mVar 0) (mC (.int 2)) (mCall m__law_fill (mCons (mVar 0) mNil))) mNext [some (.ref c), some (.int many), none] A = some (.nx, [some (.ref c), some (.int many), none], A1) ∧ Same A A1 c ∧ CS0 A1 c L e is i' p' t' ∧ t' ≤ t + 1 := by
    cases hg : ilt p many with
    | false => exact ⟨i, p, t, A, t_if (e_lt (C.ix2 rfl) (e_var rfl)) (by rw [hg]; rfl), .refl, C, by omega⟩
    | true =>
      obtain ⟨q, i', A1, f1, f2, f3, f4⟩ := fill_ok C h
      have cc := e_call (s := [some (.ref c), some (.int many), none]) (A := A) (e_cons (e_var (i := 0) rfl) e_nil) f1
      exact ⟨i', q, t + 1, _, t_if (e_lt (C.ix2 rfl) (e_var rfl)) (by rw [hg]; exact t_lput (j := 2) cc (e_var rfl) f3.gc (by show (2 : Nat) < 6; decide)), f2.trans .set, f3.setP f4, by omega⟩
  obtain ⟨i', p', t', A1, f1, f2, f3, f4⟩ := st1
  obtain ⟨m1, m2⟩ := fmod_b (a := p') (b := many) (by omega)
  have p0 := f3.p0
  refine ⟨p'.fmod many, i', p'.fdiv many, t', _, fin (t_seq f1 (t_seq (t_set (e_op (e_int (f3.ix2 rfl)) (e_var rfl) (o_mod h1))) (t_seq (t_lput (j := 2) (e_op (f3.ix2 rfl) (e_var rfl) (o_fdiv h1 h2)) (e_var rfl) f3.gc (by show (2 : Nat) < 6; decide)) (t_ret (e_var rfl))))), m1, m2, f2.trans .set, f3.setP (Int.fdiv_nonneg p0 (by omega)), f4⟩
end
end Zg
set_option Elab.async false
set_option maxRecDepth 100000
set_option maxHeartbeats 4000000
set_option linter.all false
/-! ZL3: _law_start, _law_doubled. -/
namespace Zg
section
variable {s : SA} {A A' : AH} {c L e : Nat} {is : List Int} {i p t : Int}
/-- behind the loop of the doubled value -/
theorem dbl_loop {a0 a1 a2 a3 a4 a5 a6 : Option AV} {n m : Nat} : ∀ (r i : Nat) (v : Int) (w : Option AV), i + r = n → ∃ w', forG (nxR 0 1 n) (.one 8) (mSet 7 (mOp oAdd (mVar 7) (mVar 7))) (r + 1 + m) i [a0, a1, a2, a3, a4, a5, a6, some (.int v), w] A = some (.nx, [a0, a1, a2, a3, a4, a5, a6, some (.int (dbl r v)), w'], A)
  | 0, i, v, w, h => by
    refine ⟨w, ?_⟩
    have e : 0 + 1 + m = m + 1 := by omega
    rw [e]
    have hb : i.blt n = false := by
      cases q : i.blt n with
      | false => rfl
      | true =>
        have := Nat.blt_eq.mp q
        omega
    show (match nxR 0 1 n i A with
      | some (some v) => _
      | some none => some (Fl.nx, _, A)
      | none => none) = _
    unfold nxR
    rw [hb]
    rfl
  | r + 1, i, v, w, h => by
    have e : r + 1 + 1 + m = (r + 1 + m) + 1 := by omega
    rw [e]
    have hb : i.blt n = true := Nat.blt_eq.mpr (by omega)
    obtain ⟨w', ih⟩ := dbl_loop (n := n) (m := m) (a0 := a0) (a1 := a1) (a2 := a2) (a3 := a3) (a4 := a4) (a5 := a5) (a6 := a6) r (i + 1) (v + v) (some (.int (0 + Int.ofNat i * 1))) (by omega)
    refine ⟨w', ?_⟩
    show (match nxR 0 1 n i A with
      | some (some v) => turnF _ _ v (forG (nxR 0 1 n) (.one 8) (mSet 7 (mOp oAdd (mVar 7) (mVar 7))) (r + 1 + m) (i + 1)) _ A
      | some none => _
      | none => none) = _
    unfold nxR
    rw [hb]
    exact ih
theorem doubled_ok (C : CS0 A c L e is i p t) (ht : t + 2 ≤ 1000) : ∃ (many : Nat) (x : Int) (l : Nat) (A' : AH), m__law_doubled [.ref c] A = some (.ref l, A') ∧ A'.get l = some (.lst [progF .d (.int many) (.int x), .tup [], .int (dbl many x), .int (3 * (many : Int) + 3)]) ∧ many < 660 ∧ 0 ≤ x + 4 := by
  obtain ⟨d1, i1, p1, t1, A1, f1, g1, g2, sm1, C1, ht1⟩ := take_ok C (by omega) (many := 660) (by decide) (by decide)
  obtain ⟨d2, i2, p2, t2, A2, f2, g3, g4, sm2, C2, ht2⟩ := take_ok C1 (by omega) (many := 9) (by decide) (by decide)
  have hd : d1 = ((d1.toNat : Nat) : Int) := (Int.toNat_of_nonneg g1).symm
  generalize hn : d1.toNat = n at hd
  subst hd
  have st1 : mSet 1 (mCall m__law_take (mCons (mVar 0) (mCons (mC (.int 660)) mNil))) [some (.ref c), none, none, none, none, none, none, none, none] A = some (.nx, [some (.ref c), some (.int n), none, none, none, none, none, none, none], A1) := t_set (e_call (e_cons (e_var rfl) (e_cons e_c e_nil)) f1)
  have st2 : mSet 2 (mOp oSub (mCall m__law_take (mCons (mVar 0) (mCons (mC (.int 9)) mNil))) (mC (.int 4))) [some (.ref c), some (.int n), none, none, none, none, none, none, none] A1 = some (.nx, [some (.ref c), some (.int n), some (.int (d2 - 4)), none, none, none, none, none, none], A2) := t_set (e_op (e_call (e_cons (e_var rfl) (e_cons e_c e_nil)) f2) e_c o_sub)
  generalize hx : d2 - 4 = x at st2
  have lp : ∀ a3 a4 a5 a6 : Option AV, ∃ w', mForR1 (mVar 1) (.one 8) (mSet 7 (mOp oAdd (mVar 7) (mVar 7))) [some (.ref c), some (.int n), some (.int x), a3, a4, a5, a6, some (.int x), none] A2 = some (.nx, [some (.ref c), some (.int n), some (.int x), a3, a4, a5, a6, some (.int (dbl n x)), w'], A2) := fun a3 a4 a5 a6 => by
    obtain ⟨w', h⟩ := dbl_loop (m := lots - n - 1) (A := A2) (n := n) (a0 := some (.ref c)) (a1 := some (.int n)) (a2 := some (.int x)) (a3 := a3) (a4 := a4) (a5 := a5) (a6 := a6) n 0 x none (by omega)
    refine ⟨w', ?_⟩
    have el : n + 1 + (lots - n - 1) = lots := by
      unfold lots
      omega
    rw [el] at h
    unfold mForR1
    show cond ((n : Int).natAbs.blt line) (forG (nxR 0 1 (n : Int).toNat) _ _ lots 0 _ A2) none = _
    rw [Int.natAbs_natCast, Int.toNat_natCast, Nat.blt_eq.mpr (by unfold line; omega)]
    exact h
  refine ⟨n, x, A2.n, _, ?_, get_new, by omega, by omega⟩
  show ends (b__law_doubled [some (.ref c), none, none, none, none, none, none, none, none] A) = _
  have hp : ∃ a3 a4 a5, b__law_doubled [some (.ref c), none, none, none, none, none, none, none, none] A = (mSeq (mForR1 (mVar 1) (.one 8) (mSet 7 (mOp oAdd (mVar 7) (mVar 7)))) (mRet (mLst (mCons (mVar 6) (mCons (mTup mNil) (mCons (mVar 7) (mCons (mOp oAdd (mOp oMul (mC (.int 3)) (mVar 1)) (mC (.int 3))) mNil))))))) [some (.ref c), some (.int n), some (.int x), a3, a4, a5, some (progF .d (.int n) (.int x)), some (.int x), none] A2 :=
    ⟨_, _, _, t_seq st1 (t_seq st2 (t_seq (t_set rfl) (t_seq (t_set rfl) (t_seq (t_set rfl) (t_seq (t_set rfl) (t_seq (t_set rfl) rfl))))))⟩
  obtain ⟨a3, a4, a5, hp⟩ := hp
  obtain ⟨w', hl⟩ := lp a3 a4 a5 (some (progF .d (.int n) (.int x)))
  rw [hp, t_seq hl rfl]
  rfl
end
end Zg
set_option Elab.async false
set_option maxRecDepth 100000
set_option maxHeartbeats 4000000
set_option linter.all false
/-! ZL4: _law_counted. -/
namespace Zg
/-- what is put out from r - 1 down to 0 -/
def turnO (sh : Bool) (kind : Int) (k : Int) : List AV := cond sh (cond (ieq kind 2) [.tup [.int 1, .int 5], .tup [.int 0, .int k]] [.tup [.int 0, .int k]]) []
def outsL (sh : Bool) (kind : Int) : Nat → List AV
  | 0 => []
  | r + 1 => turnO sh kind (r : Int) ++ outsL sh kind r
theorem turnO_len (sh : Bool) (kind k : Int) : (turnO sh kind k).length ≤ 2 := by
  unfold turnO
  cases sh
  · exact Nat.zero_le 2
  · cases ieq kind 2
    · exact Nat.le_succ 1
    · exact Nat.le_refl 2
def cntB : MS := (mSeq (mIfS (mAnd (mB (mVar 5)) (mB (mOp oEq (mVar 8) (mC (.int 2))))) (mSet 7 (mOp oCatL (mVar 7) (mLst (mCons (mTup (mCons (mC (.int 1)) (mCons (mC (.int 5)) mNil))) mNil)))) mNext)
    (mIfS (mB (mVar 5)) (mExpr (mBM bAppend (mVar 7) (mCons (mTup (mCons (mC (.int 0)) (mCons (mVar 10) mNil))) mNil))) mNext))
section
variable {s : SA} {A A' : AH} {c L e : Nat} {is : List Int} {i p t : Int}
theorem cat_at {A : AH} {o q : Nat} {xs ys : List AV} (h1 : A.get o = some (.lst xs)) (h2 : A.get q = some (.lst ys)) (hl : xs.length + ys.length < line) : oCatL (.ref o) (.ref q) A = some (.ref A.n, A.new (.lst (xs ++ ys))) := by
  unfold oCatL
  show (match A.get o, A.get q with
    | some (.lst xs), some (.lst ys) => cond ((xs.length + ys.length).blt line) (some (AV.ref A.n, A.new (.lst (xs ++ ys)))) none
    | _, _ => none) = _
  rw [h1, h2]
  show cond ((xs.length + ys.length).blt line) _ none = _
  rw [Nat.blt_eq.mpr hl]
  rfl
theorem app_at {A : AH} {o : Nat} {xs : List AV} {y : AV} (h1 : A.get o = some (.lst xs)) (hl : xs.length < line) : bAppend (.ref o) [y] A = some (.non, A.set o (.lst (xs ++ [y]))) := by
  have e1 : stkOf A (.ref o) = none := by
    show (match A.get o with
      | some (.stk k xs) => some (o, k, xs)
      | _ => none) = _
    rw [h1]
  have e2 : lstOf A (.ref o) = some (o, xs) := by
    show (match A.get o with
      | some (.lst xs) => some (o, xs)
      | _ => none) = _
    rw [h1]
  unfold bAppend
  rw [e1]
  show (match lstOf A (.ref o), [y] with
    | some (a, xs), [y] => cond (xs.length.blt line) (some (AV.non, A.set a (.lst (xs ++ [y])))) none
    | _, _ => none) = _
  rw [e2]
  show cond (xs.length.blt line) _ none = _
  rw [Nat.blt_eq.mpr hl]
  rfl
theorem e_bm {s : SA} {A A2 : AH} {o : Nat} {xs ys : List AV} {mo : ME} {ra : MA} {f : AV → List AV → AH → Option (AV × AH)} {r : AV × AH} (ho : mo s A = some (.ref o, A)) (h1 : A.get o = some (.lst xs)) (hr : ra s A = some (ys, A2)) (hf : f (.ref o) ys A2 = some r) : mBM f mo ra s A = some r := by
  unfold mBM
  rw [ho]
  show cond ((lstOf A (.ref o)).isSome || _) _ none = _
  have e2 : lstOf A (.ref o) = some (o, xs) := by
    show (match A.get o with
      | some (.lst xs) => some (o, xs)
      | _ => none) = _
    rw [h1]
  rw [e2]
  show bnd (ra s A) _ = _
  rw [hr]
  exact hf
theorem cnt_turn {a0 a1 a2 a3 a4 a6 a9 a11 : Option AV} {sh : Bool} {kind k : Int} {o : Nat} {outs : List AV} (h1 : A.get o = some (.lst outs)) (ho : o < A.n) (hl : outs.length + 2 < line) : ∃ o' A', cntB [a0, a1, a2, a3, a4, some (.bl sh), a6, some (.ref o), some (.int kind), a9, some (.int k), a11] A = some (.nx, [a0, a1, a2, a3, a4, some (.bl sh), a6, some (.ref o'), some (.int kind), a9, some (.int k), a11], A') ∧ A'.get o' = some (.lst (outs ++ turnO sh kind k)) ∧ o' < A'.n := by
  cases sh with
  | false =>
    refine ⟨o, A, t_seq (t_if (b := false) (e_and (b := false) (e_B (e_var rfl)) rfl) rfl) (t_if (b := false) (e_B (e_var rfl)) rfl), ?_, ho⟩
    show A.get o = some (.lst (outs ++ []))
    rw [List.append_nil]
    exact h1
  | true =>
    cases hk : ieq kind 2 with
    | false =>
      refine ⟨o, A.set o (.lst (outs ++ [.tup [.int 0, .int k]])), t_seq (t_if (b := false) (e_and (b := true) (e_B (e_var rfl)) (show mB _ _ A = _ from e_B (e_op (e_var rfl) e_c (show oEq (.int kind) (.int 2) A = some (.bl false, A) by show some (AV.bl (ieq kind 2), A) = _; rw [hk])))) rfl) (t_if (b := true) (e_B (e_var rfl)) ?_), ?_, ho⟩
      · show mExpr _ _ A = _
        unfold mExpr
        rw [e_bm (e_var rfl) h1 (e_cons (show mTup _ _ A = some (.tup [.int 0, .int k], A) from rfl) e_nil) (app_at h1 (by omega))]
        rfl
      · rw [get_set]
        unfold turnO
        rw [hk]
        rfl
    | true =>
      have g1 : (A.new (.lst [.tup [.int 1, .int 5]])).get o = some (.lst outs) := by rw [get_new_ne (by omega)]; exact h1
      have g2 : ((A.new (.lst [.tup [.int 1, .int 5]])).new (.lst (outs ++ [.tup [.int 1, .int 5]]))).get (A.n + 1) = some (.lst (outs ++ [.tup [.int 1, .int 5]])) := get_new (A := A.new (.lst [.tup [.int 1, .int 5]]))
      refine ⟨A.n + 1, ((A.new (.lst [.tup [.int 1, .int 5]])).new (.lst (outs ++ [.tup [.int 1, .int 5]]))).set (A.n + 1) (.lst ((outs ++ [.tup [.int 1, .int 5]]) ++ [.tup [.int 0, .int k]])), t_seq (t_if (b := true) (e_and (b := true) (e_B (e_var rfl)) (show mB _ _ A = _ from e_B (e_op (e_var rfl) e_c (show oEq (.int kind) (.int 2) A = some (.bl true, A) by show some (AV.bl (ieq kind 2), A) = _; rw [hk])))) (t_set (e_op (e_var rfl) (show mLst _ _ A = some (.ref A.n, A.new (.lst [.tup [.int 1, .int 5]])) from rfl) (cat_at g1 get_new (by show outs.length + 1 < line; omega))))) (t_if (b := true) (e_B (e_var rfl)) ?_), ?_, ?_⟩
      · show mExpr _ _ _ = _
        unfold mExpr
        rw [e_bm (o := A.n + 1) (e_var rfl) g2 (e_cons (show mTup _ _ _ = some (.tup [.int 0, .int k], _) from rfl) e_nil) (app_at g2 (by rw [List.length_append]; show outs.length + 1 < line; omega))]
        rfl
      · rw [get_set]
        unfold turnO
        rw [hk, List.append_assoc]
        rfl
      · show A.n + 1 < A.n + 1 + 1
        omega
theorem cnt_loop {a0 a1 a2 a3 a4 a6 a9 a11 : Option AV} {sh : Bool} {kind : Int} {N m : Nat} : ∀ (r i : Nat) (A : AH) (o : Nat) (outs : List AV) (w : Option AV), i + r = N + 1 → A.get o = some (.lst outs) → o < A.n → outs.length + 2 * r + 2 < line → ∃ w' o' A', forG (nxR (N : Int) (-1) (N + 1)) (.one 10) cntB (r + 1 + m) i [a0, a1, a2, a3, a4, some (.bl sh), a6, some (.ref o), some (.int kind), a9, w, a11] A = some (.nx, [a0, a1, a2, a3, a4, some (.bl sh), a6, some (.ref o'), some (.int kind), a9, w', a11], A') ∧ A'.get o' = some (.lst (outs ++ outsL sh kind r)) ∧ o' < A'.n
  | 0, i, A, o, outs, w, h, h1, ho, hl => by
    have e : 0 + 1 + m = m + 1 := by omega
    rw [e]
    have hb : i.blt (N + 1) = false := by
      cases q : i.blt (N + 1) with
      | false => rfl
      | true =>
        have := Nat.blt_eq.mp q
        omega
    refine ⟨w, o, A, ?_, by rw [show outsL sh kind 0 = [] from rfl, List.append_nil]; exact h1, ho⟩
    show (match nxR (N : Int) (-1) (N + 1) i A with
      | some (some v) => _
      | some none => some (Fl.nx, _, A)
      | none => none) = _
    unfold nxR
    rw [hb]
    rfl
  | r + 1, i, A, o, outs, w, h, h1, ho, hl => by
    have e : r + 1 + 1 + m = (r + 1 + m) + 1 := by omega
    rw [e]
    have hb : i.blt (N + 1) = true := Nat.blt_eq.mpr (by omega)
    have hk : (N : Int) + Int.ofNat i * (-1) = (r : Int) := by
      have : Int.ofNat i = (i : Int) := rfl
      omega
    obtain ⟨o1, A1, f1, f2, f3⟩ := cnt_turn (a0 := a0) (a1 := a1) (a2 := a2) (a3 := a3) (a4 := a4) (a6 := a6) (a9 := a9) (a11 := a11) (sh := sh) (kind := kind) (k := (r : Int)) h1 ho (by omega)
    have ln := turnO_len sh kind (r : Int)
    obtain ⟨w', o', A', g1, g2, g3⟩ := cnt_loop (a0 := a0) (a1 := a1) (a2 := a2) (a3 := a3) (a4 := a4) (a6 := a6) (a9 := a9) (a11 := a11) (sh := sh) (kind := kind) (N := N) (m := m) r (i + 1) A1 o1 (outs ++ turnO sh kind (r : Int)) (some (.int (r : Int))) (by omega) f2 f3 (by rw [List.length_append]; omega)
    refine ⟨w', o', A', ?_, by rw [show outsL sh kind (r + 1) = turnO sh kind (r : Int) ++ outsL sh kind r from rfl, ← List.append_assoc]; exact g2, g3⟩
    show (match nxR (N : Int) (-1) (N + 1) i A with
      | some (some v) => turnF _ _ v (forG (nxR (N : Int) (-1) (N + 1)) (.one 10) cntB (r + 1 + m) (i + 1)) _ A
      | some none => _
      | none => none) = _
    unfold nxR
    rw [hb, hk]
    show (match cntB [a0, a1, a2, a3, a4, some (.bl sh), a6, some (.ref o), some (.int kind), a9, some (.int (r : Int)), a11] A with
      | some (.nx, s2, A2) => forG _ _ _ _ _ s2 A2
      | some (.ct, s2, A2) => forG _ _ _ _ _ s2 A2
      | some (.bk, s2, A2) => some (.nx, s2, A2)
      | r => r) = _
    rw [f1]
    exact g1
end
end Zg
set_option Elab.async false
set_option maxRecDepth 100000
set_option maxHeartbeats 4000000
set_option linter.all false
/-! ZL5: _law_counted, the rest. -/
namespace Zg
theorem t_if1 {s : SA} {A A1 : AH} {ta : MT} {sa sb : MS} {r : Option (Fl × SA × AH)} (ht : ta s A = some (true, A1)) (hr : sa s A1 = r) : mIfS ta sa sb s A = r := t_if ht hr
theorem t_if0 {s : SA} {A A1 : AH} {ta : MT} {sa sb : MS} {r : Option (Fl × SA × AH)} (ht : ta s A = some (false, A1)) (hr : sb s A1 = r) : mIfS ta sa sb s A = r := t_if ht hr
theorem CS0.new {A : AH} {c L e : Nat} {is : List Int} {i p t : Int} {o : AO} (C : CS0 A c L e is i p t) (hc : c < A.n) (hL : L < A.n) : CS0 (A.new o) c L e is i p t :=
  ⟨by rw [get_new_ne (by omega)]; exact C.gc, by rw [get_new_ne (by omega)]; exact C.gl, C.ne, C.i0, C.i1, C.p0, C.t0, C.t1⟩
theorem ix_two {s : SA} {A A1 A2 : AH} {x0 x1 : AV} {ml mb : ME} {b : Bool} {q : Nat} (hl : ml s A = some (.ref q, A1)) (hb : mb s A1 = some (.int (cond b 1 0), A2)) (hg : A2.get q = some (.lst [x0, x1])) : mOp oIx ml mb s A = some (cond b x1 x0, A2) := by
  refine e_op hl hb ?_
  unfold oIx
  show (match A2.get q with
    | some (.lst xs) => pur (atA xs (cond b 1 0)) A2
    | some (.stk _ xs) => _
    | _ => none) = _
  rw [hg]
  cases b <;> rfl
theorem o_eq0 {A : AH} {d : Int} : oEq (.int d) (.int 0) A = some (.bl (ieq d 0), A) := rfl
/-- the shape told by the digits -/
theorem outs_eq (add sh : Bool) (k : Nat) (hk : k < 4) : ∀ N, outsL sh (k : Int) (N + 1) = outN (.c add sh k) N := by
  have key : ∀ n : Nat, turnO sh (k : Int) ((n + 1 : Nat) : Int) = cVs n (osF kp1 (.c add sh k)) := fun n => by
    have e : ((n + 1 : Nat) : Int) = 1 + 1 * (n : Int) := by omega
    rw [e]
    match sh, k, hk with
    | false, _, _ => rfl
    | true, 0, _ => rfl
    | true, 1, _ => rfl
    | true, 2, _ => rfl
    | true, 3, _ => rfl
  intro N
  induction N with
  | zero =>
    match sh, k, hk with
    | false, _, _ => rfl
    | true, 0, _ => rfl
    | true, 1, _ => rfl
    | true, 2, _ => rfl
    | true, 3, _ => rfl
  | succ N ih =>
    show turnO sh (k : Int) ((N + 1 : Nat) : Int) ++ outsL sh (k : Int) (N + 1) = cVs N (osF kp1 (.c add sh k)) ++ outN (.c add sh k) N
    rw [key, ih]
def cntR : MS := (mSeq (mIfS (mB (mOp oEq (mVar 8) (mC (.int 1)))) (mSeq (mSet 6 (mTup (mCons (mC (.str 241006181)) (mCons (mC (.str 228162035)) (mCons (mTup (mCons (mC (.str 1782516)) (mCons (mC (.str 118)) (mCons (mTup (mCons (mC (.str 31650050284)) mNil)) (mCons (mTup (mCons (mC (.str 232290021)) (mCons (mC (.str 118)) mNil))) mNil))))) (mCons (mVar 6) mNil))))))
    (mSet 9 (mOp oAdd (mOp oAdd (mVar 9) (mVar 1)) (mC (.int 1))))) mNext)
    (mSeq (mIfS (mB (mOp oEq (mVar 8) (mC (.int 2)))) (mSeq (mSet 6 (mTup (mCons (mC (.str 241006181)) (mCons (mC (.str 1896697)) (mCons (mTup (mCons (mC (.str 1782516)) (mCons (mC (.str 118)) (mCons (mTup (mCons (mC (.str 1896697)) (mCons (mTup (mCons (mC (.str 1817325)) (mCons (mC (.int 5)) mNil))) mNil))) (mCons (mTup (mCons (mC (.str 31650050284)) mNil)) mNil))))) (mCons (mVar 6) mNil))))))
    (mSet 9 (mOp oAdd (mVar 9) (mOp oIx (mLst (mCons (mC (.int 0)) (mCons (mOp oAdd (mVar 1) (mC (.int 1))) mNil))) (mCall cInt (mCons (mVar 5) mNil)))))) mNext)
    (mSeq (mIfS (mB (mOp oEq (mVar 8) (mC (.int 3)))) (mSeq (mSet 11 (mTup (mCons (mC (.str 241006181)) (mCons (mC (.str 228162035)) (mCons (mTup (mCons (mC (.str 228162035)) (mCons (mTup (mCons (mC (.str 236484980)) (mCons (mC (.int 0)) mNil))) (mCons (mTup (mCons (mC (.str 236484980)) (mCons (mC (.int 1)) mNil))) mNil)))) (mCons (mTup (mCons (mC (.str 13542)) (mCons (mTup (mCons (mC (.str 228162035)) (mCons (mTup (mCons (mC (.str 1817325)) (mCons (mC (.int 0)) mNil))) (mCons (mVar 4) mNil)))) (mCons (mVar 2) (mCons (mTup (mCons (mC (.str 1817325)) (mCons (mC (.int 7)) mNil))) mNil))))) mNil))))))
    (mSeq (mSet 6 (mCall m__law_started (mCons (mVar 11) (mCons (mVar 1) mNil))))
    (mSet 9 (mOp oAdd (mOp oAdd (mVar 9) (mOp oMul (mC (.int 2)) (mVar 1))) (mC (.int 2)))))) mNext)
    (mRet (mLst (mCons (mVar 6) (mCons (mCall cTuple (mCons (mVar 7) mNil)) (mCons (mVar 3) (mCons (mVar 9) mNil)))))))))
def nA (sh : Bool) : AV := cond sh (.tup [.str 1896697, .tup [.str 232290021, .str 110]]) (.tup [.str 232290021, .str 110])
def trA : AV := .tup [.str 209221228, .tup [.str 209221228, .tup [.str 232290021, .str 102], .tup [.str 232290021, .str 102]], .tup [.str 1899245, .tup [.str 232290021, .str 110], .tup [.str 1817325, .int (-1)]]]
def thA (add : Bool) : AV := cond add (.tup [.str 1899245, .tup [.str 1817325, .int 2], trA]) trA
theorem tuple_at' {s : SA} {A : AH} {o : ME} {r : Nat} {outs : List AV} (ho : o s A = some (.ref r, A)) (hg : A.get r = some (.lst outs)) : mCall cTuple (mCons o mNil) s A = some (.tup outs, A) := tuple_at ho hg
theorem rest_ok {A : AH} {a0 a10 a11 : Option AV} {add sh : Bool} {k N o : Nat} (hk : k < 4) {outs : List AV} {v : Int} (h1 : A.get o = some (.lst outs)) (ho : o < A.n) :
    ∃ l s' A', cntR [a0, some (.int (N : Int)), some (thA add), some (.int v), some (nA sh), some (.bl sh), some (progF (.c add sh 0) (.int (N : Int)) (.int 0)), some (.ref o), some (.int (k : Int)), some (.int (2 * (N : Int) + 2)), a10, a11] A = some (.rt (.ref l), s', A') ∧ A'.get l = some (.lst [progF (.c add sh k) (.int (N : Int)) (.int 0), .tup outs, .int v, .int ((stepsC (.c add sh k)).1 * (N : Int) + (stepsC (.c add sh k)).2)]) := by
  have fin : ∀ (p6 : AV) (st : Int) (a2 a4 a5 a8 a10 a11 : Option AV) (A2 : AH), A2.get o = some (.lst outs) → (mRet (mLst (mCons (mVar 6) (mCons (mCall cTuple (mCons (mVar 7) mNil)) (mCons (mVar 3) (mCons (mVar 9) mNil)))))) [a0, some (.int (N : Int)), a2, some (.int v), a4, a5, some p6, some (.ref o), a8, some (.int st), a10, a11] A2 = some (.rt (.ref A2.n), [a0, some (.int (N : Int)), a2, some (.int v), a4, a5, some p6, some (.ref o), a8, some (.int st), a10, a11], A2.new (.lst [p6, .tup outs, .int v, .int st])) := fun p6 st a2 a4 a5 a8 a10 a11 A2 hg => by
    refine t_ret ?_
    unfold mLst
    rw [e_cons (e_var rfl) (e_cons (tuple_at' (e_var rfl) hg) (e_cons (e_var rfl) (e_cons (e_var rfl) e_nil)))]
    rfl
  match k, hk with
  | 0, _ =>
    refine ⟨_, _, _, t_seq (t_if0 (e_B rfl) rfl) (t_seq (t_if0 (e_B rfl) rfl) (t_seq (t_if0 (e_B rfl) rfl) (fin _ _ _ _ _ _ _ _ A h1))), ?_⟩
    rw [get_new]
    rfl
  | 1, _ =>
    refine ⟨_, _, _, t_seq (t_if1 (e_B rfl) (t_seq (t_set rfl) (t_set (v := .int (2 * (N : Int) + 2 + (N : Int) + 1)) rfl))) (t_seq (t_if0 (e_B rfl) rfl) (t_seq (t_if0 (e_B rfl) rfl) (fin _ _ _ _ _ _ _ _ A h1))), ?_⟩
    rw [get_new]
    have e : 2 * (N : Int) + 2 + (N : Int) + 1 = 3 * (N : Int) + 3 := by omega
    rw [e]
    cases add <;> cases sh <;> rfl
  | 2, _ =>
    have g2 : (A.new (.lst [.int 0, .int ((N : Int) + 1)])).get o = some (.lst outs) := by rw [get_new_ne (by omega)]; exact h1
    refine ⟨_, _, _, t_seq (t_if0 (e_B rfl) rfl) (t_seq (t_if1 (e_B rfl) (t_seq (t_set rfl) (t_set (v := .int (2 * (N : Int) + 2 + cond sh ((N : Int) + 1) 0)) (e_op (e_var rfl) (ix_two (b := sh) (x0 := .int 0) (x1 := .int ((N : Int) + 1)) rfl (e_intB (e_var rfl)) get_new) (by cases sh <;> rfl))))) (t_seq (t_if0 (e_B rfl) rfl) (fin _ _ _ _ _ _ _ _ _ g2))), ?_⟩
    rw [get_new]
    cases sh with
    | true =>
      have e : 2 * (N : Int) + 2 + cond true ((N : Int) + 1) 0 = 3 * (N : Int) + 3 := by
        show 2 * (N : Int) + 2 + ((N : Int) + 1) = _
        omega
      rw [e]
      cases add <;> rfl
    | false =>
      have e : 2 * (N : Int) + 2 + cond false ((N : Int) + 1) 0 = 2 * (N : Int) + 2 := by
        show 2 * (N : Int) + 2 + 0 = _
        omega
      rw [e]
      cases add <;> rfl
  | 3, _ =>
    refine ⟨_, _, _, t_seq (t_if0 (e_B rfl) rfl) (t_seq (t_if0 (e_B rfl) rfl) (t_seq (t_if1 (e_B rfl) (t_seq (t_set rfl) (t_seq (t_set rfl) (t_set (v := .int (2 * (N : Int) + 2 + 2 * (N : Int) + 2)) rfl)))) (fin _ _ _ _ _ _ _ _ A h1))), ?_⟩
    rw [get_new]
    have e : 2 * (N : Int) + 2 + 2 * (N : Int) + 2 = 4 * (N : Int) + 4 := by omega
    rw [e]
    cases add <;> cases sh <;> rfl
end Zg
set_option Elab.async false
set_option maxRecDepth 100000
set_option maxHeartbeats 4000000
set_option linter.all false
/-! ZL6: _law_counted whole. -/
namespace Zg
section
variable {A : AH} {c L e : Nat} {is : List Int} {i p t : Int}
theorem counted_ok (C : CS0 A c L e is i p t) (ht : t + 6 ≤ 1000) (hc : c < A.n) (hL : L < A.n) : ∃ (add sh : Bool) (k N l : Nat) (A' : AH), m__law_counted [.ref c] A = some (.ref l, A') ∧ k < 4 ∧ N < 490 ∧
    A'.get l = some (.lst [progF (.c add sh k) (.int (N : Int)) (.int 0), .tup (outN (.c add sh k) N), .int (valN N 0 (.c add sh k)), .int ((stepsC (.c add sh k)).1 * (N : Int) + (stepsC (.c add sh k)).2)]) := by
  have C0 := C.new (o := .lst [.int 40, .int 490]) hc hL
  obtain ⟨d0, i0, p0, t0, A1, f0, a0, b0, sm0, C1, u0⟩ := take_ok C0 (by omega) (many := 3) (by decide) (by decide)
  have hq : A1.get A.n = some (.lst [.int 40, .int 490]) := by
    rw [sm0.g A.n (by omega)]
    exact get_new
  have n1 : A1.n = A.n + 1 := sm0.n
  have hm : ∃ m : Int, cond (ieq d0 0) (AV.int 490) (.int 40) = .int m ∧ 1 ≤ m ∧ m ≤ 490 := by
    cases ieq d0 0
    · exact ⟨40, rfl, by decide, by decide⟩
    · exact ⟨490, rfl, by decide, by decide⟩
  obtain ⟨m, hm1, hm2, hm3⟩ := hm
  obtain ⟨d1, i1, p1, t1, A2, f1, a1, b1, sm1, C2, u1⟩ := take_ok C1 (by omega) (many := m) hm2 (by omega)
  obtain ⟨d2, i2, p2, t2, A3, f2, a2, b2, sm2, C3, u2⟩ := take_ok C2 (by omega) (many := 2) (by decide) (by decide)
  obtain ⟨d3, i3, p3, t3, A4, f3, a3, b3, sm3, C4, u3⟩ := take_ok C3 (by omega) (many := 2) (by decide) (by decide)
  have n4 : A4.n = A.n + 1 := by rw [sm3.n, sm2.n, sm1.n, n1]
  have C5 := C4.new (o := .lst []) (by omega) (by omega)
  obtain ⟨d4, i4, p4, t4, A5, f4, a4, b4, sm4, C6, u4⟩ := take_ok C5 (by omega) (many := 4) (by decide) (by decide)
  have hN : d1 = ((d1.toNat : Nat) : Int) := (Int.toNat_of_nonneg a1).symm
  generalize hn : d1.toNat = N at hN
  subst hN
  have hK : d4 = ((d4.toNat : Nat) : Int) := (Int.toNat_of_nonneg a4).symm
  generalize hk : d4.toNat = k at hK
  subst hK
  generalize had : ieq d2 0 = add
  generalize hsh : ieq d3 0 = sh
  have ho : A5.get A4.n = some (.lst []) := by
    rw [sm4.g A4.n (by omega)]
    exact get_new
  have n5 : A5.n = A4.n + 1 := sm4.n
  have s1 : mSet 1 (mCall m__law_take (mCons (mVar 0) (mCons (mOp oIx (mLst (mCons (mC (.int 40)) (mCons (mC (.int 490)) mNil))) (mCall cInt (mCons (mOp oEq (mCall m__law_take (mCons (mVar 0) (mCons (mC (.int 3)) mNil))) (mC (.int 0))) mNil))) mNil))) [some (.ref c), none, none, none, none, none, none, none, none, none, none, none] A = some (.nx, [some (.ref c), some (.int (N : Int)), none, none, none, none, none, none, none, none, none, none], A2) :=
    t_set (e_call (e_cons (e_var rfl) (e_cons (ix_two (q := A.n) (A1 := A.new (.lst [.int 40, .int 490])) rfl (e_intB (e_op (e_call (e_cons (e_var rfl) (e_cons e_c e_nil)) f0) e_c o_eq0)) hq) e_nil)) (by rw [hm1]; exact f1))
  have s4 : mIfS (mB (mOp oEq (mCall m__law_take (mCons (mVar 0) (mCons (mC (.int 2)) mNil))) (mC (.int 0)))) (mSeq (mSet 2 (mTup (mCons (mC (.str 1899245)) (mCons (mTup (mCons (mC (.str 1817325)) (mCons (mC (.int 2)) mNil))) (mCons (mVar 2) mNil)))))
    (mSet 3 (mOp oAdd (mC (.int 7)) (mOp oMul (mC (.int 2)) (mVar 1))))) mNext [some (.ref c), some (.int (N : Int)), some trA, some (.int 7), none, none, none, none, none, none, none, none] A2 = some (.nx, [some (.ref c), some (.int (N : Int)), some (thA add), some (.int (cond add (7 + 2 * (N : Int)) 7)), none, none, none, none, none, none, none, none], A3) := by
    have tst : mB (mOp oEq (mCall m__law_take (mCons (mVar 0) (mCons (mC (.int 2)) mNil))) (mC (.int 0))) [some (.ref c), some (.int (N : Int)), some trA, some (.int 7), none, none, none, none, none, none, none, none] A2 = some (add, A3) := by
      rw [← had]
      exact e_B (e_op (e_call (e_cons (e_var rfl) (e_cons e_c e_nil)) f2) e_c o_eq0)
    cases add with
    | true => exact t_if1 tst (t_seq (t_set rfl) (t_set rfl))
    | false => exact t_if0 tst rfl
  have s6 : mSet 5 (mOp oEq (mCall m__law_take (mCons (mVar 0) (mCons (mC (.int 2)) mNil))) (mC (.int 0))) [some (.ref c), some (.int (N : Int)), some (thA add), some (.int (cond add (7 + 2 * (N : Int)) 7)), some (.tup [.str 232290021, .str 110]), none, none, none, none, none, none, none] A3 = some (.nx, [some (.ref c), some (.int (N : Int)), some (thA add), some (.int (cond add (7 + 2 * (N : Int)) 7)), some (.tup [.str 232290021, .str 110]), some (.bl sh), none, none, none, none, none, none], A4) := by
    rw [← hsh]
    exact t_set (e_op (e_call (e_cons (e_var rfl) (e_cons e_c e_nil)) f3) e_c o_eq0)
  have s7 : mIfS (mB (mVar 5)) (mSet 4 (mTup (mCons (mC (.str 1896697)) (mCons (mVar 4) mNil)))) mNext [some (.ref c), some (.int (N : Int)), some (thA add), some (.int (cond add (7 + 2 * (N : Int)) 7)), some (.tup [.str 232290021, .str 110]), some (.bl sh), none, none, none, none, none, none] A4 = some (.nx, [some (.ref c), some (.int (N : Int)), some (thA add), some (.int (cond add (7 + 2 * (N : Int)) 7)), some (nA sh), some (.bl sh), none, none, none, none, none, none], A4) := by
    cases sh with
    | true => exact t_if1 (e_B (e_var rfl)) (t_set rfl)
    | false => exact t_if0 (e_B (e_var rfl)) rfl
  have s8 : mSet 6 (mCall m__law_started (mCons (mTup (mCons (mC (.str 13542)) (mCons (mTup (mCons (mC (.str 228162035)) (mCons (mTup (mCons (mC (.str 1817325)) (mCons (mC (.int 0)) mNil))) (mCons (mVar 4) mNil)))) (mCons (mVar 2) (mCons (mTup (mCons (mC (.str 1817325)) (mCons (mC (.int 7)) mNil))) mNil))))) (mCons (mVar 1) mNil))) [some (.ref c), some (.int (N : Int)), some (thA add), some (.int (cond add (7 + 2 * (N : Int)) 7)), some (nA sh), some (.bl sh), none, none, none, none, none, none] A4 = some (.nx, [some (.ref c), some (.int (N : Int)), some (thA add), some (.int (cond add (7 + 2 * (N : Int)) 7)), some (nA sh), some (.bl sh), some (progF (.c add sh 0) (.int (N : Int)) (.int 0)), none, none, none, none, none], A4) := by
    cases add <;> cases sh <;> rfl
  have s10 : mSet 8 (mCall m__law_take (mCons (mVar 0) (mCons (mC (.int 4)) mNil))) [some (.ref c), some (.int (N : Int)), some (thA add), some (.int (cond add (7 + 2 * (N : Int)) 7)), some (nA sh), some (.bl sh), some (progF (.c add sh 0) (.int (N : Int)) (.int 0)), some (.ref A4.n), none, none, none, none] (A4.new (.lst [])) = some (.nx, [some (.ref c), some (.int (N : Int)), some (thA add), some (.int (cond add (7 + 2 * (N : Int)) 7)), some (nA sh), some (.bl sh), some (progF (.c add sh 0) (.int (N : Int)) (.int 0)), some (.ref A4.n), some (.int (k : Int)), none, none, none], A5) := t_set (e_call (e_cons (e_var rfl) (e_cons e_c e_nil)) f4)
  obtain ⟨w', o', A6, g1, g2, g3⟩ := cnt_loop (a0 := some (.ref c)) (a1 := some (.int (N : Int))) (a2 := some (thA add)) (a3 := some (.int (cond add (7 + 2 * (N : Int)) 7))) (a4 := some (nA sh)) (a6 := some (progF (.c add sh 0) (.int (N : Int)) (.int 0))) (a9 := some (.int (2 * (N : Int) + 2))) (a11 := none) (sh := sh) (kind := (k : Int)) (N := N) (m := lots - (N + 1) - 1) (N + 1) 0 A5 A4.n [] none (by omega) ho (by omega) (by show 0 + 2 * (N + 1) + 2 < line; unfold line; omega)
  have el : N + 1 + 1 + (lots - (N + 1) - 1) = lots := by
    unfold lots
    omega
  rw [el] at g1
  have s12 : mForR3 (mCons (mVar 1) (mCons (mOp oSub (mC (.int 0)) (mC (.int 1))) (mCons (mOp oSub (mC (.int 0)) (mC (.int 1))) mNil))) (.one 10) cntB [some (.ref c), some (.int (N : Int)), some (thA add), some (.int (cond add (7 + 2 * (N : Int)) 7)), some (nA sh), some (.bl sh), some (progF (.c add sh 0) (.int (N : Int)) (.int 0)), some (.ref A4.n), some (.int (k : Int)), some (.int (2 * (N : Int) + 2)), none, none] A5 = some (.nx, [some (.ref c), some (.int (N : Int)), some (thA add), some (.int (cond add (7 + 2 * (N : Int)) 7)), some (nA sh), some (.bl sh), some (progF (.c add sh 0) (.int (N : Int)) (.int 0)), some (.ref o'), some (.int (k : Int)), some (.int (2 * (N : Int) + 2)), w', none], A6) := by
    unfold mForR3
    rw [e_cons (e_var rfl) (e_cons (show mOp oSub (mC (.int 0)) (mC (.int 1)) _ A5 = some (.int (-1), A5) from rfl) (e_cons (show mOp oSub (mC (.int 0)) (mC (.int 1)) _ A5 = some (.int (-1), A5) from rfl) e_nil))]
    show cond (ieq (-1) (-1) && (N : Int).natAbs.blt line && (-1 : Int).natAbs.blt line) (forG (nxR (N : Int) (-1) ((N : Int) - -1).toNat) _ _ lots 0 _ A5) none = _
    have e1 : ((N : Int) - -1).toNat = N + 1 := by omega
    rw [e1, Int.natAbs_natCast, Nat.blt_eq.mpr (show N < line by unfold line; omega)]
    exact g1
  have kk : k < 4 := by omega
  have oe := outs_eq add sh k kk N
  rw [List.nil_append, oe] at g2
  obtain ⟨l, s', A', h1, h2⟩ := rest_ok (a0 := some (.ref c)) (a10 := w') (a11 := none) (add := add) (sh := sh) (N := N) (v := cond add (7 + 2 * (N : Int)) 7) kk g2 g3
  refine ⟨add, sh, k, N, l, A', ?_, kk, by omega, ?_⟩
  · show ends (b__law_counted [some (.ref c), none, none, none, none, none, none, none, none, none, none, none] A) = _
    have : b__law_counted [some (.ref c), none, none, none, none, none, none, none, none, none, none, none] A = some (.rt (.ref l), s', A') :=
      t_seq s1 (t_seq (t_set (v := trA) rfl) (t_seq (t_set rfl) (t_seq s4 (t_seq (t_set rfl) (t_seq s6 (t_seq s7 (t_seq s8 (t_seq (t_set (v := .ref A4.n) (A1 := A4.new (.lst [])) rfl) (t_seq s10 (t_seq (t_set rfl) (t_seq s12 h1)))))))))))
    rw [this]
    rfl
  · rw [h2]
    cases add <;> rfl
end
end Zg
set_option Elab.async false
set_option maxRecDepth 100000
set_option maxHeartbeats 4000000
set_option linter.all false
/-! ZL7: the law's start, the law's program. -/
namespace Zg
theorem e_lst {s : SA} {A A1 : AH} {ra : MA} {xs : List AV} (hr : ra s A = some (xs, A1)) (hl : xs.length < line) : mLst ra s A = some (.ref A1.n, A1.new (.lst xs)) := by
  unfold mLst
  rw [hr]
  show cond (xs.length.blt line) _ none = _
  rw [Nat.blt_eq.mpr hl]
  rfl
theorem comp_ints {A : AH} {a : Nat} {js : List Int} (ha : A.get a = some (.lst (js.map .int))) (hl : js.length < line) {s : SA} (hs : 1 < s.length) {m : Nat} : ∀ (r i : Nat) (acc : List AV), i + r = js.length → acc = (js.take i).map .int → compG (nxL a) (.one 1) mYes (mCall cInt (mCons (mVar 1) mNil)) s (r + 1 + m) i acc A = some (js.map .int, A)
  | 0, i, acc, h, hc => by
    have e : 0 + 1 + m = m + 1 := by omega
    rw [e]
    show (match nxL a i A with
      | some (some v) => _
      | some none => some (acc, A)
      | none => none) = _
    unfold nxL
    rw [ha]
    show (match some (js.map AV.int)[i]? with
      | some (some v) => _
      | some none => some (acc, A)
      | none => none) = _
    rw [List.getElem?_eq_none_iff.mpr (by rw [List.length_map]; omega)]
    show some (acc, A) = _
    rw [hc, List.take_of_length_le (by omega)]
  | r + 1, i, acc, h, hc => by
    have e : r + 1 + 1 + m = (r + 1 + m) + 1 := by omega
    rw [e]
    have hi : i < js.length := by omega
    have hg : js[i]? = some (js[i]'hi) := List.getElem?_eq_getElem hi
    generalize hz : js[i]'hi = z at hg
    have ih := comp_ints ha hl hs (m := m) r (i + 1) (acc ++ [.int z]) (by omega) (by rw [hc, List.take_add_one, hg, List.map_append]; rfl)
    show (match nxL a i A with
      | some (some v) => bnd (turnC _ _ _ v s acc A) fun acc1 A1 => compG (nxL a) (.one 1) mYes (mCall cInt (mCons (mVar 1) mNil)) s (r + 1 + m) (i + 1) acc1 A1
      | some none => some (acc, A)
      | none => none) = _
    unfold nxL
    rw [ha]
    show (match some (js.map AV.int)[i]? with
      | some (some v) => bnd (turnC _ _ _ v s acc A) fun acc1 A1 => compG (nxL a) (.one 1) mYes (mCall cInt (mCons (mVar 1) mNil)) s (r + 1 + m) (i + 1) acc1 A1
      | some none => some (acc, A)
      | none => none) = _
    rw [List.getElem?_map, hg]
    show bnd (turnC (.one 1) mYes (mCall cInt (mCons (mVar 1) mNil)) (.int z) s acc A) _ = _
    have tc : turnC (.one 1) mYes (mCall cInt (mCons (mVar 1) mNil)) (.int z) s acc A = some (acc ++ [.int z], A) := by
      unfold turnC
      show bnd (mYes (s.set 1 (some (.int z))) A) _ = _
      show bnd (mCall cInt (mCons (mVar 1) mNil) (s.set 1 (some (.int z))) A) _ = _
      rw [e_int (e_var (i := 1) (v := .int z) (by rw [List.getElem?_set_self hs]))]
      show cond (acc.length.blt line) _ none = _
      rw [Nat.blt_eq.mpr (by rw [hc, List.length_map, List.length_take]; omega)]
      rfl
    rw [tc]
    exact ih
/-- the heap at the law's start -/
def lawA (is : List Int) : AH := ⟨1, .nd (some (.fz (is.map .int))) .nil .nil⟩
theorem start_ok (is : List Int) (hl : is.length ≤ 63) : ∃ js A', m__law_start [.ref 0] (lawA is) = some (.ref 4, A') ∧ CS0 A' 4 2 3 js 0 0 0 ∧ A'.n = 5 := by
  generalize hj : (is.drop (sIxA is.length 0 none)).take (sIxA is.length is.length (some 63) - sIxA is.length 0 none) = js
  have jl : js.length ≤ 63 := by
    rw [← hj, List.length_take, List.length_drop]
    omega
  have hc : cutA (is.map AV.int) none (some 63) = js.map .int := by
    unfold cutA
    rw [List.length_map, ← List.map_drop, ← List.map_take, hj]
  have g1 : ((lawA is).new (.lst (js.map .int))).get 1 = some (.lst (js.map .int)) := get_new (A := lawA is)
  have cp := comp_ints (m := lots - js.length - 1) g1 (by unfold line; omega) (s := [some (.ref 0), none]) (by decide) js.length 0 [] (by omega) rfl
  have el : js.length + 1 + (lots - js.length - 1) = lots := by
    unfold lots
    omega
  rw [el] at cp
  refine ⟨js, ((((lawA is).new (.lst (js.map .int))).new (.lst (js.map .int))).new (.lst [])).new (cst 2 0 0 0 3), ?_, ⟨get_new (A := (((lawA is).new (.lst (js.map .int))).new (.lst (js.map .int))).new (.lst [])), ?_, by decide, by decide, Int.natCast_nonneg _, by decide, by decide, by decide⟩, rfl⟩
  · have st : mLcL (mSlL (mVar 0) mNoP (mP (mC (.int 63)))) (.one 1) mYes (mCall cInt (mCons (mVar 1) mNil)) [1] [some (.ref 0), none] (lawA is) = some (.ref 2, ((lawA is).new (.lst (js.map .int))).new (.lst (js.map .int))) := by
      have sl : mSlL (mVar 0) mNoP (mP (mC (.int 63))) [some (.ref 0), none] (lawA is) = some (.ref 1, (lawA is).new (.lst (js.map .int))) := by
        show some (AV.ref 1, (lawA is).new (.lst (cutA (is.map AV.int) none (some 63)))) = _
        rw [hc]
      unfold mLcL
      rw [sl]
      show fin (compG (nxL 1) (.one 1) mYes (mCall cInt (mCons (mVar 1) mNil)) [some (.ref 0), none] lots 0 [] ((lawA is).new (.lst (js.map .int)))) = _
      rw [cp]
      rfl
    show ends (b__law_start [some (.ref 0), none] (lawA is)) = _
    have := t_ret (e_lst (e_cons st (e_cons (e_c (v := .int 0)) (e_cons (e_c (v := .int 0)) (e_cons (e_c (v := .int 0)) (e_cons (e_c (v := .int 20)) (e_cons (e_lst (s := [some (.ref 0), none]) e_nil (by decide)) e_nil)))))) (by show (6 : Nat) < line; decide))
    show ends (mRet _ [some (.ref 0), none] (lawA is)) = _
    rw [this]
    rfl
  · rw [get_new_ne (by show (2 : Nat) ≠ 4; decide), get_new_ne (by show (2 : Nat) ≠ 3; decide)]
    exact get_new (A := (lawA is).new (.lst (js.map .int)))
end Zg
set_option Elab.async false
set_option maxRecDepth 100000
set_option maxHeartbeats 4000000
set_option linter.all false
/-! ZL8: the law over what the five defs are shown to answer. -/
namespace Zg
theorem t_unp4 {s : SA} {A A1 : AH} {me : ME} {l i1 i2 i3 i4 : Nat} {v1 v2 v3 v4 : AV} (h : me s A = some (.ref l, A1)) (hg : A1.get l = some (.lst [v1, v2, v3, v4])) : mUnpL [i1, i2, i3, i4] me s A = some (.nx, (((s.set i1 (some v1)).set i2 (some v2)).set i3 (some v3)).set i4 (some v4), A1) := by
  unfold mUnpL
  rw [h]
  show (match lstOf A1 (.ref l) with
    | some (_, vs) => match putS [i1, i2, i3, i4] vs s with
      | some s1 => some (Fl.nx, s1, A1)
      | none => none
    | none => none) = _
  have : lstOf A1 (.ref l) = some (l, [v1, v2, v3, v4]) := by
    show (match A1.get l with
      | some (.lst xs) => some (l, xs)
      | _ => none) = _
    rw [hg]
  rw [this]
  rfl
theorem outs_d : ∀ N, outN .d N = []
  | 0 => rfl
  | N + 1 => outs_d N
abbrev s6 (r1 : AV) (sh : Shp) (N : Nat) (X : Int) : SA := [some (.ref 0), some r1, some (progF sh (.int (N : Int)) (.int X)), some (.tup (outN sh N)), some (.int (valN N X sh)), some (.int ((stepsC sh).1 * (N : Int) + (stepsC sh).2)), none, none, none, none]
theorem pick_ok (is : List Int) (hl : is.length ≤ 63) : ∃ (sh : Shp) (N : Nat) (X : Int) (A' : AH), okSh sh = true ∧ N ≤ 2000 ∧ 0 ≤ X + 4 ∧
    (mSeq (mSet 1 (mCall m__law_start (mCons (mVar 0) mNil))) (mIfS (mB (mOp oEq (mCall m__law_take (mCons (mVar 1) (mCons (mC (.int 3)) mNil))) (mC (.int 0)))) (mUnpL [2, 3, 4, 5] (mCall m__law_doubled (mCons (mVar 1) mNil))) (mUnpL [2, 3, 4, 5] (mCall m__law_counted (mCons (mVar 1) mNil))))) [some (.ref 0), none, none, none, none, none, none, none, none, none] (lawA is) = some (.nx, s6 (.ref 4) sh N X, A') := by
  obtain ⟨js, A1, f1, C1, n1⟩ := start_ok is hl
  obtain ⟨d, i, p, t, A2, f2, a2, b2, sm2, C2, u2⟩ := take_ok C1 (by decide) (many := 3) (by decide) (by decide)
  have n2 : A2.n = 5 := by rw [sm2.n, n1]
  have st1 : mSet 1 (mCall m__law_start (mCons (mVar 0) mNil)) [some (.ref 0), none, none, none, none, none, none, none, none, none] (lawA is) = some (.nx, [some (.ref 0), some (.ref 4), none, none, none, none, none, none, none, none], A1) := t_set (e_call (e_cons (e_var rfl) e_nil) f1)
  have tst : mB (mOp oEq (mCall m__law_take (mCons (mVar 1) (mCons (mC (.int 3)) mNil))) (mC (.int 0))) [some (.ref 0), some (.ref 4), none, none, none, none, none, none, none, none] A1 = some (ieq d 0, A2) := e_B (e_op (e_call (e_cons (e_var rfl) (e_cons e_c e_nil)) f2) e_c o_eq0)
  cases hd : ieq d 0 with
  | true =>
    rw [hd] at tst
    obtain ⟨N, X, l, A3, g1, g2, g3, g4⟩ := doubled_ok C2 (by omega)
    refine ⟨.d, N, X, A3, rfl, by omega, g4, t_seq st1 (t_if1 tst ?_)⟩
    rw [t_unp4 (e_call (e_cons (e_var rfl) e_nil) g1) g2]
    show some (Fl.nx, [some (AV.ref 0), some (AV.ref 4), _, some (AV.tup []), _, _, none, none, none, none], A3) = some (Fl.nx, [some (AV.ref 0), some (AV.ref 4), _, some (AV.tup (outN .d N)), _, _, none, none, none, none], A3)
    rw [outs_d]
    rfl
  | false =>
    rw [hd] at tst
    obtain ⟨add, sh, k, N, l, A3, g1, g2, g3, g4⟩ := counted_ok C2 (by omega) (by omega) (by omega)
    refine ⟨.c add sh k, N, 0, A3, Nat.blt_eq.mpr g2, by omega, by decide, t_seq st1 (t_if0 tst ?_)⟩
    rw [t_unp4 (e_call (e_cons (e_var rfl) e_nil) g1) g4]
    rfl
/-! ### equal data -/
theorem keq_refl (i : Int) : ieq i i = true := by
  rw [ieq_dec]
  exact decide_eq_true rfl
mutual
theorem beqD_refl : ∀ (k : Nat) (x : AV), okD k x = true → beqD x x = true
  | k, .int i, h => keq_refl i
  | k, .str c, h => Nat.beq_refl c
  | 0, .tup ts, h => by cases h
  | k + 1, .tup ts, h => beqDs_refl k ts h
  | 0, .non, h => by cases h
  | 0, .bl _, h => by cases h
  | 0, .sym _, h => by cases h
  | 0, .ref _, h => by cases h
  | 0, .ktup _, h => by cases h
  | 0, .any, h => by cases h
  | _ + 1, .ktup _, h => by cases h
  | _ + 1, .non, h => by cases h
  | _ + 1, .bl _, h => by cases h
  | _ + 1, .sym _, h => by cases h
  | _ + 1, .ref _, h => by cases h
  | _ + 1, .any, h => by cases h
theorem beqDs_refl : ∀ (k : Nat) (xs : List AV), xs.all (okD k) = true → beqDs xs xs = true
  | k, [], h => rfl
  | k, x :: xs, h => by
    rw [List.all_cons] at h
    obtain ⟨h1, h2⟩ := and_yes h
    show (beqD x x && beqDs xs xs) = true
    rw [beqD_refl k x h1, beqDs_refl k xs h2]
    rfl
end
theorem eqD_refl {x : AV} (h : okD 60 x = true) : eqD x x = some true := by
  unfold eqD
  rw [h, beqD_refl 60 x h]
  rfl
theorem neD_at {s : SA} {A A1 A2 : AH} {ma mb : ME} {x : AV} (ha : ma s A = some (x, A1)) (hb : mb s A1 = some (x, A2)) (h : okD 60 x = true) : mB (mOp oNeD ma mb) s A = some (false, A2) := by
  refine e_B (e_op ha hb ?_)
  unfold oNeD
  rw [eqD_refl h]
  rfl
theorem eqD_at {s : SA} {A A1 A2 : AH} {ma mb : ME} {x : AV} (ha : ma s A = some (x, A1)) (hb : mb s A1 = some (x, A2)) (h : okD 60 x = true) : mOp oEqD ma mb s A = some (.bl true, A2) := by
  refine e_op ha hb ?_
  unfold oEqD
  rw [eqD_refl h]
end Zg
set_option Elab.async false
set_option maxRecDepth 100000
set_option maxHeartbeats 4000000
set_option linter.all false
/-! ZL9: the law answers True. -/
namespace Zg
theorem all_outs {os ob : List AV} (h1 : ∀ k, (cVs k os).all (okD 58) = true) (h2 : (cVs 0 ob).all (okD 58) = true) : ∀ n, (outsF os ob n).all (okD 58) = true
  | 0 => h2
  | n + 1 => by
    show (cVs n os ++ outsF os ob n).all (okD 58) = true
    rw [List.all_append, h1, all_outs h1 h2 n]
    rfl
theorem outN_okD : ∀ {sh : Shp}, okSh sh = true → ∀ N, (outN sh N).all (okD 58) = true
  | .d, _ => all_outs (fun _ => rfl) rfl
  | .c _ false _, _ => all_outs (fun _ => rfl) rfl
  | .c _ true 0, _ => all_outs (fun _ => rfl) rfl
  | .c _ true 1, _ => all_outs (fun _ => rfl) rfl
  | .c _ true 2, _ => all_outs (fun _ => rfl) rfl
  | .c _ true 3, _ => all_outs (fun _ => rfl) rfl
  | .c _ true (_ + 4), h => by cases h
theorem outM_okD : ∀ {sh : Shp}, okSh sh = true → ∀ N, (outM sh N).all (okD 58) = true
  | .d, _, 0 => rfl
  | .c _ false _, _, 0 => rfl
  | .c _ true 0, _, 0 => rfl
  | .c _ true 1, _, 0 => rfl
  | .c _ true 2, _, 0 => rfl
  | .c _ true 3, _, 0 => rfl
  | .c _ true (_ + 4), h, 0 => by cases h
  | .d, _, m + 1 => all_outs (fun _ => rfl) rfl m
  | .c _ false _, _, m + 1 => all_outs (fun _ => rfl) rfl m
  | .c _ true 0, _, m + 1 => all_outs (fun _ => rfl) rfl m
  | .c _ true 1, _, m + 1 => all_outs (fun _ => rfl) rfl m
  | .c _ true 2, _, m + 1 => all_outs (fun _ => rfl) rfl m
  | .c _ true 3, _, m + 1 => all_outs (fun _ => rfl) rfl m
  | .c _ true (_ + 4), h, m + 1 => by cases h
theorem kp_eq {sh : Shp} (hs : okSh sh = true) (m : Nat) : cVs m (osF kp2 sh) = cVs (m + 1) (osF kp1 sh) := by
  have e : (2 : Int) + 1 * (m : Int) = 1 + 1 * ((m + 1 : Nat) : Int) := by omega
  have e2 : cV m kp2 = cV (m + 1) kp1 := by
    show AV.int (2 + 1 * (m : Int)) = AV.int (1 + 1 * ((m + 1 : Nat) : Int))
    rw [e]
  match sh, hs with
  | .d, _ => rfl
  | .c _ false _, _ => rfl
  | .c _ true 0, _ =>
    show [AV.tup [.int 0, cV m kp2]] = [AV.tup [.int 0, cV (m + 1) kp1]]
    rw [e2]
  | .c _ true 1, _ =>
    show [AV.tup [.int 0, cV m kp2]] = [AV.tup [.int 0, cV (m + 1) kp1]]
    rw [e2]
  | .c _ true 2, _ =>
    show [AV.tup [.int 1, .int 5], AV.tup [.int 0, cV m kp2]] = [AV.tup [.int 1, .int 5], AV.tup [.int 0, cV (m + 1) kp1]]
    rw [e2]
  | .c _ true 3, _ =>
    show [AV.tup [.int 0, cV m kp2]] = [AV.tup [.int 0, cV (m + 1) kp1]]
    rw [e2]
  | .c _ true (_ + 4), h => cases h
theorem out_pre {sh : Shp} (hs : okSh sh = true) : ∀ N, ∃ r, outN sh N = outM sh N ++ r
  | 0 => by
    match sh, hs with
    | .d, _ => exact ⟨[], rfl⟩
    | .c _ false _, _ => exact ⟨[], rfl⟩
    | .c _ true 0, _ => exact ⟨_, rfl⟩
    | .c _ true 1, _ => exact ⟨_, rfl⟩
    | .c _ true 2, _ => exact ⟨[.tup [.int 0, .int 0]], rfl⟩
    | .c _ true 3, _ => exact ⟨_, rfl⟩
    | .c _ true (_ + 4), h => cases h
  | 1 => by
    match sh, hs with
    | .d, _ => exact ⟨[], rfl⟩
    | .c _ false _, _ => exact ⟨[], rfl⟩
    | .c _ true 0, _ => exact ⟨[.tup [.int 0, .int 0]], rfl⟩
    | .c _ true 1, _ => exact ⟨[.tup [.int 0, .int 0]], rfl⟩
    | .c _ true 2, _ => exact ⟨[.tup [.int 0, .int 0]], rfl⟩
    | .c _ true 3, _ => exact ⟨[.tup [.int 0, .int 0]], rfl⟩
    | .c _ true (_ + 4), h => cases h
  | m + 2 => by
    obtain ⟨r, hr⟩ := out_pre hs (m + 1)
    refine ⟨r, ?_⟩
    show cVs (m + 1) (osF kp1 sh) ++ outN sh (m + 1) = (cVs m (osF kp2 sh) ++ outM sh (m + 1)) ++ r
    rw [kp_eq hs m, hr, List.append_assoc]
theorem cut_pre {xs ys r : List AV} (h : xs = ys ++ r) : cutA xs none (some (Int.ofNat ys.length)) = ys := by
  unfold cutA
  show (xs.drop 0).take (cond (ys.length.ble xs.length) ys.length xs.length - 0) = ys
  rw [h, Nat.ble_eq_true_of_le (by rw [List.length_append]; omega)]
  show List.take (ys.length - 0) (ys ++ r) = ys
  rw [Nat.sub_zero, List.take_left]
mutual
theorem okD_up : ∀ (k : Nat) (x : AV), okD k x = true → okD (k + 1) x = true
  | k, .int i, h => by cases k <;> rfl
  | k, .str c, h => by cases k <;> rfl
  | 0, .tup ts, h => by cases h
  | k + 1, .tup ts, h => okDs_up k ts h
  | 0, .non, h => by cases h
  | 0, .bl _, h => by cases h
  | 0, .sym _, h => by cases h
  | 0, .ref _, h => by cases h
  | 0, .ktup _, h => by cases h
  | 0, .any, h => by cases h
  | _ + 1, .ktup _, h => by cases h
  | _ + 1, .non, h => by cases h
  | _ + 1, .bl _, h => by cases h
  | _ + 1, .sym _, h => by cases h
  | _ + 1, .ref _, h => by cases h
  | _ + 1, .any, h => by cases h
theorem okDs_up : ∀ (k : Nat) (xs : List AV), xs.all (okD k) = true → xs.all (okD (k + 1)) = true
  | k, [], h => rfl
  | k, x :: xs, h => by
    rw [List.all_cons] at h ⊢
    obtain ⟨h1, h2⟩ := and_yes h
    rw [okD_up k x h1, okDs_up k xs h2]
    rfl
end
theorem seq_assoc {s s1 : SA} {A A1 : AH} {a b c : MS} {r : Option (Fl × SA × AH)} (h : mSeq a b s A = some (.nx, s1, A1)) (hc : c s1 A1 = r) : mSeq a (mSeq b c) s A = r := by
  unfold mSeq at h
  split at h
  · rename_i s2 A2 e
    refine t_seq e ?_
    exact t_seq h hc
  · rename_i hn
    exact absurd h (hn _ _)
/-- what the five are to answer at the program -/
structure Ans5 (sh : Shp) (N : Nat) (X : Int) (r0 r1 r2 r3 r4 : MF) : Prop where
  a0 : ∀ A, r0 [progF sh (.int (N : Int)) (.int X)] A = some (plainF sh (.int (N : Int)) (.int X), A)
  a1 : ∀ A, r1 [plainF sh (.int (N : Int)) (.int X)] A = some (codeF sh (.int (N : Int)) (.int X), A)
  a2 : ∀ A, r2 [progF sh (.int (N : Int)) (.int X), .int ((stepsC sh).1 * (N : Int) + (stepsC sh).2)] A = some (.tup [.tup (outN sh N), vEnd (.int (valN N X sh))], A)
  b2 : ∀ A, r2 [progF sh (.int (N : Int)) (.int X), .int ((stepsC sh).1 * (N : Int) + (stepsC sh).2 - 1)] A = some (.tup [.tup (outM sh N), mEnd], A)
  a3 : ∀ A, r3 [plainF sh (.int (N : Int)) (.int X), .int ((stepsC sh).1 * (N : Int) + (stepsC sh).2)] A = some (.tup [.tup (outN sh N), vEnd (.int (valN N X sh))], A)
  b3 : ∀ A, r3 [plainF sh (.int (N : Int)) (.int X), .int ((stepsC sh).1 * (N : Int) + (stepsC sh).2 - 1)] A = some (.tup [.tup (outM sh N), mEnd], A)
  a4 : ∀ A, r4 [codeF sh (.int (N : Int)) (.int X), .int ((stepsC sh).1 * (N : Int) + (stepsC sh).2)] A = some (.tup [.tup (outN sh N), vEnd (.int (valN N X sh))], A)
  b4 : ∀ A, r4 [codeF sh (.int (N : Int)) (.int X), .int ((stepsC sh).1 * (N : Int) + (stepsC sh).2 - 1)] A = some (.tup [.tup (outM sh N), mEnd], A)
theorem e_or {s : SA} {A A1 : AH} {ta tb : MT} (ha : ta s A = some (false, A1)) {r : Bool × AH} (hr : tb s A1 = some r) : mOr ta tb s A = some r := by
  unfold mOr
  rw [ha]
  exact hr
theorem e_tup {s : SA} {A A1 : AH} {ra : MA} {xs : List AV} (hr : ra s A = some (xs, A1)) (hl : xs.length < line) : mTup ra s A = some (.tup xs, A1) := by
  unfold mTup
  rw [hr]
  show cond (xs.length.blt line) _ none = _
  rw [Nat.blt_eq.mpr hl]
  rfl
theorem law_ok (is : List Int) (hl : is.length ≤ 63) : ∃ (sh : Shp) (N : Nat) (X : Int), okSh sh = true ∧ N ≤ 2000 ∧ 0 ≤ X + 4 ∧ ∀ r0 r1 r2 r3 r4 : MF, Ans5 sh N X r0 r1 r2 r3 r4 → ∃ A', mRun 1 10 (b_lawX r0 r1 r2 r3 r4) [.ref 0] (lawA is) = some (.bl true, A') := by
  obtain ⟨sh, N, X, A, hs, hN, hX, hp⟩ := pick_ok is hl
  refine ⟨sh, N, X, hs, hN, hX, fun r0 r1 r2 r3 r4 W => ?_⟩
  have o1 := outN_okD hs N
  have o2 := outM_okD hs N
  obtain ⟨rst, hr⟩ := out_pre hs N
  have d1 : okD 60 (.tup [.tup (outN sh N), vEnd (.int (valN N X sh))]) = true := by
    show ((outN sh N).all (okD 58) && (okD 59 (vEnd (.int (valN N X sh))) && true)) = true
    rw [o1]
    rfl
  have d2 : okD 60 (.tup [.tup (outM sh N), mEnd]) = true := by
    show ((outM sh N).all (okD 58) && (okD 59 mEnd && true)) = true
    rw [o2]
    rfl
  have mono59 : okD 60 (.tup (outM sh N)) = true := okDs_up 58 _ o2
  have fin : ∀ {r A'}, b_lawX r0 r1 r2 r3 r4 [some (.ref 0), none, none, none, none, none, none, none, none, none] (lawA is) = some (.rt r, A') → mRun 1 10 (b_lawX r0 r1 r2 r3 r4) [.ref 0] (lawA is) = some (r, A'.2) := fun {r A'} h => by
    show ends (b_lawX r0 r1 r2 r3 r4 [some (.ref 0), none, none, none, none, none, none, none, none, none] (lawA is)) = _
    rw [h]
    rfl
  cases hg : ilt 2000 ((stepsC sh).1 * (N : Int) + (stepsC sh).2) with
  | true =>
    refine ⟨A, fin (r := .bl true) (A' := (s6 (.ref 4) sh N X, A)) (seq_assoc hp (t_seqR (t_if1 (e_B (e_op (e_var rfl) e_c ?_)) (t_ret e_c))))⟩
    show some (AV.bl (ilt 2000 ((stepsC sh).1 * (N : Int) + (stepsC sh).2)), A) = _
    rw [hg]
  | false =>
    have t0 : mIfS (mB (mOp oGt (mVar 5) (mC (.int 2000)))) (mRet (mC (.bl true))) mNext (s6 (.ref 4) sh N X) A = some (.nx, s6 (.ref 4) sh N X, A) := by
      refine t_if0 (e_B (e_op (e_var rfl) e_c ?_)) rfl
      show some (AV.bl (ilt 2000 ((stepsC sh).1 * (N : Int) + (stepsC sh).2)), A) = _
      rw [hg]
    have W2 := W.a2
    have W3 := W.a3
    have W4 := W.a4
    have V2 := W.b2
    have V3 := W.b3
    have V4 := W.b4
    generalize hdue : AV.tup [.tup (outN sh N), vEnd (.int (valN N X sh))] = due at *
    generalize htold : AV.tup [.tup (outM sh N), mEnd] = told at *
    have ix1 : ∀ s' : SA, s'[9]? = some (some told) → mOp oIx (mVar 9) (mC (.int 1)) s' A = some (mEnd, A) := fun s' h => by
      rw [← htold] at h
      exact e_op (e_var h) e_c rfl
    have ix0 : ∀ s' : SA, s'[9]? = some (some told) → mOp oIx (mVar 9) (mC (.int 0)) s' A = some (.tup (outM sh N), A) := fun s' h => by
      rw [← htold] at h
      exact e_op (e_var h) e_c rfl
    have sl : ∀ s' : SA, s'[9]? = some (some told) → s'[3]? = some (some (.tup (outN sh N))) → mSlT (mVar 3) mNoP (mP (mCall cLen (mCons (mOp oIx (mVar 9) (mC (.int 0))) mNil))) s' A = some (.tup (outM sh N), A) := fun s' h9 h3 => by
      unfold mSlT
      rw [e_var h3]
      show bnd (mP (mCall cLen (mCons (mOp oIx (mVar 9) (mC (.int 0))) mNil)) s' A) _ = _
      unfold mP
      rw [e_call (e_cons (ix0 s' h9) e_nil) (show cLen [.tup (outM sh N)] A = some (.int (Int.ofNat (outM sh N).length), A) from rfl)]
      show some (AV.tup (cutA (outN sh N) none (some (Int.ofNat (outM sh N).length))), A) = _
      rw [cut_pre hr]
    refine ⟨A, fin (r := .bl true) (A' := (_, A)) (seq_assoc hp (t_seq t0 (t_seq (t_set (e_call (e_cons (e_var rfl) e_nil) (W.a0 A))) (t_seq (t_set (e_call (e_cons (e_var rfl) e_nil) (W.a1 A))) (t_seq (t_set (v := due) (by rw [← hdue]; exact e_tup (e_cons (e_var rfl) (e_cons (e_tup (e_cons e_c (e_cons (e_var rfl) e_nil)) (by show (2 : Nat) < line; decide)) e_nil)) (by show (2 : Nat) < line; decide)))
      (t_seq (t_if0 (e_or (neD_at (e_call (e_cons (e_var rfl) (e_cons (e_var rfl) e_nil)) (W2 A)) (e_var rfl) d1) (e_or (neD_at (e_call (e_cons (e_var rfl) (e_cons (e_var rfl) e_nil)) (W3 A)) (e_var rfl) d1) (neD_at (e_call (e_cons (e_var rfl) (e_cons (e_var rfl) e_nil)) (W4 A)) (e_var rfl) d1))) rfl)
      (t_seq (t_set (e_call (e_cons (e_var rfl) (e_cons (e_op (e_var rfl) e_c o_sub) e_nil)) (V2 A)))
      (t_seq (t_if0 (e_or (neD_at (x := mEnd) (ix1 _ rfl) (e_tup (e_cons e_c e_nil) (by decide)) rfl) (neD_at (x := .tup (outM sh N)) (ix0 _ rfl) (sl _ rfl rfl) mono59)) rfl)
      (t_ret ?_)))))))))⟩
    unfold mAndV
    rw [eqD_at (e_call (e_cons (e_var rfl) (e_cons (e_op (e_var rfl) e_c o_sub) e_nil)) (V3 A)) (e_var rfl) d2]
    show mOp oEqD _ _ _ A = _
    exact eqD_at (e_call (e_cons (e_var rfl) (e_cons (e_op (e_var rfl) e_c o_sub) e_nil)) (V4 A)) (e_var rfl) d2
end Zg
set_option Elab.async false
set_option maxRecDepth 100000
set_option maxHeartbeats 4000000
set_option linter.all false
/-! ZJ: the law's def keeps its promise. -/
namespace Zg
open PySem L2
def spZ : Sp := fun vs H Q _ => ∃ (a : Addr) (o : Obj) (is : List Int), vs = [.ref a] ∧ H a = some (.frz o (.lst (is.map V.int))) ∧ is.length ≤ 63 ∧ ∀ H', Q (.bl true) H'
theorem ints_rvs {G : Gm} {ρ : Nat → Addr} {n : Nat} {H : Hp} : ∀ is : List Int, RVs G ρ n H (is.map .int) (is.map V.int)
  | [] => .nil
  | i :: is => .cons (.int i) (ints_rvs is)
/-- the row of a shape under an interpreter -/
structure Rows3 (sh : Shp) : Prop where
  t : ∃ n, shB iTow (progF sh) sh n = true
  p : ∃ n, shB iPla (plainF sh) sh n = true
  m : ∃ n, shB iMac (codeF sh) sh n = true
  c : puB m_collapse (progF sh) (plainF sh) = true
  q : puB m_compile_plain (plainF sh) (codeF sh) = true
theorem rows3 : ∀ {sh : Shp}, okSh sh = true → Rows3 sh
  | .d, _ => ⟨⟨_, k_d_tow⟩, ⟨_, k_d_pla⟩, ⟨_, k_d_mac⟩, pc_d, pp_d⟩
  | .c false false 0, _ => ⟨⟨_, k_cff0_tow⟩, ⟨_, k_cff0_pla⟩, ⟨_, k_cff0_mac⟩, pc_cff0, pp_cff0⟩
  | .c false false 1, _ => ⟨⟨_, k_cff1_tow⟩, ⟨_, k_cff1_pla⟩, ⟨_, k_cff1_mac⟩, pc_cff1, pp_cff1⟩
  | .c false false 2, _ => ⟨⟨_, k_cff2_tow⟩, ⟨_, k_cff2_pla⟩, ⟨_, k_cff2_mac⟩, pc_cff2, pp_cff2⟩
  | .c false false 3, _ => ⟨⟨_, k_cff3_tow⟩, ⟨_, k_cff3_pla⟩, ⟨_, k_cff3_mac⟩, pc_cff3, pp_cff3⟩
  | .c false true 0, _ => ⟨⟨_, k_cft0_tow⟩, ⟨_, k_cft0_pla⟩, ⟨_, k_cft0_mac⟩, pc_cft0, pp_cft0⟩
  | .c false true 1, _ => ⟨⟨_, k_cft1_tow⟩, ⟨_, k_cft1_pla⟩, ⟨_, k_cft1_mac⟩, pc_cft1, pp_cft1⟩
  | .c false true 2, _ => ⟨⟨_, k_cft2_tow⟩, ⟨_, k_cft2_pla⟩, ⟨_, k_cft2_mac⟩, pc_cft2, pp_cft2⟩
  | .c false true 3, _ => ⟨⟨_, k_cft3_tow⟩, ⟨_, k_cft3_pla⟩, ⟨_, k_cft3_mac⟩, pc_cft3, pp_cft3⟩
  | .c true false 0, _ => ⟨⟨_, k_ctf0_tow⟩, ⟨_, k_ctf0_pla⟩, ⟨_, k_ctf0_mac⟩, pc_ctf0, pp_ctf0⟩
  | .c true false 1, _ => ⟨⟨_, k_ctf1_tow⟩, ⟨_, k_ctf1_pla⟩, ⟨_, k_ctf1_mac⟩, pc_ctf1, pp_ctf1⟩
  | .c true false 2, _ => ⟨⟨_, k_ctf2_tow⟩, ⟨_, k_ctf2_pla⟩, ⟨_, k_ctf2_mac⟩, pc_ctf2, pp_ctf2⟩
  | .c true false 3, _ => ⟨⟨_, k_ctf3_tow⟩, ⟨_, k_ctf3_pla⟩, ⟨_, k_ctf3_mac⟩, pc_ctf3, pp_ctf3⟩
  | .c true true 0, _ => ⟨⟨_, k_ctt0_tow⟩, ⟨_, k_ctt0_pla⟩, ⟨_, k_ctt0_mac⟩, pc_ctt0, pp_ctt0⟩
  | .c true true 1, _ => ⟨⟨_, k_ctt1_tow⟩, ⟨_, k_ctt1_pla⟩, ⟨_, k_ctt1_mac⟩, pc_ctt1, pp_ctt1⟩
  | .c true true 2, _ => ⟨⟨_, k_ctt2_tow⟩, ⟨_, k_ctt2_pla⟩, ⟨_, k_ctt2_mac⟩, pc_ctt2, pp_ctt2⟩
  | .c true true 3, _ => ⟨⟨_, k_ctt3_tow⟩, ⟨_, k_ctt3_pla⟩, ⟨_, k_ctt3_mac⟩, pc_ctt3, pp_ctt3⟩
  | .c _ _ (_ + 4), h => by cases h
theorem orM_1 {m1 m2 : MF} {xs : List AV} {A : AH} {r : AV × AH} (h : m1 xs A = some r) : orM m1 m2 xs A = some r := by
  unfold orM
  rw [h]
theorem orM_2 {avs xs : List AV} {w : AV} {m2 : MF} {A : AH} {r : AV × AH} (h : xs ≠ avs) (h2 : m2 xs A = some r) : orM (orc avs w) m2 xs A = some r := by
  unfold orM orc
  rw [if_neg h]
  exact h2
theorem ne_steps {e : AV} {n : Int} : [e, .int (n - 1)] ≠ [e, AV.int n] := fun h => by
  have h2 : AV.int (n - 1) = .int n := (List.cons.inj (List.cons.inj h).2).1
  have := AV.int.inj h2
  omega
theorem law_fo {G : Gm} (F : FZ G) (is : List Int) (hl : is.length ≤ 63) : ∃ m : MF, Fo G 65 (He.fAd G.K ("law", none)) ["_law_script"] m ∧ ∃ A', m [.ref 0] (lawA is) = some (.bl true, A') := by
  obtain ⟨sh, N, X, hs, hN, hX, h⟩ := law_ok is hl
  obtain ⟨⟨nt, rt⟩, ⟨np, rp⟩, ⟨nm, rm⟩, rc, rq⟩ := rows3 hs
  have f0 := pu_run (G := G) (j := 64) (f := He.fAd G.K ("collapse", none)) (ps := ["program"]) (fun x => fo_collapse (F.re x)) (tpl_progF hs) (tpl_plainF hs) rc N X hX
  have f1 := pu_run (G := G) (j := 6) (f := He.fAd G.K ("compile_plain", none)) (ps := ["plain"]) (fun x => fo_compile_plain (F.re x)) (tpl_plainF hs) (tpl_codeF hs) rq N X hX
  have f2 := sh_run (ipx_tow F) (tpl_progF hs) hs rt hX hN
  have f3 := sh_run (ipx_pla F) (tpl_plainF hs) hs rp hX hN
  have f4 := sh_run (ipx_mac F) (tpl_codeF hs) hs rm hX hN
  refine ⟨_, fx_law F f0 f1 f2 f3 f4, h _ _ _ _ _ ⟨fun A => orc_at, fun A => orc_at, fun A => orM_1 orc_at, fun A => orM_2 ne_steps orc_at, fun A => orM_1 orc_at, fun A => orM_2 ne_steps orc_at, fun A => orM_1 orc_at, fun A => orM_2 ne_steps orc_at⟩⟩
theorem lawA_get {is : List Int} {i : Nat} {o : AO} (h : (lawA is).get i = some o) : i = 0 ∧ o = .fz (is.map .int) := by
  cases i with
  | zero =>
    cases h
    exact ⟨rfl, rfl⟩
  | succ i =>
    have h : cond (odd i) (none : Option AO) none = some o := h
    cases q : odd i <;> rw [q] at h <;> cases h
theorem law_fn {G : Gm} (F : FZ G) : ∃ fd, FdAt G.K (He.fAd G.K ("law", none)) fd ∧ Binds G.K fd ["_law_script"] [] ∧ FnOk G.P G.w G.K G.mg G.base CX0 65 (He.fAd G.K ("law", none)) fd ["_law_script"] spZ := by
  obtain ⟨m0, h0, _⟩ := law_fo F [] (by decide)
  obtain ⟨fd, a1, a2, a3⟩ := h0.ex
  refine ⟨fd, a3, a2, ⟨fun vs H Q E ⟨a, o, is, e, _⟩ => by rw [e]; rfl, fun A outer s H args us vs Q E hr he hb hv hs => ?_⟩⟩
  obtain ⟨a, o, is, rfl, ha, hl, hq⟩ := hs
  obtain ⟨m, h1, A', h2⟩ := law_fo F is hl
  obtain ⟨fd2, b1, b2, b3⟩ := h1.ex
  have := a3.uniq b3
  subst this
  refine b1.run A outer s H args us [.ref a] Q E hr he hb hv ⟨rfl, fun _ => a, lawA is, [.ref 0], .bl true, A', ⟨fun i o h => by rw [(lawA_get h).1]; exact Nat.zero_lt_one, fun i o h => ?_, fun i j o u h h' _ => by rw [(lawA_get h).1, (lawA_get h').1]⟩, .one (.ref (ρ := fun _ => a) (show 0 < 1 by decide)), h2, fun ρ' H' u e R r => ?_⟩
  · obtain ⟨rfl, rfl⟩ := lawA_get h
    exact ⟨_, _, ha, ints_rvs is⟩
  · cases r
    exact hq H'
end Zg
set_option Elab.async false
set_option maxRecDepth 100000
set_option maxHeartbeats 0
set_option linter.all false
/-! ZZ: the law. -/
open PySem PySem.W PySem.Calls PyProof.Rows
theorem PySem.Challenge.cw_ziggurat_k15_long_runs_holds : PySem.Challenge.rw_ziggurat_k15_long_runs.Holds := by
  w_on; o_law
  refine HandSHeadRun.head_any (r := OpenLaw.row PySem.Challenge.rw_ziggurat_k15_long_runs) (q := view (OpenLaw.row PySem.Challenge.rw_ziggurat_k15_long_runs).prog [55]) (H := Zg.hkZ) (ob := Zg.obZ) (M := 6200) (loose := Zg.looseN) (d := HandSHeadRun.topDef (OpenLaw.row PySem.Challenge.rw_ziggurat_k15_long_runs).prog 55) (kwd := []) Zg.obZ_eq
    (by kernel_rfl) (fun s => by kernel_rfl) Zg.runZ (by kernel_rfl) (by kernel_rfl) (by kernel_rfl) (by rfl) (by first | assumption | decide +kernel) (by decide +kernel) ⟨rfl, rfl, rfl, rfl, rfl, by decide +kernel⟩ ?hw ?hc
  case hw => w_witness2
  case hc =>
    refine L2.walk_ofE (l := PySem.Challenge.rw_ziggurat_k15_long_runs) (n := 63) (k := 65) (x := "_law_script") (CX := L2.CX0) rfl (by decide) (by kernel_rfl) ⟨rfl, by decide, by decide⟩ ?F (fun _ _ _ _ z => z)
    intro w mg fa h Y G hmg0
    obtain ⟨K, KX, c⟩ := Y
    have hmg : mg ("law" : PySem.Str) = some (.ref fa) := by
      have e : (HandSHeadRun.topDef (OpenLaw.row PySem.Challenge.rw_ziggurat_k15_long_runs).prog 55).name = ("law" : PySem.Str) := by kernel_rfl
      rw [← e]
      exact hmg0
    have F0 := fun base => Zg.fz_of (P := (PySem.Challenge.rw_ziggurat_k15_long_runs).prog) (base := base) KX G c
    have e : fa = He.fAd K ("law", none) := by
      have h1 : mg ("law" : PySem.Str) = some (.ref (He.fAd K ("law", none))) := (F0 h).glo 25 "law" rfl
      exact Value.ref.inj (Option.some.inj (hmg.symm.trans h1))
    subst e
    obtain ⟨fd, a1, a2, _⟩ := Zg.law_fn (F0 h)
    refine ⟨K, fd, Zg.spZ, KX, ?_, fun H a ns hl ho hS => ?_, fun base k1 k2 => ?_⟩
    · obtain ⟨fd3, F3⟩ := (F0 h).dd 92 ⟨("law", none), "law", "law", L2.defArgs Zg.st_law, L2.defBody Zg.st_law, L2.defScope Zg.st_law, [], []⟩ rfl
      have := Zg.FdAt.uniq a1 (Zg.fdAt_of F3)
      subst this
      have b := L2.FunD.bindsA (ps := ["_law_script"]) F3 fun _ _ _ _ _ _ us hl => match us, hl with | [_], _ => rfl
      exact fun s v => b s [v] rfl
    · rcases hS with (hS | ⟨o, hS⟩) | ⟨o, its, n, hk, hc, _⟩
      · rcases ho a with h0 | ⟨o, xs, h0⟩
        · rw [h0] at hS
          cases hS
        · rw [h0] at hS
          cases hS
      · exact ⟨a, o, ns, rfl, hS, hl, fun _ => rfl⟩
      · obtain ⟨_, ex⟩ := Zg.and_yes c.more
        obtain ⟨_, ex⟩ := Zg.and_yes ex
        obtain ⟨_, ex⟩ := Zg.and_yes ex
        exact absurd hc (Zg.nol_ok ex hk)
    · obtain ⟨fd2, b1, b2, b3⟩ := Zg.law_fn (F0 base)
      have := Zg.FdAt.uniq a1 b1
      subst this
      exact b3
